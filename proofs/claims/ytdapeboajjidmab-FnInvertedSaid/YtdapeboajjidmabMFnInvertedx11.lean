/- Laid by a program of this session out of the kit's print for the law FnInverted: what it says of the machine is proved here, function by function; each contract under the conditions that it names. -/
import Derived.Test.YtdapeboajjidmabMFnInvertedx0
import Derived.Test.YtdapeboajjidmabMFnInvertedx4
import Derived.Test.YtdapeboajjidmabMFnInvertedx5
import Derived.Test.YtdapeboajjidmabMFnInvertedx8
import Derived.Test.YtdapeboajjidmabMFnInvertedx10
import Derived.Deep.RegionLaw
import Derived.Lib.Overlaps
import Derived.Laws.Externs
import Derived.Lib.AppendZeros
import Derived.Lib.AppendZerosOnto
import Derived.Laws.NewBlocks
import Derived.Lib.SliceRun
import Derived.Test.YtdapeboajjidmabSliceOps
namespace Go.Proofs.Ytdapeboajjidmab.PFnInverted
open Go.RowKit Go.Proofs.YtdapeboajjidmabW.PrintWords Go.Proofs.YtdapeboajjidmabW.PrintLast Go.Proofs.YtdapeboajjidmabW.PrintMore Go.Proofs.Ytdapeboajjidmab.SliceOps
attribute [local go_sem] max2_int min2_int max_two min_two max_three min_three max_four min_four   -- for this text's walks alone
set_option linter.unusedVariables false
set_option linter.unusedSimpArgs false

/-! ### spec_l13Script: function 126 -/
mutual
def spec_l13Script.l0 : Nat → List (S121) → List (S62) → Int → List Int → Int → Int → Option ((List (S121)) × Int × Int)
 | 0, _, _, _, _, _, _ => none
 | k + 1, x7, x8, x9, x1000, x1001, x1002 => if x9 > 0 then ((spec_l13Op.f k x1000 x1001 x1002 x8).bind fun bt412 => ((spec_ApplyOp.f k x8 bt412.1 bt412.2.1 bt412.2.2.1 bt412.2.2.2.1 bt412.2.2.2.2.1).bind fun bt422 => (if bt422.2 = 0 then (spec_l13Script.j1 k x7 x8 x9 bt422.1 bt422.2 true x1000 bt412.2.2.2.2.2.1 bt412.2.2.2.2.2.2 bt412.1 bt412.2.1 bt412.2.2.1 bt412.2.2.2.1 bt412.2.2.2.2.1) else ((spec_l1Once.f x1000 bt412.2.2.2.2.2.1 bt412.2.2.2.2.2.2 3).bind fun bt426 => (spec_l13Script.j1 k x7 x8 x9 bt422.1 bt422.2 bt426.1 x1000 bt426.2.1 bt426.2.2 bt412.1 bt412.2.1 bt412.2.2.1 bt412.2.2.2.1 bt412.2.2.2.2.1))))) else (some (x7, x1001, x1002))
def spec_l13Script.j1 : Nat → List (S121) → List (S62) → Int → List (S62) → Int → Bool → List Int → Int → Int → Int → List Int → Int → Int → Int → Option ((List (S121)) × Int × Int)
 | 0, _, _, _, _, _, _, _, _, _, _, _, _, _, _ => none
 | k + 1, x7, x8, x9, x11, x12, x37, x1000, x1001, x1002, x422000, x422001, x422002, x422003, x422004 => if x37 = true then (if x7.length < 2513169434916 then ((some (x7 ++ [(⟨x422000, x422001, x422002, x422003, x422004⟩ : S121)] : List (S121))).bind fun y429 => (if x12 = 0 then (spec_l13Script.l0 k y429 x11 (wrap64 (x9 - 1)) x1000 x1001 x1002) else (spec_l13Script.l0 k y429 x8 (wrap64 (x9 - 1)) x1000 x1001 x1002))) else (none)) else (if x12 = 0 then (spec_l13Script.l0 k x7 x11 (wrap64 (x9 - 1)) x1000 x1001 x1002) else (spec_l13Script.l0 k x7 x8 (wrap64 (x9 - 1)) x1000 x1001 x1002))
end
def spec_l13Script.f (k : Nat) (s0_0 : List Int) (s0_1 : Int) (s0_2 : Int) (l1 : List (S62)) (a2 : Int) : Option ((List (S121)) × Int × Int) := (spec_l3Copy.f l1).bind fun t406 => ((spec_l1Below.f s0_0 s0_1 s0_2 a2).bind fun bt409 => (spec_l13Script.l0 k (([] : List (S121))) t406 bt409.1 s0_0 bt409.2.1 bt409.2.2))
set_option maxHeartbeats 8000000 in
set_option maxRecDepth 100000 in
theorem spec_l13Script.calls (k : Nat) (g : Nat) (s0_0 : List Int) (s0_1 : Int) (s0_2 : Int) (A1 : Option Addr) (c1 : Nat) (l1 : List (S62)) (a2 : Int) (r1 : List (S121)) (r2 : Int) (r3 : Int) (w0 w : World) (hI : IsS132 w0 w g s0_0 s0_1 s0_2) (hB : Below w0.heap.size w0 w) (hr1 : ∀ W_, KeepBut w W_ g none → Kd.C k62 W_ A1 l1.length l1) (hc1 : l1.length ≤ c1) (h : spec_l13Script.f k s0_0 s0_1 s0_2 l1 a2 = some (r1, r2, r3)) :
  Calls Try.prog 126 #[.pointer (some ⟨g, 0, none⟩), .slice A1 l1.length c1, .int .i64 a2] w fun e w' => ∃ v0_ : Value, e = .returned (v0_) ∧ Kd.S k121 121 w' w.heap.size (fun _ => True) v0_ r1 ∧ IsS132 w0 w' g s0_0 r2 r3 ∧ Below w0.heap.size w0 w' ∧ KeepBut w w' g none := by
 have hu121 := Try.underlying121
 have HR1 := Aside0.mk hr1
 have HC1 := Aside0.mk hc1
 clear hr1 hc1
 have HI0 := Aside0.mk hI
 have HK := Aside0.mk (KeepBut.refl w g none)
 have HL := Aside0.mk hB.size
 clear hI
 have HW0 := Aside0.mk hB.size
 have HB := Aside0.mk hB
 clear hB
 have H : ((spec_l3Copy.f l1).bind fun t406 => ((spec_l1Below.f s0_0 s0_1 s0_2 a2).bind fun bt409 => (spec_l13Script.l0 k (([] : List (S121))) t406 bt409.1 s0_0 bt409.2.1 bt409.2.2))) = some (r1, r2, r3) := h
 clear h
 first | ((with_reducible have hz_ := gy_ H); obtain ⟨y403, Ny403, H⟩ := hz_) | (generalize hy_ : (([] : List (S121))) = y403 at H; have Ny403 := Aside0.mk hy_.symm; clear hy_)
 obtain ⟨t406, A4, H⟩ := bnd_ H
 replace H := Option.bind_eq_some_iff.mp H
 obtain ⟨⟨t409, t410, t411⟩, A50, H⟩ := H
 try dsimp only at H
 have A5 := Aside0.mk A50
 clear A50
 have H' := Aside0.mk H
 clear H
 go_enter Try.func126, Try.ntmps126
 go_wp2_with (first | ((with_reducible refine gate_dst (N := 13) rfl ?_); refine Kd.S_lit k121 _ 121 ?hg (N := 13) ?hd (xs := ([] : List (S121))) (inner := []) (ok := fun _ => True) (okp := fun _ => True) ?hr ?hp (fun _ hk => hk) trivial (Below.refl _ _) (Nat.le_refl _) (by simp) ?_; (case hd => rfl); (case hg => rfl); (case hr => exact z21_); (case hp => exact z144_); intro v404 w6 ho7 hb hg_ hnew_; clear hg_ hnew_; (first | rw [← Ny403.out] at ho7 | (simp only [Int.reduceToNat] at ho7; rw [← Ny403.out] at ho7)); have HO405 := Aside0.mk (Kd.S_lower ho7 (keep_size (w := w) (g := g) (row := none) z3_)); replace HK := Aside0.mk (KeepBut.trans z3_ (KeepBut.of_below hb g none) (.inl rfl)); replace HB := Aside0.mk (below_step z5_ hb); replace HI0 := Aside0.mk (IsS132.below z4_ hb); clear hb ho7) | ((with_reducible refine gate_callee (f := 90) rfl ?_); refine goesL_ (some 15) rfl rfl Try.func90 (by kernel_rfl) rfl #[.slice A1 l1.length c1] rfl z1_ ?_; (with_reducible refine (spec_l3Copy.calls _ _ l1 t406 _ ?side1 ?side2 A4.out).mono ?_); (case side1 => exact Kd.C_foot_now HR1.out z3_); (case side2 => exact HC1.out); rintro e w8 ⟨v407, rfl, ho0, hb⟩; refine ⟨_, rfl, ?_⟩; replace HO405 := Aside0.mk (Kd.S_below z175_ hb); have HO408 := Aside0.mk (Kd.R_lower ho0 (keep_size (w := w) (g := g) (row := none) z3_)); replace HK := Aside0.mk (KeepBut.trans z3_ (KeepBut.of_below hb g none) (.inl rfl)); replace HB := Aside0.mk (below_step z5_ hb); replace HI0 := Aside0.mk (IsS132.below z4_ hb); (try clear hb ho0)) | ((with_reducible refine gate_callee (f := 95) rfl ?_); refine goesL_ (some 18) rfl rfl Try.func95 (by kernel_rfl) rfl #[.pointer (some ⟨g, 0, none⟩), .int .i64 a2] rfl z1_ ?_; (with_reducible refine (spec_l1Below.calls g s0_0 s0_1 s0_2 a2 t409 t410 t411 w0 _ ?side1 ?side2 A5.out).mono ?_); (case side1 => exact z4_); (case side2 => exact z5_); rintro e w9 ⟨rfl, hi, hb, hk⟩; refine ⟨_, rfl, ?_⟩; replace HO405 := Aside0.mk (Kd.S_mono (Kd.S_keep (IsS132.apartS (show IsS132 w0 _ g s0_0 s0_1 s0_2 from by repeat (first | (with_reducible first | exact HI0.out | apply IsS132.alloc | apply IsS132.drewN | apply IsS132.drew | apply IsS132.set_1 | apply IsS132.set_2) | exact HI0.out)) z175_ (by decide)) hk (fun _ h => h.2)) (fun _ h => h.1)); replace HO408 := Aside0.mk (Kd.R_mono (Kd.R_keep (IsS132.apart (show IsS132 w0 _ g s0_0 s0_1 s0_2 from by repeat (first | (with_reducible first | exact HI0.out | apply IsS132.alloc | apply IsS132.drewN | apply IsS132.drew | apply IsS132.set_1 | apply IsS132.set_2) | exact HI0.out)) z220_ (by decide)) hk (fun _ h => h.2)) (fun _ h => h.1)); replace HK := Aside0.mk (KeepBut.trans z3_ hk (.inl rfl)); replace HB := Aside0.mk (hb); replace HI0 := Aside0.mk (hi); (try clear hb hk hi)))
 go_loopg [7, 8, 9] k (fun kq v7 v8 v9 w' => ∃ (x7_1 : List (S121)) (x8_1 : List (S62)) (x9_1 : Int) (x1001_1 : Int) (x1002_1 : Int), v9 = .int .i64 x9_1 ∧ Aside0 (spec_l13Script.l0 kq x7_1 x8_1 x9_1 s0_0 x1001_1 x1002_1 = some (r1, r2, r3)) ∧ Aside0 (kq ≤ k) ∧ Aside0 (Kd.S k121 121 w' w.heap.size (fun _ => True) v7 x7_1) ∧ Aside0 (Kd.R k62 62 w' w.heap.size (fun _ => True) v8 x8_1) ∧ Aside0 (IsS132 w0 w' g s0_0 x1001_1 x1002_1) ∧ Aside0 (KeepBut w w' g none) ∧ Aside0 (Below w0.heap.size w0 w'))
 case atStart => exact ⟨(y403), (t406), (t409), (t410), (t411), z15_, H', ⟨Nat.le_refl _⟩, ⟨z175_⟩, ⟨z220_⟩, ⟨z4_⟩, ⟨z3_⟩, ⟨z5_⟩⟩
 case round =>
  clear H'
  try clear c1
  try clear p2
  try clear c9
  obtain ⟨x7_1, x8_1, x9_1, x1001_1, x1002_1, rfl, HA, HK1, HO_7, HO_8, HI0, HK, HB⟩ := hrel
  cases gk with
  | zero => exact absurd HA.out (by simp [spec_l13Script.l0])
  | succ k1 =>
   have H := HA.out
   clear HA
   simp only [spec_l13Script.l0] at H
   by_cases c10 : x9_1 > 0
   ·rw [if_pos c10] at H
    have c10b0 := decide_eq_true c10
    clear c10
    replace H := Option.bind_eq_some_iff.mp H
    obtain ⟨⟨t412, t413, t416, t417, t418, t419, t420⟩, A110, H⟩ := H
    try dsimp only at H
    have A11 := Aside0.mk A110
    clear A110
    replace H := Option.bind_eq_some_iff.mp H
    obtain ⟨⟨t422, t425⟩, A120, H⟩ := H
    try dsimp only at H
    have A12 := Aside0.mk A120
    clear A120
    have HC13 := Aside0.mk H
    clear H
    obtain ⟨Ao14, co14, eo14⟩ := Kd.R_slice HO_8.out
    subst eo14
    go_upto_region 8 with (first | ((with_reducible refine gate_callee (f := 138) rfl ?_); refine goesL_ (some 25) rfl rfl Try.func138 (by kernel_rfl) rfl #[.pointer (some ⟨g, 0, none⟩), .slice Ao14 x8_1.length co14] rfl z1_ ?_; (with_reducible refine (spec_l13Op.calls k1 g s0_0 x1001_1 x1002_1 _ _ x8_1 t412 t413 t416 t417 t418 t419 t420 w0 _ ?side1 ?side2 ?side3 ?side4 A11.out).mono ?_); (case side1 => exact z4_); (case side2 => exact z5_); (case side3 => exact Kd.C_foot_own (IsS132.apart (show IsS132 w0 _ g s0_0 x1001_1 x1002_1 from by repeat (first | (with_reducible first | exact HI0.out | apply IsS132.alloc | apply IsS132.drewN | apply IsS132.drew | apply IsS132.set_1 | apply IsS132.set_2) | exact HI0.out)) z48_ (by decide)) (fun _ h_ => h_.2)); (case side4 => exact z173_); rintro e w15 ⟨v414, rfl, ho0, hi, hb, hk⟩; refine ⟨_, rfl, ?_⟩; replace HO_7 := Aside0.mk (Kd.S_mono (Kd.S_told (Kd.S_oldK (IsS132.apartS (show IsS132 w0 _ g s0_0 x1001_1 x1002_1 from by repeat (first | (with_reducible first | exact HI0.out | apply IsS132.alloc | apply IsS132.drewN | apply IsS132.drew | apply IsS132.set_1 | apply IsS132.set_2) | exact HI0.out)) z97_ (by decide)) hk) (Kd.R_base ho0)) (fun _ h_ => h_.1)); replace HO_8 := Aside0.mk (Kd.R_mono (Kd.R_keep (IsS132.apart (show IsS132 w0 _ g s0_0 x1001_1 x1002_1 from by repeat (first | (with_reducible first | exact HI0.out | apply IsS132.alloc | apply IsS132.drewN | apply IsS132.drew | apply IsS132.set_1 | apply IsS132.set_2) | exact HI0.out)) z48_ (by decide)) hk (fun _ h => h.2)) (fun _ h => h.1)); have HO415 := Aside0.mk (Kd.R_lower ho0 (keep_size (w := w) (g := g) (row := none) z3_)); replace HK := Aside0.mk (KeepBut.trans z3_ hk (.inl rfl)); replace HB := Aside0.mk (hb); replace HI0 := Aside0.mk (hi); (try clear hb hk hi ho0)) | ((with_reducible refine gate_dst (N := 10) rfl ?_); refine box_event ?hg (N := 10) ?hd (cs := #[.int .i64 0, .slice none 0 0, .int .i64 0, .int .i64 0, .int .i64 0]) (t := 121) ?hr ?_; (case hd => rfl); (case hg => rfl); (case hr => exact z21_); intro gb421 hg w16 hbox hb; replace HO_7 := Aside0.mk (Kd.S_below (Kd.S_elderB z97_ gb421 (Nat.le_of_eq hg.symm)) hb); replace HO_8 := Aside0.mk (Kd.R_below z48_ hb); replace HO415 := Aside0.mk (Kd.R_below z150_ hb); replace HB := Aside0.mk (below_step z5_ hb); have BK421 := Aside0.mk (hbox); have GW421 := Aside0.mk ((by rw [hg]; exact (keep_size (w := w) (g := g) (row := none) z3_) : w.heap.size ≤ gb421)); have GE421 := Aside0.mk ((Nat.le_trans HW0.out (by rw [hg]; exact (keep_size (w := w) (g := g) (row := none) z3_) : w.heap.size ≤ gb421) : w0.heap.size ≤ gb421)); replace HK := Aside0.mk (KeepBut.trans z3_ (KeepBut.of_below hb g none) (.inl rfl)); have NB0_421 := Aside0.mk ((by rw [hg]; exact Nat.ne_of_lt (IsS132.lt (show IsS132 w0 _ g s0_0 t419 t420 from by repeat (first | (with_reducible first | exact HI0.out | apply IsS132.alloc | apply IsS132.drewN | apply IsS132.drew | apply IsS132.set_1 | apply IsS132.set_2) | exact HI0.out))) : g ≠ gb421)); have NB421_0 := Aside0.mk ((by rw [hg]; exact Nat.ne_of_gt (IsS132.lt (show IsS132 w0 _ g s0_0 t419 t420 from by repeat (first | (with_reducible first | exact HI0.out | apply IsS132.alloc | apply IsS132.drewN | apply IsS132.drew | apply IsS132.set_1 | apply IsS132.set_2) | exact HI0.out))) : gb421 ≠ g)); replace HI0 := Aside0.mk (IsS132.below z4_ hb); clear hb hbox hg; have hnb17 := NB421_0.out; have hnc17 := NB0_421.out; obtain ⟨hcz18_0, hcz18_1, hcz18_2, hcz18_3, hcz18_4, hfz18_0, hfz18_1, hfz18_2, hfz18_3, hfz18_4⟩ := bx5_ BK421.out; obtain ⟨Ao19, co19, eo19⟩ := Kd.R_slice HO415.out; subst eo19) | ((with_reducible refine gate_callee (f := 100) rfl ?_); refine goesL_ (some 29) rfl rfl Try.func100 (by kernel_rfl) rfl #[.slice Ao14 x8_1.length co14, .agg #[.int .i64 t412, .slice Ao19 t413.length co19, .int .i64 t416, .int .i64 t417, .int .i64 t418]] rfl z1_ ?_; (with_reducible refine (spec_ApplyOp.calls k1 _ _ x8_1 t412 _ _ t413 t416 t417 t418 t422 t425 _ ?side1 ?side2 ?side3 ?side4 A12.out).mono ?_); (case side1 => refine (Kd.R_reads' (e := 62) (base := w.heap.size) (ok := fun k_ => True) (n := x8_1.length) (c := co14) ?_).2.2; exact z63_); (case side2 => exact z173_); (case side3 => refine (Kd.R_reads' (e := 3) (base := w.heap.size) (ok := fun k_ => True) (n := t413.length) (c := co19) ?_).2.2; exact z76_); (case side4 => exact (Kd.R_reads' HO415.out).2.1); rintro e w20 ⟨v423, rfl, ho0, hb⟩; refine ⟨_, rfl, ?_⟩; replace HO_7 := Aside0.mk (Kd.S_below (by (with_reducible repeat (first | apply Kd.S_alloc | apply Kd.S_drewN | apply Kd.S_drew)); exact (Kd.S_mono (Kd.S_far (p := ⟨gb421, 4, none⟩) (Kd.S_far (p := ⟨gb421, 3, none⟩) (Kd.S_far (p := ⟨gb421, 2, none⟩) (Kd.S_far (p := ⟨gb421, 1, none⟩) (Kd.S_far (p := ⟨gb421, 0, none⟩) (Kd.S_mono HO_7.out (fun k_ hk => (⟨hk, hk.2⟩ : _ ∧ k_ ≠ gb421))) (fun _ hk => hk.2) (.int .i64 t412)) (fun _ hk => hk.2) (.slice Ao19 t413.length co19)) (fun _ hk => hk.2) (.int .i64 t416)) (fun _ hk => hk.2) (.int .i64 t417)) (fun _ hk => hk.2) (.int .i64 t418)) (fun _ h_ => h_.1))) hb); replace HO415 := Aside0.mk (Kd.R_below z76_ hb); have HO424 := Aside0.mk (Kd.R_lower (Kd.R_new' ho0 (Kd.R_lt z63_)) (keep_size (w := w) (g := g) (row := none) z45_)); replace HO_8 := Aside0.mk (Kd.R_elder' z63_ (Kd.R_base ho0) hb); replace BK421 := Aside0.mk (blk_below (g := gb421) (o := .cells #[.int .i64 t412, .slice Ao19 t413.length co19, .int .i64 t416, .int .i64 t417, .int .i64 t418] 121 (0, 0)) (by (with_reducible repeat (first | refine blk_drewN ?_ _ | refine blk_drew ?_ | refine blk_alloc ?_ _)); refine blk_put (cs := #[.int .i64 t412, .slice Ao19 t413.length co19, .int .i64 t416, .int .i64 t417, .int .i64 0]) ?_ 4 _ rfl; (with_reducible repeat (first | refine blk_drewN ?_ _ | refine blk_drew ?_ | refine blk_alloc ?_ _)); refine blk_put (cs := #[.int .i64 t412, .slice Ao19 t413.length co19, .int .i64 t416, .int .i64 0, .int .i64 0]) ?_ 3 _ rfl; (with_reducible repeat (first | refine blk_drewN ?_ _ | refine blk_drew ?_ | refine blk_alloc ?_ _)); refine blk_put (cs := #[.int .i64 t412, .slice Ao19 t413.length co19, .int .i64 0, .int .i64 0, .int .i64 0]) ?_ 2 _ rfl; (with_reducible repeat (first | refine blk_drewN ?_ _ | refine blk_drew ?_ | refine blk_alloc ?_ _)); refine blk_put (cs := #[.int .i64 t412, .slice none 0 0, .int .i64 0, .int .i64 0, .int .i64 0]) ?_ 1 _ rfl; (with_reducible repeat (first | refine blk_drewN ?_ _ | refine blk_drew ?_ | refine blk_alloc ?_ _)); refine blk_put (cs := #[.int .i64 0, .slice none 0 0, .int .i64 0, .int .i64 0, .int .i64 0]) ?_ 0 _ rfl; (with_reducible repeat (first | refine blk_drewN ?_ _ | refine blk_drew ?_ | refine blk_alloc ?_ _)); exact BK421.out) hb); replace HK := Aside0.mk (KeepBut.trans z45_ (KeepBut.of_below hb g none) (.inl rfl)); replace HB := Aside0.mk (below_step z50_ hb); replace HI0 := Aside0.mk (IsS132.below (show IsS132 w0 (((((w16.setCell ⟨gb421, 0, none⟩ (.int .i64 t412)).setCell ⟨gb421, 1, none⟩ (.slice Ao19 t413.length co19)).setCell ⟨gb421, 2, none⟩ (.int .i64 t416)).setCell ⟨gb421, 3, none⟩ (.int .i64 t417)).setCell ⟨gb421, 4, none⟩ (.int .i64 t418)) g s0_0 t419 t420 from by repeat (first | (with_reducible first | exact HI0.out | apply IsS132.alloc | apply IsS132.drewN | apply IsS132.drew | apply IsS132.set_1 | apply IsS132.set_2 | refine IsS132.far ?_ NB0_421.out _) | exact HI0.out)) hb); (try clear hb ho0)))
    (try simp only [Act.put, List.setIfInBounds_toArray, List.set_cons_zero, List.set_cons_succ])
    go_cut [37] (fun v37 wc => ∃ (kq : Nat) (x37_12 : Bool) (x1001_12 : Int) (x1002_12 : Int), v37 = .bool x37_12 ∧ Aside0 (spec_l13Script.j1 kq x7_1 x8_1 x9_1 t422 t425 x37_12 s0_0 x1001_12 x1002_12 t412 t413 t416 t417 t418 = some (r1, r2, r3)) ∧ Aside0 (kq ≤ k1) ∧ Aside0 (Kd.S k121 121 wc w.heap.size (fun k_ => some k_ ≠ ((.slice Ao19 t413.length co19) : Value).ownBlock ∧ k_ ≠ gb421) u7 x7_1) ∧ Aside0 (Kd.R k62 62 wc w.heap.size (fun k_ => some k_ ≠ (v423 : Value).ownBlock) (.slice Ao14 x8_1.length co14) x8_1) ∧ Aside0 (Kd.R k62 62 wc w.heap.size (fun k_ => some k_ ≠ ((.slice Ao14 x8_1.length co14) : Value).ownBlock) v423 t422) ∧ Aside0 (Kd.R (Kd.int .i64) 3 wc w.heap.size (fun _ => True) (.slice Ao19 t413.length co19) t413) ∧ Aside0 (wc.heap[gb421]? = some (.cells #[.int .i64 t412, (.slice Ao19 t413.length co19), .int .i64 t416, .int .i64 t417, .int .i64 t418] 121 (0, 0))) ∧ Aside0 (IsS132 w0 wc g s0_0 x1001_12 x1002_12) ∧ Aside0 (KeepBut w wc g none) ∧ Aside0 (Below w0.heap.size w0 wc))
    case first =>
     have H := HC13.out
     clear HC13
     by_cases c21 : t425 = 0
     ·rw [if_pos c21] at H
      have c21b0 : (t425 == 0) = true := beq_iff_eq.mpr c21
      have c21b1 : (t425 != 0) = false := bne_eq_false_iff_eq.mpr c21
      clear c21
      (first | rw [c21b0] | rw [c21b1] | (simp only [i64_w, i32_w]; rw [c21b0]) | skip)
      have H' := Aside0.mk H
      clear H
      go_wp2
      go_meet
      case rel => exact ⟨_, (true), (t419), (t420), z15_, H', ⟨z213_⟩, ⟨z190_⟩, ⟨z206_⟩, ⟨z198_⟩, ⟨z150_⟩, ⟨z101_⟩, ⟨z51_⟩, ⟨z45_⟩, ⟨z50_⟩⟩
     ·rw [if_neg c21] at H
      have c21b0 : (t425 == 0) = false := beq_eq_false_iff_ne.mpr c21
      have c21b1 : (t425 != 0) = true := bne_iff_ne.mpr c21
      (first | rw [c21b0] | rw [c21b1] | (simp only [i64_w, i32_w]; rw [c21b0]) | skip)
      replace H := Option.bind_eq_some_iff.mp H
      obtain ⟨⟨t426, t427, t428⟩, A220, H⟩ := H
      try dsimp only at H
      have A22 := Aside0.mk A220
      clear A220
      have H' := Aside0.mk H
      clear H
      go_wp2_with (first | (go_at_call 124; (with_reducible refine (spec_l1Once.calls g s0_0 t419 t420 3 t426 t427 t428 w0 _ ?side1 ?side2 A22.out).mono ?_); (case side1 => exact z51_); (case side2 => exact z50_); rintro e w23 ⟨rfl, hi, hb, hk⟩; replace HO_7 := Aside0.mk (Kd.S_mono (Kd.S_keep (IsS132.apartS (show IsS132 w0 _ g s0_0 t419 t420 from by repeat (first | (with_reducible first | exact HI0.out | apply IsS132.alloc | apply IsS132.drewN | apply IsS132.drew | apply IsS132.set_1 | apply IsS132.set_2 | refine IsS132.far ?_ NB0_421.out _) | exact HI0.out)) z97_ (by decide)) hk (fun _ h => h.2)) (fun _ h => h.1)); replace HO_8 := Aside0.mk (Kd.R_mono (Kd.R_keep (IsS132.apart (show IsS132 w0 _ g s0_0 t419 t420 from by repeat (first | (with_reducible first | exact HI0.out | apply IsS132.alloc | apply IsS132.drewN | apply IsS132.drew | apply IsS132.set_1 | apply IsS132.set_2 | refine IsS132.far ?_ NB0_421.out _) | exact HI0.out)) z48_ (by decide)) hk (fun _ h => h.2)) (fun _ h => h.1)); replace HO415 := Aside0.mk (Kd.R_mono (Kd.R_keep (IsS132.apart (show IsS132 w0 _ g s0_0 t419 t420 from by repeat (first | (with_reducible first | exact HI0.out | apply IsS132.alloc | apply IsS132.drewN | apply IsS132.drew | apply IsS132.set_1 | apply IsS132.set_2 | refine IsS132.far ?_ NB0_421.out _) | exact HI0.out)) z150_ (by decide)) hk (fun _ h => h.2)) (fun _ h => h.1)); replace BK421 := Aside0.mk (KeepBut.blk hk (g' := gb421) (o := .cells #[.int .i64 t412, .slice Ao19 t413.length co19, .int .i64 t416, .int .i64 t417, .int .i64 t418] 121 (0, 0)) z101_ NB421_0.out (by simp)); replace HO424 := Aside0.mk (Kd.R_mono (Kd.R_keep (IsS132.apart (show IsS132 w0 _ g s0_0 t419 t420 from by repeat (first | (with_reducible first | exact HI0.out | apply IsS132.alloc | apply IsS132.drewN | apply IsS132.drew | apply IsS132.set_1 | apply IsS132.set_2 | refine IsS132.far ?_ NB0_421.out _) | exact HI0.out)) (by (with_reducible repeat (first | apply Kd.R_alloc | apply Kd.R_drewN | apply Kd.R_drew)); exact HO424.out) (by decide)) hk (fun _ h => h.2)) (fun _ h => h.1)); replace HK := Aside0.mk (KeepBut.trans z45_ hk (.inl rfl)); replace HB := Aside0.mk (hb); replace HI0 := Aside0.mk (hi); (try clear hb hk hi)))
      go_meet
      case rel => exact ⟨_, (t426), (t427), (t428), z15_, H', ⟨z213_⟩, ⟨z190_⟩, ⟨z206_⟩, ⟨z198_⟩, ⟨z150_⟩, ⟨z101_⟩, ⟨z51_⟩, ⟨z45_⟩, ⟨z50_⟩⟩
    case rest =>
     clear HC13
     try clear c1
     try clear c2
     try clear p2
     try clear c9
     try clear c10
     try clear c10b0
     try clear c12
     try clear c13
     try clear c17
     try clear c21
     try clear c21b0
     try clear c21b1
     try clear hcz18_0
     try clear hcz18_1
     try clear hcz18_2
     try clear hcz18_3
     try clear hcz18_4
     try clear hfz18_0
     try clear hfz18_1
     try clear hfz18_2
     try clear hfz18_3
     try clear hfz18_4
     try clear p2
     obtain ⟨kq, x37_12, x1001_12, x1002_12, rfl, HA, HJ12, HO_7, HO_8, HO_11, HO_422001, BK421, HI0, HK, HB⟩ := hcut
     cases kq with
     | zero => exact absurd HA.out (by simp [spec_l13Script.j1])
     | succ kj12 =>
      have H := HA.out
      clear HA
      simp only [spec_l13Script.j1] at H
      by_cases c24 : x37_12 = true
      ·subst c24
       replace H := ift_ H
       obtain ⟨c25, H⟩ := ifs_ H
       have LMc25 := Aside0.mk c25
       clear c25
       first | ((with_reducible have hz_ := gy_ H); obtain ⟨y429, Ny429, H⟩ := hz_) | (generalize hy_ : (x7_1 ++ [(⟨t412, t413, t416, t417, t418⟩ : S121)]) = y429 at H; have Ny429 := Aside0.mk hy_.symm; clear hy_)
       by_cases c26 : t425 = 0
       ·rw [if_pos c26] at H
        have c26b0 : (t425 == 0) = true := beq_iff_eq.mpr c26
        have c26b1 : (t425 != 0) = false := bne_eq_false_iff_eq.mpr c26
        clear c26
        have H' := Aside0.mk H
        clear H
        have hnb27 := NB421_0.out
        have hnc27 := NB0_421.out
        obtain ⟨hcz28_0, hcz28_1, hcz28_2, hcz28_3, hcz28_4, hfz28_0, hfz28_1, hfz28_2, hfz28_3, hfz28_4⟩ := bx5_ BK421.out
        go_wp2_with (first | ((with_reducible refine gate_builtin (b := .append) (xs := #[.tmp 38, .tmp 40]) rfl ?_); at_builtin; refine Kd.S_append k121 w.heap.size rfl (.tmp 38) (.tmp 40) 73 121 (.agg #[(.int .i64 0), (.slice none 0 0), (.int .i64 0), (.int .i64 0), (.int .i64 0)]) 56 rfl Try.underlying73 info121 rfl (by decide) (by omega) u7 x7_1 (⟨t412, t413, t416, t417, t418⟩ : S121) [.int .i64 t412, .slice Ao19 t413.length co19, .int .i64 t416, .int .i64 t417, .int .i64 t418] (fun k_ => k_ ≠ gb421) (fun k_ => some k_ = (.slice Ao19 t413.length co19 : Value).ownBlock) rfl rfl ?aP (fun k_ hk_ => ((Kd.R_mono (ok' := fun k_ => ((fun k_ => k_ ≠ gb421)) k_ ∧ some k_ ≠ (u7 : Value).ownBlock) (Kd.R_types (Kd.R_apart' (HO_422001.out) (Kd.S_typed HO_7.out) (by decide)) BK421.out (by decide)) (fun k_ hk => ⟨hk.2, hk.1.2⟩))).1 k_ hk_.symm) ?aF ?aO (Below.refl _ _) ?aS ?aL ?_; (case aP => exact z116_); (case aF => exact z123_); (case aO => exact z172_); (case aS => exact z141_); (case aL => have := LMc25.out; omega); intro v430 w29 ho hb hg hat; rw [← Ny429.out] at ho; replace HO_8 := Aside0.mk (Kd.R_over' z48_ (Kd.S_typed z97_) (by decide) hg); replace HO_11 := Aside0.mk (Kd.R_over' z221_ (Kd.S_typed z97_) (by decide) hg); replace BK421 := Aside0.mk (blk_grown (g := gb421) (o := .cells #[.int .i64 t412, .slice Ao19 t413.length co19, .int .i64 t416, .int .i64 t417, .int .i64 t418] 121 (0, 0)) z101_ hg (Kd.S_away HO_7.out (fun _ hk => hk.2))); replace HB := Aside0.mk (below_weaken z50_ HL.out hb); replace HI0 := Aside0.mk (IsS132.grown z51_ hg (IsS132.own_neS HI0.out HO_7.out (by decide))); replace HK := Aside0.mk (KeepBut.trans z45_ (KeepBut.of_grown hg g) (Kd.S_base2 HO_7.out)); have HO431 := Aside0.mk (ho); clear HO_7 HO_422001; clear ho hb hg hat))
        go_roundg kj12
        case measure => have := HK1.out; have := HJ12.out; omega
        case rel => exact ⟨(y429), (t422), (wrap64 (x9_1 - 1)), (x1001_12), (x1002_12), z15_, H', ⟨z228_⟩, ⟨z193_⟩, ⟨z194_⟩, ⟨z51_⟩, ⟨z45_⟩, ⟨z50_⟩⟩
       ·rw [if_neg c26] at H
        have c26b0 : (t425 == 0) = false := beq_eq_false_iff_ne.mpr c26
        have c26b1 : (t425 != 0) = true := bne_iff_ne.mpr c26
        have H' := Aside0.mk H
        clear H
        have hnb30 := NB421_0.out
        have hnc30 := NB0_421.out
        obtain ⟨hcz31_0, hcz31_1, hcz31_2, hcz31_3, hcz31_4, hfz31_0, hfz31_1, hfz31_2, hfz31_3, hfz31_4⟩ := bx5_ BK421.out
        go_wp2_with (first | ((with_reducible refine gate_builtin (b := .append) (xs := #[.tmp 38, .tmp 40]) rfl ?_); at_builtin; refine Kd.S_append k121 w.heap.size rfl (.tmp 38) (.tmp 40) 73 121 (.agg #[(.int .i64 0), (.slice none 0 0), (.int .i64 0), (.int .i64 0), (.int .i64 0)]) 56 rfl Try.underlying73 info121 rfl (by decide) (by omega) u7 x7_1 (⟨t412, t413, t416, t417, t418⟩ : S121) [.int .i64 t412, .slice Ao19 t413.length co19, .int .i64 t416, .int .i64 t417, .int .i64 t418] (fun k_ => k_ ≠ gb421) (fun k_ => some k_ = (.slice Ao19 t413.length co19 : Value).ownBlock) rfl rfl ?aP (fun k_ hk_ => ((Kd.R_mono (ok' := fun k_ => ((fun k_ => k_ ≠ gb421)) k_ ∧ some k_ ≠ (u7 : Value).ownBlock) (Kd.R_types (Kd.R_apart' (HO_422001.out) (Kd.S_typed HO_7.out) (by decide)) BK421.out (by decide)) (fun k_ hk => ⟨hk.2, hk.1.2⟩))).1 k_ hk_.symm) ?aF ?aO (Below.refl _ _) ?aS ?aL ?_; (case aP => exact z116_); (case aF => exact z123_); (case aO => exact z172_); (case aS => exact z141_); (case aL => have := LMc25.out; omega); intro v430 w32 ho hb hg hat; rw [← Ny429.out] at ho; replace HO_8 := Aside0.mk (Kd.R_over' z48_ (Kd.S_typed z97_) (by decide) hg); replace HO_11 := Aside0.mk (Kd.R_over' z221_ (Kd.S_typed z97_) (by decide) hg); replace BK421 := Aside0.mk (blk_grown (g := gb421) (o := .cells #[.int .i64 t412, .slice Ao19 t413.length co19, .int .i64 t416, .int .i64 t417, .int .i64 t418] 121 (0, 0)) z101_ hg (Kd.S_away HO_7.out (fun _ hk => hk.2))); replace HB := Aside0.mk (below_weaken z50_ HL.out hb); replace HI0 := Aside0.mk (IsS132.grown z51_ hg (IsS132.own_neS HI0.out HO_7.out (by decide))); replace HK := Aside0.mk (KeepBut.trans z45_ (KeepBut.of_grown hg g) (Kd.S_base2 HO_7.out)); have HO431 := Aside0.mk (ho); clear HO_7 HO_422001; clear ho hb hg hat))
        go_roundg kj12
        case measure => have := HK1.out; have := HJ12.out; omega
        case rel => exact ⟨(y429), (x8_1), (wrap64 (x9_1 - 1)), (x1001_12), (x1002_12), z15_, H', ⟨z228_⟩, ⟨z193_⟩, ⟨z195_⟩, ⟨z51_⟩, ⟨z45_⟩, ⟨z50_⟩⟩
      ·replace c24 := Bool.eq_false_iff.mpr c24
       subst c24
       replace H := iff_ H
       by_cases c33 : t425 = 0
       ·rw [if_pos c33] at H
        have c33b0 : (t425 == 0) = true := beq_iff_eq.mpr c33
        have c33b1 : (t425 != 0) = false := bne_eq_false_iff_eq.mpr c33
        clear c33
        have H' := Aside0.mk H
        clear H
        go_wp2
        go_roundg kj12
        case measure => have := HK1.out; have := HJ12.out; omega
        case rel => exact ⟨(x7_1), (t422), (wrap64 (x9_1 - 1)), (x1001_12), (x1002_12), z15_, H', ⟨z228_⟩, ⟨z196_⟩, ⟨z194_⟩, ⟨z51_⟩, ⟨z45_⟩, ⟨z50_⟩⟩
       ·rw [if_neg c33] at H
        have c33b0 : (t425 == 0) = false := beq_eq_false_iff_ne.mpr c33
        have c33b1 : (t425 != 0) = true := bne_iff_ne.mpr c33
        have H' := Aside0.mk H
        clear H
        go_wp2
        go_roundg kj12
        case measure => have := HK1.out; have := HJ12.out; omega
        case rel => exact ⟨(x7_1), (x8_1), (wrap64 (x9_1 - 1)), (x1001_12), (x1002_12), z15_, H', ⟨z228_⟩, ⟨z196_⟩, ⟨z195_⟩, ⟨z51_⟩, ⟨z45_⟩, ⟨z50_⟩⟩
   ·rw [if_neg c10] at H
    have c10b0 := decide_eq_false c10
    clear c10
    simp only [Option.some.injEq, Prod.mk.injEq] at H
    obtain ⟨rfl, rfl, rfl⟩ := H
    go_wp2
    go_ret
    exact ⟨_, z6_, z97_, z4_, z5_, z3_⟩

/-! ### spec_DrawApplyAll: function 96 -/
def spec_DrawApplyAll.f (k : Nat) (l0 : List Int) : Option ((List (S62)) × (List (S121))) := (spec_l1New.f k l0).bind fun bt432 => ((spec_l3Any.f k bt432.1 bt432.2.1 bt432.2.2 8).bind fun bt436 => ((spec_l13Script.f k bt432.1 bt436.2.1 bt436.2.2 bt436.1 7).bind fun bt441 => (some (bt436.1, bt441.1))))
set_option maxHeartbeats 8000000 in
set_option maxRecDepth 100000 in
theorem spec_DrawApplyAll.calls (k : Nat) (A0 : Option Addr) (c0 : Nat) (l0 : List Int) (r1 : List (S62)) (r2 : List (S121)) (w : World) (hr0 : Kd.C (Kd.int .u8) w A0 l0.length l0) (hc0 : l0.length ≤ c0) (h : spec_DrawApplyAll.f k l0 = some (r1, r2)) :
  Calls Try.prog 96 #[.slice A0 l0.length c0] w fun e w' => ∃ v0_ v1_ : Value, e = .returned (.tuple #[v0_, v1_]) ∧ Kd.Q k62 62 w' w.heap.size (fun _ => True) v0_ r1 ∧ Kd.S k121 121 w' w.heap.size (fun _ => True) v1_ r2 ∧ Below w.heap.size w w' := by
 have HR0 := Aside0.mk hr0
 have HC0 := Aside0.mk hc0
 clear hr0 hc0
 have HB := Aside0.mk (Below.refl w.heap.size w)
 have H : ((spec_l1New.f k l0).bind fun bt432 => ((spec_l3Any.f k bt432.1 bt432.2.1 bt432.2.2 8).bind fun bt436 => ((spec_l13Script.f k bt432.1 bt436.2.1 bt436.2.2 bt436.1 7).bind fun bt441 => (some (bt436.1, bt441.1))))) = some (r1, r2) := h
 clear h
 replace H := Option.bind_eq_some_iff.mp H
 obtain ⟨⟨t432, t433, t434⟩, A20, H⟩ := H
 try dsimp only at H
 have A2 := Aside0.mk A20
 clear A20
 replace H := Option.bind_eq_some_iff.mp H
 obtain ⟨⟨t436, t439, t440⟩, A30, H⟩ := H
 try dsimp only at H
 have A3 := Aside0.mk A30
 clear A30
 replace H := Option.bind_eq_some_iff.mp H
 obtain ⟨⟨t441, t444, t445⟩, A40, H⟩ := H
 try dsimp only at H
 have A4 := Aside0.mk A40
 clear A40
 simp only [Option.some.injEq, Prod.mk.injEq] at H
 obtain ⟨rfl, rfl⟩ := H
 go_enter Try.func96, Try.ntmps96
 go_wp2_with (first | ((with_reducible refine gate_callee (f := 51) rfl ?_); refine goesL_ (some 7) rfl rfl Try.func51 (by kernel_rfl) rfl #[.slice A0 l0.length c0] rfl z1_ ?_; (with_reducible refine (spec_l1New.calls k _ _ l0 t432 t433 t434 w _ ?side1 ?side2 ?side3 A2.out).mono ?_); (case side1 => exact z0_); (case side2 => exact HR0.out); (case side3 => exact HC0.out); rintro e w5 ⟨g435, rfl, hi, hb, hb2⟩; refine ⟨_, rfl, ?_⟩; replace HB := Aside0.mk (hb); have HI435 := Aside0.mk (hi); (try clear hb hb2 hi)) | ((with_reducible refine gate_callee (f := 50) rfl ?_); refine goesL_ (some 9) rfl rfl Try.func50 (by kernel_rfl) rfl #[.pointer (some ⟨g435, 0, none⟩), .int .i64 8] rfl z1_ ?_; (with_reducible refine (spec_l3Any.calls k g435 t432 t433 t434 8 t436 t439 t440 w _ ?side1 ?side2 A3.out).mono ?_); (case side1 => exact z160_); (case side2 => exact z88_); rintro e w6 ⟨v437, rfl, ho0, hi, hb, hk⟩; refine ⟨_, rfl, ?_⟩; have HO438 := Aside0.mk (Kd.Q_lower ho0 (below_size z88_)); replace HB := Aside0.mk (hb); replace HI435 := Aside0.mk (hi); (try clear hb hk hi ho0); obtain ⟨Ao7, co7, eo7, _⟩ := Kd.Q_slice HO438.out; subst eo7) | ((with_reducible refine gate_callee (f := 126) rfl ?_); refine goesL_ (some 13) rfl rfl Try.func126 (by kernel_rfl) rfl #[.pointer (some ⟨g435, 0, none⟩), .slice Ao7 t436.length co7, .int .i64 7] rfl z1_ ?_; (with_reducible refine (spec_l13Script.calls k g435 t432 t439 t440 _ _ t436 7 t441 t444 t445 w _ ?side1 ?side2 ?side3 ?side4 A4.out).mono ?_); (case side1 => exact z160_); (case side2 => exact z88_); (case side3 => exact Kd.C_foot_ownQ (IsS132.apartQ (show IsS132 w _ g435 t432 t439 t440 from by repeat (first | (with_reducible first | exact HI435.out | apply IsS132.alloc | apply IsS132.drewN | apply IsS132.drew | apply IsS132.set_1 | apply IsS132.set_2) | exact HI435.out)) z176_ (by decide)) (fun _ h_ => h_.2)); (case side4 => exact (Kd.Q_reads' HO438.out).2.1); rintro e w8 ⟨v442, rfl, ho0, hi, hb, hk⟩; refine ⟨_, rfl, ?_⟩; replace HO438 := Aside0.mk (Kd.Q_mono (Kd.Q_keep (IsS132.apartQ (show IsS132 w _ g435 t432 t439 t440 from by repeat (first | (with_reducible first | exact HI435.out | apply IsS132.alloc | apply IsS132.drewN | apply IsS132.drew | apply IsS132.set_1 | apply IsS132.set_2) | exact HI435.out)) z176_ (by decide)) hk (fun _ h => h.2)) (fun _ h => h.1)); have HO443 := Aside0.mk (Kd.S_lower ho0 (below_size z88_)); replace HB := Aside0.mk (hb); replace HI435 := Aside0.mk (hi); (try clear hb hk hi ho0)))
 go_ret2
 exact ⟨_, _, z6_, z176_, by (with_reducible repeat (first | apply Kd.S_alloc | apply Kd.S_drewN | apply Kd.S_drew)); exact HO443.out, z88_⟩

/-! ### spec_DrawInvert: function 44 -/
def spec_DrawInvert.f (k : Nat) (l0 : List Int) : Option ((List (S62)) × (List (S121))) := (spec_DrawApplyAll.f k l0).bind fun bt446 => (some (bt446.1, bt446.2))
set_option maxHeartbeats 8000000 in
set_option maxRecDepth 100000 in
theorem spec_DrawInvert.calls (k : Nat) (A0 : Option Addr) (c0 : Nat) (l0 : List Int) (r1 : List (S62)) (r2 : List (S121)) (w : World) (hr0 : Kd.C (Kd.int .u8) w A0 l0.length l0) (hc0 : l0.length ≤ c0) (h : spec_DrawInvert.f k l0 = some (r1, r2)) :
  Calls Try.prog 44 #[.slice A0 l0.length c0] w fun e w' => ∃ v0_ v1_ : Value, e = .returned (.tuple #[v0_, v1_]) ∧ Kd.Q k62 62 w' w.heap.size (fun _ => True) v0_ r1 ∧ Kd.S k121 121 w' w.heap.size (fun _ => True) v1_ r2 ∧ Below w.heap.size w w' := by
 have HR0 := Aside0.mk hr0
 have HC0 := Aside0.mk hc0
 clear hr0 hc0
 have HB := Aside0.mk (Below.refl w.heap.size w)
 have H : ((spec_DrawApplyAll.f k l0).bind fun bt446 => (some (bt446.1, bt446.2))) = some (r1, r2) := h
 clear h
 replace H := Option.bind_eq_some_iff.mp H
 obtain ⟨⟨t446, t447⟩, A20, H⟩ := H
 try dsimp only at H
 have A2 := Aside0.mk A20
 clear A20
 simp only [Option.some.injEq, Prod.mk.injEq] at H
 obtain ⟨rfl, rfl⟩ := H
 go_enter Try.func44, Try.ntmps44
 go_wp2_with (first | ((with_reducible refine gate_callee (f := 96) rfl ?_); refine goesL_ (some 5) rfl rfl Try.func96 (by kernel_rfl) rfl #[.slice A0 l0.length c0] rfl z1_ ?_; (with_reducible refine (spec_DrawApplyAll.calls k _ _ l0 t446 t447 _ ?side1 ?side2 A2.out).mono ?_); (case side1 => exact z17_); (case side2 => exact HC0.out); rintro e w3 ⟨v448, v450, rfl, ho0, ho1, hb⟩; refine ⟨_, rfl, ?_⟩; have HO449 := Aside0.mk (Kd.Q_lower ho0 (below_size z0_)); have HO451 := Aside0.mk (Kd.S_lower ho1 (below_size z0_)); replace HB := Aside0.mk (below_step z0_ hb); (try clear hb ho0 ho1)))
 go_ret2
 exact ⟨_, _, z6_, by (with_reducible repeat (first | apply Kd.Q_alloc | apply Kd.Q_drewN | apply Kd.Q_drew)); exact HO449.out, by (with_reducible repeat (first | apply Kd.S_alloc | apply Kd.S_drewN | apply Kd.S_drew)); exact HO451.out, z0_⟩

/-! ### impl_within: function 81 -/
def impl_within.f (a0 : Int) (a1 : Int) (a2 : Int) : Option (Bool) := if a1 ≤ a0 then (some (decide (a0 ≤ a2))) else (some false)
set_option maxHeartbeats 8000000 in
set_option maxRecDepth 100000 in
theorem impl_within.calls (a0 : Int) (a1 : Int) (a2 : Int) (r : Bool) (w : World) (h : impl_within.f a0 a1 a2 = some r) :
  Calls Try.prog 81 #[.int .i64 a0, .int .i64 a1, .int .i64 a2] w fun e w' => e = .returned (.bool r) ∧ Drawn0 w w' := by
 have H : (if a1 ≤ a0 then (some (decide (a0 ≤ a2))) else (some false)) = some r := h
 clear h
 by_cases c4 : a1 ≤ a0
 ·rw [if_pos c4] at H
  have c4b0 := decide_eq_true c4
  clear c4
  obtain rfl := Option.some.inj H
  go_enter Try.func81, Try.ntmps81
  go_wp2
  go_ret
  exact ⟨z15_, z68_⟩
 ·rw [if_neg c4] at H
  have c4b0 := decide_eq_false c4
  clear c4
  obtain rfl := Option.some.inj H
  go_enter Try.func81, Try.ntmps81
  go_wp2
  go_ret
  exact ⟨z15_, z68_⟩

/-! ### impl_LabelOk: function 80 -/
def impl_LabelOk.f (a0 : Int) : Option (Bool) := (impl_within.f a0 0 5).bind fun t452 => (some t452)
set_option maxHeartbeats 8000000 in
set_option maxRecDepth 100000 in
theorem impl_LabelOk.calls (a0 : Int) (r : Bool) (w : World) (h : impl_LabelOk.f a0 = some r) :
  Calls Try.prog 80 #[.int .i64 a0] w fun e w' => e = .returned (.bool r) ∧ Drawn0 w w' := by
 have H : ((impl_within.f a0 0 5).bind fun t452 => (some t452)) = some r := h
 clear h
 obtain ⟨t452, A2, H⟩ := bnd_ H
 obtain rfl := Option.some.inj H
 go_enter Try.func80, Try.ntmps80
 go_wp2_with (first | ((with_reducible refine gate_callee (f := 81) rfl ?_); refine goesL_ (some 4) rfl rfl Try.func81 (by kernel_rfl) rfl #[.int .i64 a0, .int .i64 0, .int .i64 5] rfl z1_ ?_; (with_reducible refine (impl_within.calls a0 0 5 t452 _ A2.out).mono ?_); rintro e w' ⟨rfl, ⟨nd, rfl⟩⟩; refine ⟨_, rfl, ?_⟩))
 go_ret
 exact ⟨z15_, z68_⟩

/-! ### impl_depthOk: function 109 -/
def impl_depthOk.f (l0 : List (S62)) (a1 : Int) : Option (Bool) := if a1 = 0 then (if 0 < (l0.length : Int) then (some (((rd_T62 l0 0).f1) == 0)) else (none)) else (if 0 ≤ a1 then (if a1 < (l0.length : Int) then (if 0 ≤ (wrap64 (a1 - 1)) then (if (wrap64 (a1 - 1)) < (l0.length : Int) then ((impl_within.f ((rd_T62 l0 a1).f1) 1 (wrap64 (((rd_T62 l0 (wrap64 (a1 - 1))).f1) + 1))).bind fun t456 => (some t456)) else (none)) else (none)) else (none)) else (none))
set_option maxHeartbeats 8000000 in
set_option maxRecDepth 100000 in
theorem impl_depthOk.calls (A0 : Option Addr) (c0 : Nat) (l0 : List (S62)) (a1 : Int) (r : Bool) (w : World) (hr0 : Kd.C k62 w A0 l0.length l0) (hc0 : l0.length ≤ c0) (h : impl_depthOk.f l0 a1 = some r) :
  Calls Try.prog 109 #[.slice A0 l0.length c0, .int .i64 a1] w fun e w' => e = .returned (.bool r) ∧ Drawn0 w w' := by
 have HR0 := Aside0.mk hr0
 have HC0 := Aside0.mk hc0
 clear hr0 hc0
 have H : (if a1 = 0 then (if 0 < (l0.length : Int) then (some (((rd_T62 l0 0).f1) == 0)) else (none)) else (if 0 ≤ a1 then (if a1 < (l0.length : Int) then (if 0 ≤ (wrap64 (a1 - 1)) then (if (wrap64 (a1 - 1)) < (l0.length : Int) then ((impl_within.f ((rd_T62 l0 a1).f1) 1 (wrap64 (((rd_T62 l0 (wrap64 (a1 - 1))).f1) + 1))).bind fun t456 => (some t456)) else (none)) else (none)) else (none)) else (none))) = some r := h
 clear h
 by_cases c3 : a1 = 0
 ·rw [if_pos c3] at H
  have c3b0 : (a1 == 0) = true := beq_iff_eq.mpr c3
  have c3b1 : (a1 != 0) = false := bne_eq_false_iff_eq.mpr c3
  clear c3
  obtain ⟨c4, H⟩ := ifs_ H
  have c4b0 := decide_eq_true c4
  have c4b1 : decide (0 < l0.length) = true := decide_eq_true (by omega)
  clear c4
  obtain rfl := Option.some.inj H
  have p453 : 0 ≤ (0 : Int) := (by omega)
  have q453 : 0 < (l0.length : Int) := odt_
  obtain ⟨ad453, e453, hx453_0, hx453_1⟩ := at_T62 HR0.out 0 p453 q453
  cases e453
  have qi453 : (0 < l0.length) = True := eq_true (by omega)
  (try rw [show ((0 : Int)).toNat = 0 from rfl] at hx453_0)
  (try rw [show 0 * 2 = 0 from rfl] at hx453_0)
  (try rw [Addr.add_zero'] at hx453_0)
  (try rw [show ((0 : Int)).toNat = 0 from rfl] at hx453_1)
  (try rw [show 0 * 2 = 0 from rfl] at hx453_1)
  (try rw [Addr.add_zero'] at hx453_1)
  replace p453 := eq_true p453
  replace q453 := eq_true q453
  go_enter Try.func109, Try.ntmps109
  go_wp2
  repeat (go_quiet (fail); try go_wp2)
  go_ret
  exact ⟨z15_, z68_⟩
 ·rw [if_neg c3] at H
  have c3b0 : (a1 == 0) = false := beq_eq_false_iff_ne.mpr c3
  have c3b1 : (a1 != 0) = true := bne_iff_ne.mpr c3
  obtain ⟨c5b0, H⟩ := ifd_ H
  obtain ⟨c6b0, H⟩ := ifd_ H
  obtain ⟨ji7, hji7⟩ : ∃ j_ : Int, (wrap64 (a1 - 1)) = j_ := ⟨_, rfl⟩
  first | rw [hji7] at H | simp only [hji7] at H
  have hji7w : (IntKind.i64.wrap (a1 - 1)) = ji7 := (i64_w _).trans hji7
  obtain ⟨c8b0, H⟩ := ifd_ H
  obtain ⟨c9b0, H⟩ := ifd_ H
  obtain ⟨t456, A10, H⟩ := bnd_ H
  obtain rfl := Option.some.inj H
  obtain ⟨p454, q454, ad454, e454, hx454_0, hx454_1⟩ := ato62_ HR0 a1
  cases e454
  obtain ⟨p455, q455, ad455, e455, hx455_0, hx455_1⟩ := ato62_ HR0 (ji7)
  obtain rfl : ad454 = ad455 := (by injection e455)
  go_enter Try.func109, Try.ntmps109
  go_wp2_with (first | (go_at_call 81; (with_reducible refine (impl_within.calls ((rd_T62 l0 a1).f1) 1 (wrap64 (((rd_T62 l0 (ji7)).f1) + 1)) t456 _ A10.out).mono ?_); rintro e w' ⟨rfl, ⟨nd, rfl⟩⟩; (try first | exact ⟨rfl, _, World.drewN_drewN _ _ _⟩ | exact ⟨rfl, _, Eq.trans (World.drewN_drewN _ _ _) (congrArg (World.drewN _) (Nat.add_assoc _ _ _))⟩)))
  repeat (go_quiet (first | (go_at_call 81; (with_reducible refine (impl_within.calls ((rd_T62 l0 a1).f1) 1 (wrap64 (((rd_T62 l0 (ji7)).f1) + 1)) t456 _ A10.out).mono ?_); rintro e w' ⟨rfl, ⟨nd, rfl⟩⟩; (try first | exact ⟨rfl, _, World.drewN_drewN _ _ _⟩ | exact ⟨rfl, _, Eq.trans (World.drewN_drewN _ _ _) (congrArg (World.drewN _) (Nat.add_assoc _ _ _))⟩))); try go_wp2_with (first | (go_at_call 81; (with_reducible refine (impl_within.calls ((rd_T62 l0 a1).f1) 1 (wrap64 (((rd_T62 l0 (ji7)).f1) + 1)) t456 _ A10.out).mono ?_); rintro e w' ⟨rfl, ⟨nd, rfl⟩⟩; (try first | exact ⟨rfl, _, World.drewN_drewN _ _ _⟩ | exact ⟨rfl, _, Eq.trans (World.drewN_drewN _ _ _) (congrArg (World.drewN _) (Nat.add_assoc _ _ _))⟩))))
  go_ret
  exact ⟨by first | rfl | (simp; done) | (simp only [← hji7] <;> (first | rfl | simp)) | (simp [*]; done), z68_⟩

/-! ### impl_TreeOk: function 52 -/
def impl_TreeOk.l0 : Nat → List (S62) → List (S62) → Int → Int → Option (Bool)
 | 0, _, _, _, _ => none
 | k + 1, x0, x9, x10, x11 => if x11 < x10 then (if 0 ≤ x11 then (if x11 < (x9.length : Int) then ((impl_LabelOk.f ((rd_T62 x9 x11).f0)).bind fun t460 => (if t460 = true then ((impl_within.f ((rd_T62 x9 x11).f1) 0 12).bind fun t461 => (if t461 = true then ((impl_depthOk.f x0 x11).bind fun t462 => (if t462 = true then (impl_TreeOk.l0 k x0 x9 x10 (wrap64 (x11 + 1))) else (some false))) else (some false))) else (some false))) else (none)) else (none)) else (some true)
def impl_TreeOk.f (k : Nat) (l0 : List (S62)) : Option (Bool) := (impl_within.f (l0.length : Int) 1 24).bind fun t457 => (if t457 = true then (impl_TreeOk.l0 k l0 l0 (l0.length : Int) 0) else (some false))
set_option maxHeartbeats 8000000 in
set_option maxRecDepth 100000 in
theorem impl_TreeOk.calls (k : Nat) (A0 : Option Addr) (c0 : Nat) (l0 : List (S62)) (r : Bool) (w : World) (hr0 : Kd.C k62 w A0 l0.length l0) (hc0 : l0.length ≤ c0) (h : impl_TreeOk.f k l0 = some r) :
  Calls Try.prog 52 #[.slice A0 l0.length c0] w fun e w' => e = .returned (.bool r) ∧ Below w.heap.size w w' := by
 have hu62 := Try.underlying62
 have HR0 := Aside0.mk hr0
 have HC0 := Aside0.mk hc0
 clear hr0 hc0
 have HB := Aside0.mk (Below.refl w.heap.size w)
 have H : ((impl_within.f (l0.length : Int) 1 24).bind fun t457 => (if t457 = true then (impl_TreeOk.l0 k l0 l0 (l0.length : Int) 0) else (some false))) = some r := h
 clear h
 obtain ⟨t457, A2, H⟩ := bnd_ H
 by_cases c3 : t457 = true
 ·subst c3
  replace H := ift_ H
  have H' := Aside0.mk H
  clear H
  go_enter Try.func52, Try.ntmps52
  go_wp2_with (first | ((with_reducible refine gate_callee (f := 81) rfl ?_); refine goesL_ (some 7) rfl rfl Try.func81 (by kernel_rfl) rfl #[.int .i64 (l0.length : Int), .int .i64 1, .int .i64 24] rfl z1_ ?_; (with_reducible refine (impl_within.calls (l0.length : Int) 1 24 true _ A2.out).mono ?_); rintro e w' ⟨rfl, ⟨nd, rfl⟩⟩; refine ⟨_, rfl, ?_⟩))
  go_loopg [11] k (fun kq v11 w' => ∃ (x11_1 : Int), v11 = .int .i64 x11_1 ∧ Aside0 (impl_TreeOk.l0 kq l0 l0 (l0.length : Int) x11_1 = some r) ∧ Aside0 (kq ≤ k) ∧ Aside0 (Below w.heap.size w w'))
  case atStart => exact ⟨(0), z15_, H', ⟨Nat.le_refl _⟩, ⟨z0_⟩⟩
  case round =>
   clear H'
   try clear p2
   try clear c3
   obtain ⟨x11_1, rfl, HA, HK1, HB⟩ := hrel
   cases gk with
   | zero => exact absurd HA.out (by simp [impl_TreeOk.l0])
   | succ k1 =>
    have H := HA.out
    clear HA
    simp only [impl_TreeOk.l0] at H
    by_cases c4 : x11_1 < (l0.length : Int)
    ·rw [if_pos c4] at H
     have c4b0 := decide_eq_true c4
     clear c4
     obtain ⟨c5b0, H⟩ := ifd_ H
     obtain ⟨c6b0, H⟩ := ifd_ H
     obtain ⟨t460, A7, H⟩ := bnd_ H
     by_cases c8 : t460 = true
     ·subst c8
      replace H := ift_ H
      obtain ⟨t461, A9, H⟩ := bnd_ H
      by_cases c10 : t461 = true
      ·subst c10
       replace H := ift_ H
       obtain ⟨t462, A11, H⟩ := bnd_ H
       by_cases c12 : t462 = true
       ·subst c12
        replace H := ift_ H
        have H' := Aside0.mk H
        clear H
        obtain ⟨p458, q458, ad458, e458, hx458_0, hx458_1⟩ := atb62_ HR0 HB x11_1
        cases e458
        go_wp2_with (first | ((with_reducible refine gate_dst (N := 4) rfl ?_); refine box_event ?hg (N := 4) ?hd (cs := #[.int .i64 0, .int .i64 0]) (t := 62) ?hr ?_; (case hd => rfl); (case hg => rfl); (case hr => exact z21_); intro gb459 hg w13 hbox hb; have BK459 := Aside0.mk (hbox); have GW459 := Aside0.mk ((by rw [hg]; exact (below_size z0_) : w.heap.size ≤ gb459)); have GE459 := Aside0.mk ((by rw [hg]; exact (below_size z0_) : w.heap.size ≤ gb459)); replace HB := Aside0.mk (below_step z0_ hb); clear hb hbox hg; obtain ⟨hcz14_0, hcz14_1, hfz14_0, hfz14_1⟩ := bx2_ BK459.out) | ((with_reducible refine gate_callee (f := 80) rfl ?_); refine goesL_ (some 18) rfl rfl Try.func80 (by kernel_rfl) rfl #[.int .i64 ((rd_T62 l0 x11_1).f0)] rfl z1_ ?_; (with_reducible refine (impl_LabelOk.calls ((rd_T62 l0 x11_1).f0) true _ A7.out).mono ?_); rintro e w' ⟨rfl, ⟨nd, rfl⟩⟩; refine ⟨_, rfl, ?_⟩) | (go_at_call 81; (with_reducible refine (impl_within.calls ((rd_T62 l0 x11_1).f1) 0 12 true _ A9.out).mono ?_); rintro e w' ⟨rfl, ⟨nd, rfl⟩⟩) | (go_at_call 109; (with_reducible refine (impl_depthOk.calls _ _ l0 x11_1 true _ ?side1 ?side2 A11.out).mono ?_); (case side1 => exact z157_); (case side2 => exact HC0.out); rintro e w' ⟨rfl, ⟨nd, rfl⟩⟩))
        go_roundg k1
        case measure => have := HK1.out; omega
        case rel => exact ⟨(wrap64 (x11_1 + 1)), z15_, H', ⟨z122_⟩, ⟨z81_⟩⟩
       ·replace c12 := Bool.eq_false_iff.mpr c12
        subst c12
        replace H := iff_ H
        obtain rfl := Option.some.inj H
        obtain ⟨p458, q458, ad458, e458, hx458_0, hx458_1⟩ := atb62_ HR0 HB x11_1
        cases e458
        go_wp2_with (first | ((with_reducible refine gate_dst (N := 4) rfl ?_); refine box_event ?hg (N := 4) ?hd (cs := #[.int .i64 0, .int .i64 0]) (t := 62) ?hr ?_; (case hd => rfl); (case hg => rfl); (case hr => exact z21_); intro gb459 hg w15 hbox hb; have BK459 := Aside0.mk (hbox); have GW459 := Aside0.mk ((by rw [hg]; exact (below_size z0_) : w.heap.size ≤ gb459)); have GE459 := Aside0.mk ((by rw [hg]; exact (below_size z0_) : w.heap.size ≤ gb459)); replace HB := Aside0.mk (below_step z0_ hb); clear hb hbox hg; obtain ⟨hcz16_0, hcz16_1, hfz16_0, hfz16_1⟩ := bx2_ BK459.out) | ((with_reducible refine gate_callee (f := 80) rfl ?_); refine goesL_ (some 18) rfl rfl Try.func80 (by kernel_rfl) rfl #[.int .i64 ((rd_T62 l0 x11_1).f0)] rfl z1_ ?_; (with_reducible refine (impl_LabelOk.calls ((rd_T62 l0 x11_1).f0) true _ A7.out).mono ?_); rintro e w' ⟨rfl, ⟨nd, rfl⟩⟩; refine ⟨_, rfl, ?_⟩) | (go_at_call 81; (with_reducible refine (impl_within.calls ((rd_T62 l0 x11_1).f1) 0 12 true _ A9.out).mono ?_); rintro e w' ⟨rfl, ⟨nd, rfl⟩⟩) | (go_at_call 109; (with_reducible refine (impl_depthOk.calls _ _ l0 x11_1 false _ ?side1 ?side2 A11.out).mono ?_); (case side1 => exact z157_); (case side2 => exact HC0.out); rintro e w' ⟨rfl, ⟨nd, rfl⟩⟩))
        go_ret
        exact ⟨z6_, z81_⟩
      ·replace c10 := Bool.eq_false_iff.mpr c10
       subst c10
       replace H := iff_ H
       obtain rfl := Option.some.inj H
       obtain ⟨p458, q458, ad458, e458, hx458_0, hx458_1⟩ := atb62_ HR0 HB x11_1
       cases e458
       go_wp2_with (first | ((with_reducible refine gate_dst (N := 4) rfl ?_); refine box_event ?hg (N := 4) ?hd (cs := #[.int .i64 0, .int .i64 0]) (t := 62) ?hr ?_; (case hd => rfl); (case hg => rfl); (case hr => exact z21_); intro gb459 hg w17 hbox hb; have BK459 := Aside0.mk (hbox); have GW459 := Aside0.mk ((by rw [hg]; exact (below_size z0_) : w.heap.size ≤ gb459)); have GE459 := Aside0.mk ((by rw [hg]; exact (below_size z0_) : w.heap.size ≤ gb459)); replace HB := Aside0.mk (below_step z0_ hb); clear hb hbox hg; obtain ⟨hcz18_0, hcz18_1, hfz18_0, hfz18_1⟩ := bx2_ BK459.out) | ((with_reducible refine gate_callee (f := 80) rfl ?_); refine goesL_ (some 18) rfl rfl Try.func80 (by kernel_rfl) rfl #[.int .i64 ((rd_T62 l0 x11_1).f0)] rfl z1_ ?_; (with_reducible refine (impl_LabelOk.calls ((rd_T62 l0 x11_1).f0) true _ A7.out).mono ?_); rintro e w' ⟨rfl, ⟨nd, rfl⟩⟩; refine ⟨_, rfl, ?_⟩) | (go_at_call 81; (with_reducible refine (impl_within.calls ((rd_T62 l0 x11_1).f1) 0 12 false _ A9.out).mono ?_); rintro e w' ⟨rfl, ⟨nd, rfl⟩⟩))
       go_ret
       exact ⟨z6_, z81_⟩
     ·replace c8 := Bool.eq_false_iff.mpr c8
      subst c8
      replace H := iff_ H
      obtain rfl := Option.some.inj H
      obtain ⟨p458, q458, ad458, e458, hx458_0, hx458_1⟩ := atb62_ HR0 HB x11_1
      cases e458
      go_wp2_with (first | ((with_reducible refine gate_dst (N := 4) rfl ?_); refine box_event ?hg (N := 4) ?hd (cs := #[.int .i64 0, .int .i64 0]) (t := 62) ?hr ?_; (case hd => rfl); (case hg => rfl); (case hr => exact z21_); intro gb459 hg w19 hbox hb; have BK459 := Aside0.mk (hbox); have GW459 := Aside0.mk ((by rw [hg]; exact (below_size z0_) : w.heap.size ≤ gb459)); have GE459 := Aside0.mk ((by rw [hg]; exact (below_size z0_) : w.heap.size ≤ gb459)); replace HB := Aside0.mk (below_step z0_ hb); clear hb hbox hg; obtain ⟨hcz20_0, hcz20_1, hfz20_0, hfz20_1⟩ := bx2_ BK459.out) | ((with_reducible refine gate_callee (f := 80) rfl ?_); refine goesL_ (some 18) rfl rfl Try.func80 (by kernel_rfl) rfl #[.int .i64 ((rd_T62 l0 x11_1).f0)] rfl z1_ ?_; (with_reducible refine (impl_LabelOk.calls ((rd_T62 l0 x11_1).f0) false _ A7.out).mono ?_); rintro e w' ⟨rfl, ⟨nd, rfl⟩⟩; refine ⟨_, rfl, ?_⟩))
      go_ret
      exact ⟨z6_, z81_⟩
    ·rw [if_neg c4] at H
     have c4b0 := decide_eq_false c4
     clear c4
     obtain rfl := Option.some.inj H
     go_wp2
     go_ret
     exact ⟨z6_, z0_⟩
 ·replace c3 := Bool.eq_false_iff.mpr c3
  subst c3
  replace H := iff_ H
  obtain rfl := Option.some.inj H
  go_enter Try.func52, Try.ntmps52
  go_wp2_with (first | ((with_reducible refine gate_callee (f := 81) rfl ?_); refine goesL_ (some 7) rfl rfl Try.func81 (by kernel_rfl) rfl #[.int .i64 (l0.length : Int), .int .i64 1, .int .i64 24] rfl z1_ ?_; (with_reducible refine (impl_within.calls (l0.length : Int) 1 24 false _ A2.out).mono ?_); rintro e w' ⟨rfl, ⟨nd, rfl⟩⟩; refine ⟨_, rfl, ?_⟩))
  go_ret
  exact ⟨z6_, z0_⟩

/-! ### slices_Clone_Node: function 101 -/
def slices_Clone_Node.f (l0 : List (S62)) : Option ((List (S62))) := (some (([] : List (S62)) : List (S62))).bind fun y463 => (if y463.length + l0.length < 8796093022208 then (some (y463 ++ l0)) else (none))
set_option maxHeartbeats 8000000 in
set_option maxRecDepth 100000 in
theorem slices_Clone_Node.calls (A0 : Option Addr) (c0 : Nat) (l0 : List (S62)) (r : List (S62)) (w : World) (hr0 : Kd.C k62 w A0 l0.length l0) (hc0 : l0.length ≤ c0) (h : slices_Clone_Node.f l0 = some r) :
  Calls Try.prog 101 #[.slice A0 l0.length c0] w fun e w' => ∃ v0_ : Value, e = .returned (v0_) ∧ Kd.R k62 62 w' w.heap.size (fun _ => True) v0_ r ∧ Below w.heap.size w w' := by
 have q_nil : ∀ (w : World) (a : Option Addr) (n c n' c' : Nat), (binOp .eql 24 (.slice a n c) (.slice none n' c')).run Try.prog w = .ok (.bool a.isNone) w := fun w a n c n' c' => Lib.run_eql_slice_nil w _ _ a n c n' c' Try.underlying24
 rcases A0 with _ | ad0
 ·have h0_ : l0 = [] := by
   rcases Nat.eq_zero_or_pos l0.length with h0 | h0
   ·exact List.eq_nil_of_length_eq_zero h0
   ·obtain ⟨ad, h, _⟩ := hr0.2.2 h0
    cases h
  subst h0_
  have hr_ : r = [] := by simpa [slices_Clone_Node.f] using h.symm
  subst hr_
  clear hr0 h
  go_enter Try.func101, Try.ntmps101
  go_wp2
  go_ret
  exact ⟨_, rfl, Kd.R_nil _ _ _ _ _, Below.refl _ _⟩
 have HR0 := Aside0.mk hr0
 have HC0 := Aside0.mk hc0
 clear hr0 hc0
 have HB := Aside0.mk (Below.refl w.heap.size w)
 have H : ((some (([] : List (S62)) : List (S62))).bind fun y463 => (if y463.length + l0.length < 8796093022208 then (some (y463 ++ l0)) else (none))) = some r := h
 clear h
 first | ((with_reducible have hz_ := gy_ H); obtain ⟨y463, Ny463, H⟩ := hz_) | (generalize hy_ : (([] : List (S62))) = y463 at H; have Ny463 := Aside0.mk hy_.symm; clear hy_)
 obtain ⟨c2, H⟩ := ifs_ H
 have LMc2 := Aside0.mk c2
 clear c2
 first | ((with_reducible have hz_ := gy_ H); obtain ⟨y466, Ny466, H⟩ := hz_) | (generalize hy_ : (y463 ++ l0) = y466 at H; have Ny466 := Aside0.mk hy_.symm; clear hy_)
 obtain rfl := Option.some.inj H
 go_enter Try.func101, Try.ntmps101
 go_wp2_with (first | ((with_reducible refine gate_dst (N := 5) rfl ?_); refine Kd.R_lit k62 _ 62 ?hg (N := 5) ?hd (xs := ([] : List (S62))) (inner := []) (ok := fun _ => True) (okp := fun _ => True) ?hr ?hp (fun _ hk => hk) trivial (Below.refl _ _) (Nat.le_refl _) (by simp) ?_; (case hd => rfl); (case hg => rfl); (case hr => exact z21_); (case hp => exact z144_); intro v464 w3 ho4 hb hg_ hnew_; clear hg_ hnew_; (first | rw [← Ny463.out] at ho4 | (simp only [Int.reduceToNat] at ho4; rw [← Ny463.out] at ho4)); have HO465 := Aside0.mk (Kd.R_lower ho4 (below_size z0_)); replace HB := Aside0.mk (below_step z0_ hb); clear hb ho4) | ((with_reducible refine gate_builtin (b := .append) (xs := #[.tmp 5, .tmp 6]) rfl ?_); at_builtin; refine Kd.R_append_rows k62 (w0 := w) w.heap.size rfl (.tmp 5) (.tmp 6) 24 62 (.agg #[(.int .i64 0), (.int .i64 0)]) 16 rfl Try.underlying24 info62 rfl (by decide) (by omega) v464 y463 l0 _ _ _ (fun _ => True) (fun _ => False) rfl rfl ?aO ?aR (fun _ _ h => h) (fun _ h => h.elim) ?aF ?aB ?aS ?aL ?_; (case aR => exact z2_); (case aB => exact z61_); (case aF => exact z126_); (case aO => exact (by (with_reducible repeat (first | apply Kd.R_alloc | apply Kd.R_drewN | apply Kd.R_drew)); exact HO465.out)); (case aS => exact z62_); (case aL => have := LMc2.out; omega); intro v467 w5 ho hb hg hat; rw [← Ny466.out] at ho; replace HB := Aside0.mk (hb); have HO468 := Aside0.mk (ho); clear HO465; clear ho hb hg hat))
 go_ret
 exact ⟨_, z6_, by (with_reducible repeat (first | apply Kd.R_alloc | apply Kd.R_drewN | apply Kd.R_drew)); exact HO468.out, z0_⟩

/-! ### impl_hasNode: function 110 -/
def impl_hasNode.f (k : Nat) (l0 : List (S62)) (a1 : Int) : Option (Bool) := (impl_TreeOk.f k l0).bind fun t469 => (if t469 = true then ((impl_within.f a1 0 (wrap64 ((l0.length : Int) - 1))).bind fun t470 => (some t470)) else (some false))
set_option maxHeartbeats 8000000 in
set_option maxRecDepth 100000 in
theorem impl_hasNode.calls (k : Nat) (A0 : Option Addr) (c0 : Nat) (l0 : List (S62)) (a1 : Int) (r : Bool) (w : World) (hr0 : Kd.C k62 w A0 l0.length l0) (hc0 : l0.length ≤ c0) (h : impl_hasNode.f k l0 a1 = some r) :
  Calls Try.prog 110 #[.slice A0 l0.length c0, .int .i64 a1] w fun e w' => e = .returned (.bool r) ∧ Below w.heap.size w w' := by
 have HR0 := Aside0.mk hr0
 have HC0 := Aside0.mk hc0
 clear hr0 hc0
 have HB := Aside0.mk (Below.refl w.heap.size w)
 have H : ((impl_TreeOk.f k l0).bind fun t469 => (if t469 = true then ((impl_within.f a1 0 (wrap64 ((l0.length : Int) - 1))).bind fun t470 => (some t470)) else (some false))) = some r := h
 clear h
 obtain ⟨t469, A3, H⟩ := bnd_ H
 by_cases c4 : t469 = true
 ·subst c4
  replace H := ift_ H
  obtain ⟨t470, A5, H⟩ := bnd_ H
  obtain rfl := Option.some.inj H
  go_enter Try.func110, Try.ntmps110
  go_wp2_with (first | ((with_reducible refine gate_callee (f := 52) rfl ?_); refine goesL_ (some 6) rfl rfl Try.func52 (by kernel_rfl) rfl #[.slice A0 l0.length c0] rfl z1_ ?_; (with_reducible refine (impl_TreeOk.calls k _ _ l0 true _ ?side1 ?side2 A3.out).mono ?_); (case side1 => exact z17_); (case side2 => exact HC0.out); rintro e w6 ⟨rfl, hb⟩; refine ⟨_, rfl, ?_⟩; replace HB := Aside0.mk (below_step z0_ hb); (try clear hb)) | (go_at_call 81; (with_reducible refine (impl_within.calls a1 0 (wrap64 ((l0.length : Int) - 1)) t470 _ A5.out).mono ?_); rintro e w' ⟨rfl, ⟨nd, rfl⟩⟩))
  go_ret
  exact ⟨z6_, z0_⟩
 ·replace c4 := Bool.eq_false_iff.mpr c4
  subst c4
  replace H := iff_ H
  obtain rfl := Option.some.inj H
  go_enter Try.func110, Try.ntmps110
  go_wp2_with (first | ((with_reducible refine gate_callee (f := 52) rfl ?_); refine goesL_ (some 6) rfl rfl Try.func52 (by kernel_rfl) rfl #[.slice A0 l0.length c0] rfl z1_ ?_; (with_reducible refine (impl_TreeOk.calls k _ _ l0 false _ ?side1 ?side2 A3.out).mono ?_); (case side1 => exact z17_); (case side2 => exact HC0.out); rintro e w7 ⟨rfl, hb⟩; refine ⟨_, rfl, ?_⟩; replace HB := Aside0.mk (below_step z0_ hb); (try clear hb)))
  go_ret
  exact ⟨z6_, z0_⟩

end Go.Proofs.Ytdapeboajjidmab.PFnInverted
