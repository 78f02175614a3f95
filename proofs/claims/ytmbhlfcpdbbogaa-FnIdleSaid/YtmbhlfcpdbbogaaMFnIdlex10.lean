/- Laid by a program of this session out of the kit's print for the law FnIdle: what it says of the machine is proved here, function by function; each contract under the conditions that it names. -/
import Derived.Test.YtmbhlfcpdbbogaaMFnIdlex0
import Derived.Test.YtmbhlfcpdbbogaaMFnIdlex2
import Derived.Test.YtmbhlfcpdbbogaaMFnIdlex3
import Derived.Test.YtmbhlfcpdbbogaaMFnIdlex7
import Derived.Test.YtmbhlfcpdbbogaaMFnIdlex9
import Derived.Deep.RegionLaw
import Derived.Lib.Overlaps
import Derived.Laws.Externs
import Derived.Lib.AppendZeros
import Derived.Lib.AppendZerosOnto
import Derived.Laws.NewBlocks
import Derived.Lib.SliceRun
import Derived.Test.YtmbhlfcpdbbogaaSliceOps
namespace Go.Proofs.Ytmbhlfcpdbbogaa.PFnIdle
open Go.RowKit Go.Proofs.YtmbhlfcpdbbogaaW.PrintWords Go.Proofs.YtmbhlfcpdbbogaaW.PrintLast Go.Proofs.YtmbhlfcpdbbogaaW.PrintMore Go.Proofs.Ytmbhlfcpdbbogaa.SliceOps
attribute [local go_sem] max2_int min2_int max_two min_two max_three min_three max_four min_four   -- for this text's walks alone
set_option linter.unusedVariables false
set_option linter.unusedSimpArgs false

/-! ### spec_l13Script: function 69 -/
mutual
def spec_l13Script.l0 : Nat → List (S65) → List (S63) → Int → List Int → Int → Int → Option ((List (S65)) × Int × Int)
 | 0, _, _, _, _, _, _ => none
 | k + 1, x7, x8, x9, x1000, x1001, x1002 => if x9 > 0 then ((spec_l13Op.f k x1000 x1001 x1002 x8).bind fun bt410 => ((spec_ApplyOp.f k x8 bt410.1 bt410.2.1 bt410.2.2.1 bt410.2.2.2.1 bt410.2.2.2.2.1).bind fun bt420 => (if bt420.2 = 0 then (spec_l13Script.j1 k x7 x8 x9 bt420.1 bt420.2 true x1000 bt410.2.2.2.2.2.1 bt410.2.2.2.2.2.2 bt410.1 bt410.2.1 bt410.2.2.1 bt410.2.2.2.1 bt410.2.2.2.2.1) else ((spec_l1Once.f x1000 bt410.2.2.2.2.2.1 bt410.2.2.2.2.2.2 3).bind fun bt424 => (spec_l13Script.j1 k x7 x8 x9 bt420.1 bt420.2 bt424.1 x1000 bt424.2.1 bt424.2.2 bt410.1 bt410.2.1 bt410.2.2.1 bt410.2.2.2.1 bt410.2.2.2.2.1))))) else (some (x7, x1001, x1002))
def spec_l13Script.j1 : Nat → List (S65) → List (S63) → Int → List (S63) → Int → Bool → List Int → Int → Int → Int → List Int → Int → Int → Int → Option ((List (S65)) × Int × Int)
 | 0, _, _, _, _, _, _, _, _, _, _, _, _, _, _ => none
 | k + 1, x7, x8, x9, x11, x12, x37, x1000, x1001, x1002, x420000, x420001, x420002, x420003, x420004 => if x37 = true then (if x7.length < 2513169434916 then ((some (x7 ++ [(⟨x420000, x420001, x420002, x420003, x420004⟩ : S65)] : List (S65))).bind fun y427 => (if x12 = 0 then (spec_l13Script.l0 k y427 x11 (wrap64 (x9 - 1)) x1000 x1001 x1002) else (spec_l13Script.l0 k y427 x8 (wrap64 (x9 - 1)) x1000 x1001 x1002))) else (none)) else (if x12 = 0 then (spec_l13Script.l0 k x7 x11 (wrap64 (x9 - 1)) x1000 x1001 x1002) else (spec_l13Script.l0 k x7 x8 (wrap64 (x9 - 1)) x1000 x1001 x1002))
end
def spec_l13Script.f (k : Nat) (s0_0 : List Int) (s0_1 : Int) (s0_2 : Int) (l1 : List (S63)) (a2 : Int) : Option ((List (S65)) × Int × Int) := (spec_l3Copy.f l1).bind fun t404 => ((spec_l1Below.f s0_0 s0_1 s0_2 a2).bind fun bt407 => (spec_l13Script.l0 k (([] : List (S65))) t404 bt407.1 s0_0 bt407.2.1 bt407.2.2))
theorem spec_l13Script.mono_l : ∀ k, (∀ y0 y1 y2 y3 y4 y5, LeO (spec_l13Script.l0 k y0 y1 y2 y3 y4 y5) (spec_l13Script.l0 (k + 1) y0 y1 y2 y3 y4 y5)) ∧ (∀ y0 y1 y2 y3 y4 y5 y6 y7 y8 y9 y10 y11 y12 y13, LeO (spec_l13Script.j1 k y0 y1 y2 y3 y4 y5 y6 y7 y8 y9 y10 y11 y12 y13) (spec_l13Script.j1 (k + 1) y0 y1 y2 y3 y4 y5 y6 y7 y8 y9 y10 y11 y12 y13))
 | 0 => ⟨fun _ _ _ _ _ _ r h => by simp [spec_l13Script.l0] at h, fun _ _ _ _ _ _ _ _ _ _ _ _ _ _ r h => by simp [spec_l13Script.j1] at h⟩
 | k + 1 => by
  obtain ⟨ih0, ih1⟩ := spec_l13Script.mono_l k
  refine ⟨?_, ?_⟩
  ·intro y0 y1 y2 y3 y4 y5
   unfold spec_l13Script.l0
   repeat' first | (with_reducible first | exact ih0 _ _ _ _ _ _ | exact ih1 _ _ _ _ _ _ _ _ _ _ _ _ _ _ | exact spec_ApplyOp.mono _ _ _ _ _ _ _ | exact spec_l13Op.mono _ _ _ _ _ | exact LeO.refl _ | exact LeO.none _ | refine LeO.ite ?_ ?_ | refine LeO.bind ?_ (fun _ => ?_)) | exact ih0 _ _ _ _ _ _ | exact ih1 _ _ _ _ _ _ _ _ _ _ _ _ _ _ | exact spec_ApplyOp.mono _ _ _ _ _ _ _ | exact spec_l13Op.mono _ _ _ _ _ | exact LeO.none _ | refine LeO.ite ?_ ?_ | refine LeO.bind ?_ (fun _ => ?_)
  ·intro y0 y1 y2 y3 y4 y5 y6 y7 y8 y9 y10 y11 y12 y13
   unfold spec_l13Script.j1
   repeat' first | (with_reducible first | exact ih0 _ _ _ _ _ _ | exact ih1 _ _ _ _ _ _ _ _ _ _ _ _ _ _ | exact spec_ApplyOp.mono _ _ _ _ _ _ _ | exact spec_l13Op.mono _ _ _ _ _ | exact LeO.refl _ | exact LeO.none _ | refine LeO.ite ?_ ?_ | refine LeO.bind ?_ (fun _ => ?_)) | exact ih0 _ _ _ _ _ _ | exact ih1 _ _ _ _ _ _ _ _ _ _ _ _ _ _ | exact spec_ApplyOp.mono _ _ _ _ _ _ _ | exact spec_l13Op.mono _ _ _ _ _ | exact LeO.none _ | refine LeO.ite ?_ ?_ | refine LeO.bind ?_ (fun _ => ?_)
theorem spec_l13Script.mono : ∀ a0 a1 a2 a3 a4 k, LeO (spec_l13Script.f k a0 a1 a2 a3 a4) (spec_l13Script.f (k + 1) a0 a1 a2 a3 a4) := by
 intro a0 a1 a2 a3 a4 k
 obtain ⟨ih0, ih1⟩ := spec_l13Script.mono_l k
 unfold spec_l13Script.f
 repeat' first | (with_reducible first | exact ih0 _ _ _ _ _ _ | exact ih1 _ _ _ _ _ _ _ _ _ _ _ _ _ _ | exact spec_ApplyOp.mono _ _ _ _ _ _ _ | exact spec_l13Op.mono _ _ _ _ _ | exact LeO.refl _ | exact LeO.none _ | refine LeO.ite ?_ ?_ | refine LeO.bind ?_ (fun _ => ?_)) | exact ih0 _ _ _ _ _ _ | exact ih1 _ _ _ _ _ _ _ _ _ _ _ _ _ _ | exact spec_ApplyOp.mono _ _ _ _ _ _ _ | exact spec_l13Op.mono _ _ _ _ _ | exact LeO.none _ | refine LeO.ite ?_ ?_ | refine LeO.bind ?_ (fun _ => ?_)
set_option maxHeartbeats 8000000 in
set_option maxRecDepth 100000 in
theorem spec_l13Script.calls (k : Nat) (g : Nat) (s0_0 : List Int) (s0_1 : Int) (s0_2 : Int) (A1 : Option Addr) (c1 : Nat) (l1 : List (S63)) (a2 : Int) (r1 : List (S65)) (r2 : Int) (r3 : Int) (w0 w : World) (hI : IsS96 w0 w g s0_0 s0_1 s0_2) (hB : Below w0.heap.size w0 w) (hr1 : ∀ W_, KeepBut w W_ g none → Kd.C k63 W_ A1 l1.length l1) (hc1 : l1.length ≤ c1) (h : spec_l13Script.f k s0_0 s0_1 s0_2 l1 a2 = some (r1, r2, r3)) :
  Calls Try.prog 69 #[.pointer (some ⟨g, 0, none⟩), .slice A1 l1.length c1, .int .i64 a2] w fun e w' => ∃ v0_ : Value, e = .returned (v0_) ∧ Kd.S k65 65 w' w.heap.size (fun _ => True) v0_ r1 ∧ IsS96 w0 w' g s0_0 r2 r3 ∧ Below w0.heap.size w0 w' ∧ KeepBut w w' g none := by
 have hu65 := Try.underlying65
 have HR1 := Aside0.mk hr1
 have HC1 := Aside0.mk hc1
 clear hr1 hc1
 have HI0 := Aside0.mk hI
 have HK := Aside0.mk (KeepBut.refl w g none)
 have HL := Aside0.mk hB.size
 clear hI
 have HW0 := Aside0.mk hB.size
 have HB := Aside0.mk hB
 clear hB
 have H : ((spec_l3Copy.f l1).bind fun t404 => ((spec_l1Below.f s0_0 s0_1 s0_2 a2).bind fun bt407 => (spec_l13Script.l0 k (([] : List (S65))) t404 bt407.1 s0_0 bt407.2.1 bt407.2.2))) = some (r1, r2, r3) := h
 clear h
 obtain ⟨y401, hy401⟩ : ∃ y_ : List (S65), y_ = (([] : List (S65))) := ⟨_, rfl⟩
 replace H : ((spec_l3Copy.f l1).bind fun t404 => ((spec_l1Below.f s0_0 s0_1 s0_2 a2).bind fun bt407 => (spec_l13Script.l0 k y401 t404 bt407.1 s0_0 bt407.2.1 bt407.2.2))) = some (r1, r2, r3) := by first | (rw [hy401]; with_reducible exact H) | (have H2_ := (Option.bind_some _ _).symm.trans H; rw [hy401]; with_reducible exact H2_) | (have H2_ := (Option.bind_some _ _).symm.trans H; with_reducible exact H2_) | with_reducible exact H | (rw [hy401]; exact H) | exact H
 have Ny401 := Aside0.mk hy401
 clear hy401
 obtain ⟨t404, A4, H⟩ := bnd_ H
 replace H := Option.bind_eq_some_iff.mp H
 obtain ⟨⟨t407, t408, t409⟩, A50, H⟩ := H
 replace H : (spec_l13Script.l0 k y401 t404 t407 s0_0 t408 t409) = some (r1, r2, r3) := H
 have A5 := Aside0.mk A50
 clear A50
 have H' := Aside0.mk H
 clear H
 go_enter Try.func69, Try.ntmps69
 go_wp2_with (first | ((with_reducible refine gate_dst (N := 13) rfl ?_); refine Kd.S_lit k65 _ 65 ?hg (N := 13) ?hd (xs := ([] : List (S65))) (inner := []) (ok := fun _ => True) (okp := fun _ => True) ?hr ?hp (fun _ hk => hk) trivial (Below.refl _ _) (Nat.le_refl _) (by simp) ?_; (case hd => rfl); (case hg => rfl); (case hr => exact z23_); (case hp => exact z110_); intro v402 w6 ho7 hb hg_ hnew_; clear hg_ hnew_; (first | rw [← Ny401.out] at ho7 | (simp only [Int.reduceToNat] at ho7; rw [← Ny401.out] at ho7)); have HO403 := Aside0.mk (Kd.S_lower ho7 (keep_size (w := w) (g := g) (row := none) z2_)); replace HK := Aside0.mk (KeepBut.trans z2_ (KeepBut.of_below hb g none) (.inl rfl)); replace HB := Aside0.mk (below_step z5_ hb); replace HI0 := Aside0.mk (IsS96.below z4_ hb); clear hb ho7) | ((with_reducible refine gate_callee (f := 44) rfl ?_); refine goesL_ (some 15) rfl rfl Try.func44 (by kernel_rfl) rfl #[.slice A1 l1.length c1] rfl z1_ ?_; (with_reducible refine (spec_l3Copy.calls _ _ l1 t404 _ ?side1 ?side2 A4.out).mono ?_); (case side1 => exact Kd.C_foot_now HR1.out z2_); (case side2 => exact HC1.out); rintro e w8 ⟨v405, rfl, ho0, hb⟩; refine ⟨_, rfl, ?_⟩; replace HO403 := Aside0.mk (Kd.S_below z131_ hb); have HO406 := Aside0.mk (Kd.R_lower ho0 (keep_size (w := w) (g := g) (row := none) z2_)); replace HK := Aside0.mk (KeepBut.trans z2_ (KeepBut.of_below hb g none) (.inl rfl)); replace HB := Aside0.mk (below_step z5_ hb); replace HI0 := Aside0.mk (IsS96.below z4_ hb); (try clear hb ho0)) | ((with_reducible refine gate_callee (f := 76) rfl ?_); refine goesL_ (some 18) rfl rfl Try.func76 (by kernel_rfl) rfl #[.pointer (some ⟨g, 0, none⟩), .int .i64 a2] rfl z1_ ?_; (with_reducible refine (spec_l1Below.calls g s0_0 s0_1 s0_2 a2 t407 t408 t409 w0 _ ?side1 ?side2 A5.out).mono ?_); (case side1 => exact z4_); (case side2 => exact z5_); rintro e w9 ⟨rfl, hi, hb, hk⟩; refine ⟨_, rfl, ?_⟩; replace HO403 := Aside0.mk (Kd.S_mono (Kd.S_keep (IsS96.apartS (show IsS96 w0 _ g s0_0 s0_1 s0_2 from by repeat (first | (with_reducible first | exact HI0.out | apply IsS96.alloc | apply IsS96.drewN | apply IsS96.drew | apply IsS96.set_1 | apply IsS96.set_2) | exact HI0.out)) z131_ (by decide)) hk (fun _ h => h.2)) (fun _ h => h.1)); replace HO406 := Aside0.mk (Kd.R_mono (Kd.R_keep (IsS96.apart (show IsS96 w0 _ g s0_0 s0_1 s0_2 from by repeat (first | (with_reducible first | exact HI0.out | apply IsS96.alloc | apply IsS96.drewN | apply IsS96.drew | apply IsS96.set_1 | apply IsS96.set_2) | exact HI0.out)) z166_ (by decide)) hk (fun _ h => h.2)) (fun _ h => h.1)); replace HK := Aside0.mk (KeepBut.trans z2_ hk (.inl rfl)); replace HB := Aside0.mk (hb); replace HI0 := Aside0.mk (hi); (try clear hb hk hi)))
 go_loopg [7, 8, 9] k (fun kq v7 v8 v9 w' => ∃ (x7_1 : List (S65)) (x8_1 : List (S63)) (x9_1 : Int) (x1001_1 : Int) (x1002_1 : Int), v9 = .int .i64 x9_1 ∧ Aside0 (spec_l13Script.l0 kq x7_1 x8_1 x9_1 s0_0 x1001_1 x1002_1 = some (r1, r2, r3)) ∧ Aside0 (kq ≤ k) ∧ Aside0 (Kd.S k65 65 w' w.heap.size (fun _ => True) v7 x7_1) ∧ Aside0 (Kd.R k63 63 w' w.heap.size (fun _ => True) v8 x8_1) ∧ Aside0 (IsS96 w0 w' g s0_0 x1001_1 x1002_1) ∧ Aside0 (KeepBut w w' g none) ∧ Aside0 (Below w0.heap.size w0 w'))
 case atStart => exact ⟨(y401), (t404), (t407), (t408), (t409), z14_, H', ⟨Nat.le_refl _⟩, ⟨z131_⟩, ⟨z166_⟩, ⟨z4_⟩, ⟨z2_⟩, ⟨z5_⟩⟩
 case round =>
  clear H'
  try clear c1
  try clear p2
  try clear c4
  try clear c6
  try clear c7
  obtain ⟨x7_1, x8_1, x9_1, x1001_1, x1002_1, rfl, HA, HK1, HO_7, HO_8, HI0, HK, HB⟩ := hrel
  cases gk with
  | zero => exact absurd HA.out (by simp [spec_l13Script.l0])
  | succ k1 =>
   have H := HA.out
   clear HA
   simp only [spec_l13Script.l0] at H
   by_cases c10 : x9_1 > 0
   ·rw [if_pos c10] at H
    have c10b0 : decide (0 < x9_1) = true := decide_eq_true c10
    clear c10
    replace H := Option.bind_eq_some_iff.mp H
    obtain ⟨⟨t410, t411, t414, t415, t416, t417, t418⟩, A110, H⟩ := H
    replace H : ((spec_ApplyOp.f k1 x8_1 t410 t411 t414 t415 t416).bind fun bt420 => (if bt420.2 = 0 then (spec_l13Script.j1 k1 x7_1 x8_1 x9_1 bt420.1 bt420.2 true s0_0 t417 t418 t410 t411 t414 t415 t416) else ((spec_l1Once.f s0_0 t417 t418 3).bind fun bt424 => (spec_l13Script.j1 k1 x7_1 x8_1 x9_1 bt420.1 bt420.2 bt424.1 s0_0 bt424.2.1 bt424.2.2 t410 t411 t414 t415 t416)))) = some (r1, r2, r3) := H
    have A11 := Aside0.mk A110
    clear A110
    replace H := Option.bind_eq_some_iff.mp H
    obtain ⟨⟨t420, t423⟩, A120, H⟩ := H
    replace H : (if t423 = 0 then (spec_l13Script.j1 k1 x7_1 x8_1 x9_1 t420 t423 true s0_0 t417 t418 t410 t411 t414 t415 t416) else ((spec_l1Once.f s0_0 t417 t418 3).bind fun bt424 => (spec_l13Script.j1 k1 x7_1 x8_1 x9_1 t420 t423 bt424.1 s0_0 bt424.2.1 bt424.2.2 t410 t411 t414 t415 t416))) = some (r1, r2, r3) := H
    have A12 := Aside0.mk A120
    clear A120
    have HC13 := Aside0.mk H
    clear H
    obtain ⟨Ao14, co14, eo14⟩ := Kd.R_slice HO_8.out
    subst eo14
    go_upto_region 8 with (first | ((with_reducible refine gate_callee (f := 108) rfl ?_); refine goesL_ (some 25) rfl rfl Try.func108 (by kernel_rfl) rfl #[.pointer (some ⟨g, 0, none⟩), .slice Ao14 x8_1.length co14] rfl z1_ ?_; (with_reducible refine (spec_l13Op.calls k1 g s0_0 x1001_1 x1002_1 _ _ x8_1 t410 t411 t414 t415 t416 t417 t418 w0 _ ?side1 ?side2 ?side3 ?side4 A11.out).mono ?_); (case side1 => exact z4_); (case side2 => exact z5_); (case side3 => exact Kd.C_foot_own (IsS96.apart (show IsS96 w0 _ g s0_0 x1001_1 x1002_1 from by repeat (first | (with_reducible first | exact HI0.out | apply IsS96.alloc | apply IsS96.drewN | apply IsS96.drew | apply IsS96.set_1 | apply IsS96.set_2) | exact HI0.out)) z87_ (by decide)) (fun _ h_ => h_.2)); (case side4 => exact (Kd.R_reads' HO_8.out).2.1); rintro e w15 ⟨v412, rfl, ho0, hi, hb, hk⟩; refine ⟨_, rfl, ?_⟩; replace HO_7 := Aside0.mk (Kd.S_mono (Kd.S_told (Kd.S_oldK (IsS96.apartS (show IsS96 w0 _ g s0_0 x1001_1 x1002_1 from by repeat (first | (with_reducible first | exact HI0.out | apply IsS96.alloc | apply IsS96.drewN | apply IsS96.drew | apply IsS96.set_1 | apply IsS96.set_2) | exact HI0.out)) z74_ (by decide)) hk) (Kd.R_base ho0)) (fun _ h_ => h_.1)); replace HO_8 := Aside0.mk (Kd.R_mono (Kd.R_keep (IsS96.apart (show IsS96 w0 _ g s0_0 x1001_1 x1002_1 from by repeat (first | (with_reducible first | exact HI0.out | apply IsS96.alloc | apply IsS96.drewN | apply IsS96.drew | apply IsS96.set_1 | apply IsS96.set_2) | exact HI0.out)) z87_ (by decide)) hk (fun _ h => h.2)) (fun _ h => h.1)); have HO413 := Aside0.mk (Kd.R_lower ho0 (keep_size (w := w) (g := g) (row := none) z2_)); replace HK := Aside0.mk (KeepBut.trans z2_ hk (.inl rfl)); replace HB := Aside0.mk (hb); replace HI0 := Aside0.mk (hi); (try clear hb hk hi ho0)) | ((with_reducible refine gate_dst (N := 10) rfl ?_); refine box_event ?hg (N := 10) ?hd (cs := #[.int .i64 0, .slice none 0 0, .int .i64 0, .int .i64 0, .int .i64 0]) (t := 65) ?hr ?_; (case hd => rfl); (case hg => rfl); (case hr => exact z23_); intro gb419 hg w16 hbox hb; replace HO_7 := Aside0.mk (Kd.S_below (Kd.S_elderB z74_ gb419 (Nat.le_of_eq hg.symm)) hb); replace HO_8 := Aside0.mk (Kd.R_below z87_ hb); replace HO413 := Aside0.mk (Kd.R_below z113_ hb); replace HB := Aside0.mk (below_step z5_ hb); have BK419 := Aside0.mk (hbox); have GW419 := Aside0.mk ((by rw [hg]; exact (keep_size (w := w) (g := g) (row := none) z2_) : w.heap.size ≤ gb419)); have GE419 := Aside0.mk ((Nat.le_trans HW0.out (by rw [hg]; exact (keep_size (w := w) (g := g) (row := none) z2_) : w.heap.size ≤ gb419) : w0.heap.size ≤ gb419)); replace HK := Aside0.mk (KeepBut.trans z2_ (KeepBut.of_below hb g none) (.inl rfl)); have NB0_419 := Aside0.mk ((by rw [hg]; exact Nat.ne_of_lt (IsS96.lt (show IsS96 w0 _ g s0_0 t417 t418 from by repeat (first | (with_reducible first | exact HI0.out | apply IsS96.alloc | apply IsS96.drewN | apply IsS96.drew | apply IsS96.set_1 | apply IsS96.set_2) | exact HI0.out))) : g ≠ gb419)); have NB419_0 := Aside0.mk ((by rw [hg]; exact Nat.ne_of_gt (IsS96.lt (show IsS96 w0 _ g s0_0 t417 t418 from by repeat (first | (with_reducible first | exact HI0.out | apply IsS96.alloc | apply IsS96.drewN | apply IsS96.drew | apply IsS96.set_1 | apply IsS96.set_2) | exact HI0.out))) : gb419 ≠ g)); replace HI0 := Aside0.mk (IsS96.below z4_ hb); clear hb hbox hg; have hnb17 := NB419_0.out; have hnc17 := NB0_419.out; have hcz18_0 : w16.cell? ⟨gb419, 0, none⟩ = some (.int .i64 0) := (blk_cell BK419.out 0).trans rfl; have hcz18_1 : w16.cell? ⟨gb419, 1, none⟩ = some (.slice none 0 0) := (blk_cell BK419.out 1).trans rfl; have hcz18_2 : w16.cell? ⟨gb419, 2, none⟩ = some (.int .i64 0) := (blk_cell BK419.out 2).trans rfl; have hcz18_3 : w16.cell? ⟨gb419, 3, none⟩ = some (.int .i64 0) := (blk_cell BK419.out 3).trans rfl; have hcz18_4 : w16.cell? ⟨gb419, 4, none⟩ = some (.int .i64 0) := (blk_cell BK419.out 4).trans rfl; have hfz18_0 := blk_frozen BK419.out 0; have hfz18_1 := blk_frozen BK419.out 1; have hfz18_2 := blk_frozen BK419.out 2; have hfz18_3 := blk_frozen BK419.out 3; have hfz18_4 := blk_frozen BK419.out 4; obtain ⟨Ao19, co19, eo19⟩ := Kd.R_slice HO413.out; subst eo19) | ((with_reducible refine gate_callee (f := 45) rfl ?_); refine goesL_ (some 29) rfl rfl Try.func45 (by kernel_rfl) rfl #[.slice Ao14 x8_1.length co14, .agg #[.int .i64 t410, .slice Ao19 t411.length co19, .int .i64 t414, .int .i64 t415, .int .i64 t416]] rfl z1_ ?_; (with_reducible refine (spec_ApplyOp.calls k1 _ _ x8_1 t410 _ _ t411 t414 t415 t416 t420 t423 _ ?side1 ?side2 ?side3 ?side4 A12.out).mono ?_); (case side1 => refine (Kd.R_reads' (e := 63) (base := w.heap.size) (ok := fun k_ => True) (n := x8_1.length) (c := co14) ?_).2.2; exact z48_); (case side2 => exact (Kd.R_reads' HO_8.out).2.1); (case side3 => refine (Kd.R_reads' (e := 3) (base := w.heap.size) (ok := fun k_ => True) (n := t411.length) (c := co19) ?_).2.2; exact z58_); (case side4 => exact (Kd.R_reads' HO413.out).2.1); rintro e w20 ⟨v421, rfl, ho0, hb⟩; refine ⟨_, rfl, ?_⟩; replace HO_7 := Aside0.mk (Kd.S_below (by (with_reducible repeat (first | apply Kd.S_alloc | apply Kd.S_drewN | apply Kd.S_drew)); exact (Kd.S_mono (Kd.S_far (p := ⟨gb419, 4, none⟩) (Kd.S_far (p := ⟨gb419, 3, none⟩) (Kd.S_far (p := ⟨gb419, 2, none⟩) (Kd.S_far (p := ⟨gb419, 1, none⟩) (Kd.S_far (p := ⟨gb419, 0, none⟩) (Kd.S_mono HO_7.out (fun k_ hk => (⟨hk, hk.2⟩ : _ ∧ k_ ≠ gb419))) (fun _ hk => hk.2) (.int .i64 t410)) (fun _ hk => hk.2) (.slice Ao19 t411.length co19)) (fun _ hk => hk.2) (.int .i64 t414)) (fun _ hk => hk.2) (.int .i64 t415)) (fun _ hk => hk.2) (.int .i64 t416)) (fun _ h_ => h_.1))) hb); replace HO413 := Aside0.mk (Kd.R_below z58_ hb); have HO422 := Aside0.mk (Kd.R_lower (Kd.R_new' ho0 (Kd.R_lt z48_)) (keep_size (w := w) (g := g) (row := none) z34_)); replace HO_8 := Aside0.mk (Kd.R_elder' z48_ (Kd.R_base ho0) hb); replace BK419 := Aside0.mk (blk_below (g := gb419) (o := .cells #[.int .i64 t410, .slice Ao19 t411.length co19, .int .i64 t414, .int .i64 t415, .int .i64 t416] 65 (0, 0)) (by (with_reducible repeat (first | refine blk_drewN ?_ _ | refine blk_drew ?_ | refine blk_alloc ?_ _)); refine blk_put (cs := #[.int .i64 t410, .slice Ao19 t411.length co19, .int .i64 t414, .int .i64 t415, .int .i64 0]) ?_ 4 _ rfl; (with_reducible repeat (first | refine blk_drewN ?_ _ | refine blk_drew ?_ | refine blk_alloc ?_ _)); refine blk_put (cs := #[.int .i64 t410, .slice Ao19 t411.length co19, .int .i64 t414, .int .i64 0, .int .i64 0]) ?_ 3 _ rfl; (with_reducible repeat (first | refine blk_drewN ?_ _ | refine blk_drew ?_ | refine blk_alloc ?_ _)); refine blk_put (cs := #[.int .i64 t410, .slice Ao19 t411.length co19, .int .i64 0, .int .i64 0, .int .i64 0]) ?_ 2 _ rfl; (with_reducible repeat (first | refine blk_drewN ?_ _ | refine blk_drew ?_ | refine blk_alloc ?_ _)); refine blk_put (cs := #[.int .i64 t410, .slice none 0 0, .int .i64 0, .int .i64 0, .int .i64 0]) ?_ 1 _ rfl; (with_reducible repeat (first | refine blk_drewN ?_ _ | refine blk_drew ?_ | refine blk_alloc ?_ _)); refine blk_put (cs := #[.int .i64 0, .slice none 0 0, .int .i64 0, .int .i64 0, .int .i64 0]) ?_ 0 _ rfl; (with_reducible repeat (first | refine blk_drewN ?_ _ | refine blk_drew ?_ | refine blk_alloc ?_ _)); exact BK419.out) hb); replace HK := Aside0.mk (KeepBut.trans z34_ (KeepBut.of_below hb g none) (.inl rfl)); replace HB := Aside0.mk (below_step z39_ hb); replace HI0 := Aside0.mk (IsS96.below (show IsS96 w0 (((((w16.setCell ⟨gb419, 0, none⟩ (.int .i64 t410)).setCell ⟨gb419, 1, none⟩ (.slice Ao19 t411.length co19)).setCell ⟨gb419, 2, none⟩ (.int .i64 t414)).setCell ⟨gb419, 3, none⟩ (.int .i64 t415)).setCell ⟨gb419, 4, none⟩ (.int .i64 t416)) g s0_0 t417 t418 from by repeat (first | (with_reducible first | exact HI0.out | apply IsS96.alloc | apply IsS96.drewN | apply IsS96.drew | apply IsS96.set_1 | apply IsS96.set_2 | refine IsS96.far ?_ NB0_419.out _) | exact HI0.out)) hb); (try clear hb ho0)))
    (try simp only [Act.put, List.setIfInBounds_toArray, List.set_cons_zero, List.set_cons_succ])
    go_cut [37] (fun v37 wc => ∃ (kq : Nat) (x37_12 : Bool) (x1001_12 : Int) (x1002_12 : Int), v37 = .bool x37_12 ∧ Aside0 (spec_l13Script.j1 kq x7_1 x8_1 x9_1 t420 t423 x37_12 s0_0 x1001_12 x1002_12 t410 t411 t414 t415 t416 = some (r1, r2, r3)) ∧ Aside0 (kq ≤ k1) ∧ Aside0 (Kd.S k65 65 wc w.heap.size (fun k_ => some k_ ≠ ((.slice Ao19 t411.length co19) : Value).ownBlock ∧ k_ ≠ gb419) u7 x7_1) ∧ Aside0 (Kd.R k63 63 wc w.heap.size (fun k_ => some k_ ≠ (v421 : Value).ownBlock) (.slice Ao14 x8_1.length co14) x8_1) ∧ Aside0 (Kd.R k63 63 wc w.heap.size (fun k_ => some k_ ≠ ((.slice Ao14 x8_1.length co14) : Value).ownBlock) v421 t420) ∧ Aside0 (Kd.R (Kd.int .i64) 3 wc w.heap.size (fun _ => True) (.slice Ao19 t411.length co19) t411) ∧ Aside0 (wc.heap[gb419]? = some (.cells #[.int .i64 t410, (.slice Ao19 t411.length co19), .int .i64 t414, .int .i64 t415, .int .i64 t416] 65 (0, 0))) ∧ Aside0 (IsS96 w0 wc g s0_0 x1001_12 x1002_12) ∧ Aside0 (KeepBut w wc g none) ∧ Aside0 (Below w0.heap.size w0 wc))
    case first =>
     have H := HC13.out
     clear HC13
     by_cases c21 : t423 = 0
     ·rw [if_pos c21] at H
      have c21b0 : (t423 == 0) = true := beq_iff_eq.mpr c21
      have c21b1 : (t423 != 0) = false := bne_eq_false_iff_eq.mpr c21
      clear c21
      (first | rw [c21b0] | (simp only [i64_w, i32_w]; rw [c21b0]) | skip)
      have H' := Aside0.mk H
      clear H
      go_wp2
      go_meet
      case rel => exact ⟨_, (true), (t417), (t418), z14_, H', ⟨z159_⟩, ⟨z142_⟩, ⟨z155_⟩, ⟨z151_⟩, ⟨z113_⟩, ⟨z77_⟩, ⟨z44_⟩, ⟨z34_⟩, ⟨z39_⟩⟩
     ·rw [if_neg c21] at H
      have c21b0 : (t423 == 0) = false := beq_eq_false_iff_ne.mpr c21
      have c21b1 : (t423 != 0) = true := bne_iff_ne.mpr c21
      (first | rw [c21b0] | (simp only [i64_w, i32_w]; rw [c21b0]) | skip)
      replace H := Option.bind_eq_some_iff.mp H
      obtain ⟨⟨t424, t425, t426⟩, A220, H⟩ := H
      replace H : (spec_l13Script.j1 k1 x7_1 x8_1 x9_1 t420 t423 t424 s0_0 t425 t426 t410 t411 t414 t415 t416) = some (r1, r2, r3) := H
      have A22 := Aside0.mk A220
      clear A220
      have H' := Aside0.mk H
      clear H
      go_wp2_with (first | (go_at_call 39; (with_reducible refine (spec_l1Once.calls g s0_0 t417 t418 3 t424 t425 t426 w0 _ ?side1 ?side2 A22.out).mono ?_); (case side1 => exact z44_); (case side2 => exact z39_); rintro e w23 ⟨rfl, hi, hb, hk⟩; replace HO_7 := Aside0.mk (Kd.S_mono (Kd.S_keep (IsS96.apartS (show IsS96 w0 _ g s0_0 t417 t418 from by repeat (first | (with_reducible first | exact HI0.out | apply IsS96.alloc | apply IsS96.drewN | apply IsS96.drew | apply IsS96.set_1 | apply IsS96.set_2 | refine IsS96.far ?_ NB0_419.out _) | exact HI0.out)) z74_ (by decide)) hk (fun _ h => h.2)) (fun _ h => h.1)); replace HO_8 := Aside0.mk (Kd.R_mono (Kd.R_keep (IsS96.apart (show IsS96 w0 _ g s0_0 t417 t418 from by repeat (first | (with_reducible first | exact HI0.out | apply IsS96.alloc | apply IsS96.drewN | apply IsS96.drew | apply IsS96.set_1 | apply IsS96.set_2 | refine IsS96.far ?_ NB0_419.out _) | exact HI0.out)) z87_ (by decide)) hk (fun _ h => h.2)) (fun _ h => h.1)); replace HO413 := Aside0.mk (Kd.R_mono (Kd.R_keep (IsS96.apart (show IsS96 w0 _ g s0_0 t417 t418 from by repeat (first | (with_reducible first | exact HI0.out | apply IsS96.alloc | apply IsS96.drewN | apply IsS96.drew | apply IsS96.set_1 | apply IsS96.set_2 | refine IsS96.far ?_ NB0_419.out _) | exact HI0.out)) z113_ (by decide)) hk (fun _ h => h.2)) (fun _ h => h.1)); replace BK419 := Aside0.mk (KeepBut.blk hk (g' := gb419) (o := .cells #[.int .i64 t410, .slice Ao19 t411.length co19, .int .i64 t414, .int .i64 t415, .int .i64 t416] 65 (0, 0)) z77_ NB419_0.out (by simp)); replace HO422 := Aside0.mk (Kd.R_mono (Kd.R_keep (IsS96.apart (show IsS96 w0 _ g s0_0 t417 t418 from by repeat (first | (with_reducible first | exact HI0.out | apply IsS96.alloc | apply IsS96.drewN | apply IsS96.drew | apply IsS96.set_1 | apply IsS96.set_2 | refine IsS96.far ?_ NB0_419.out _) | exact HI0.out)) (by (with_reducible repeat (first | apply Kd.R_alloc | apply Kd.R_drewN | apply Kd.R_drew)); exact HO422.out) (by decide)) hk (fun _ h => h.2)) (fun _ h => h.1)); replace HK := Aside0.mk (KeepBut.trans z34_ hk (.inl rfl)); replace HB := Aside0.mk (hb); replace HI0 := Aside0.mk (hi); (try clear hb hk hi)))
      go_meet
      case rel => exact ⟨_, (t424), (t425), (t426), z14_, H', ⟨z159_⟩, ⟨z142_⟩, ⟨z155_⟩, ⟨z151_⟩, ⟨z113_⟩, ⟨z77_⟩, ⟨z44_⟩, ⟨z34_⟩, ⟨z39_⟩⟩
    case rest =>
     clear HC13
     try clear c1
     try clear c2
     try clear p2
     try clear c4
     try clear c6
     try clear c7
     try clear c10
     try clear c10b0
     try clear c17
     try clear c21
     try clear c21b0
     try clear c21b1
     try clear hcz18_0
     try clear hcz18_1
     try clear hcz18_2
     try clear hcz18_3
     try clear hcz18_4
     try clear hfz18_0
     try clear hfz18_1
     try clear hfz18_2
     try clear hfz18_3
     try clear hfz18_4
     try clear p2
     obtain ⟨kq, x37_12, x1001_12, x1002_12, rfl, HA, HJ12, HO_7, HO_8, HO_11, HO_420001, BK419, HI0, HK, HB⟩ := hcut
     cases kq with
     | zero => exact absurd HA.out (by simp [spec_l13Script.j1])
     | succ kj12 =>
      have H := HA.out
      clear HA
      simp only [spec_l13Script.j1] at H
      by_cases c24 : x37_12 = true
      ·subst c24
       replace H := ift_ H
       obtain ⟨c25, H⟩ := ifs_ H
       have LMc25 := Aside0.mk c25
       clear c25
       obtain ⟨y427, hy427⟩ : ∃ y_ : List (S65), y_ = (x7_1 ++ [(⟨t410, t411, t414, t415, t416⟩ : S65)]) := ⟨_, rfl⟩
       replace H : (if t423 = 0 then (spec_l13Script.l0 kj12 y427 t420 (wrap64 (x9_1 - 1)) s0_0 x1001_12 x1002_12) else (spec_l13Script.l0 kj12 y427 x8_1 (wrap64 (x9_1 - 1)) s0_0 x1001_12 x1002_12)) = some (r1, r2, r3) := by first | (rw [hy427]; with_reducible exact H) | (have H2_ := (Option.bind_some _ _).symm.trans H; rw [hy427]; with_reducible exact H2_) | (have H2_ := (Option.bind_some _ _).symm.trans H; with_reducible exact H2_) | with_reducible exact H | (rw [hy427]; exact H) | exact H
       have Ny427 := Aside0.mk hy427
       clear hy427
       by_cases c26 : t423 = 0
       ·rw [if_pos c26] at H
        have c26b0 : (t423 == 0) = true := beq_iff_eq.mpr c26
        have c26b1 : (t423 != 0) = false := bne_eq_false_iff_eq.mpr c26
        clear c26
        have H' := Aside0.mk H
        clear H
        have hnb27 := NB419_0.out
        have hnc27 := NB0_419.out
        have hcz28_0 : wc.cell? ⟨gb419, 0, none⟩ = some (.int .i64 t410) := (blk_cell BK419.out 0).trans rfl
        have hcz28_1 : wc.cell? ⟨gb419, 1, none⟩ = some (.slice Ao19 t411.length co19) := (blk_cell BK419.out 1).trans rfl
        have hcz28_2 : wc.cell? ⟨gb419, 2, none⟩ = some (.int .i64 t414) := (blk_cell BK419.out 2).trans rfl
        have hcz28_3 : wc.cell? ⟨gb419, 3, none⟩ = some (.int .i64 t415) := (blk_cell BK419.out 3).trans rfl
        have hcz28_4 : wc.cell? ⟨gb419, 4, none⟩ = some (.int .i64 t416) := (blk_cell BK419.out 4).trans rfl
        have hfz28_0 := blk_frozen BK419.out 0
        have hfz28_1 := blk_frozen BK419.out 1
        have hfz28_2 := blk_frozen BK419.out 2
        have hfz28_3 := blk_frozen BK419.out 3
        have hfz28_4 := blk_frozen BK419.out 4
        go_wp2_with (first | ((with_reducible refine gate_builtin (b := .append) (xs := #[.tmp 38, .tmp 40]) rfl ?_); at_builtin; refine Kd.S_append k65 w.heap.size rfl (.tmp 38) (.tmp 40) 25 65 (.agg #[(.int .i64 0), (.slice none 0 0), (.int .i64 0), (.int .i64 0), (.int .i64 0)]) 56 rfl Try.underlying25 info65 rfl (by decide) (by omega) u7 x7_1 (⟨t410, t411, t414, t415, t416⟩ : S65) [.int .i64 t410, .slice Ao19 t411.length co19, .int .i64 t414, .int .i64 t415, .int .i64 t416] (fun k_ => k_ ≠ gb419) (fun k_ => some k_ = (.slice Ao19 t411.length co19 : Value).ownBlock) rfl rfl ?aP (fun k_ hk_ => ((Kd.R_mono (ok' := fun k_ => ((fun k_ => k_ ≠ gb419)) k_ ∧ some k_ ≠ (u7 : Value).ownBlock) (Kd.R_types (Kd.R_apart' (HO_420001.out) (Kd.S_typed HO_7.out) (by decide)) BK419.out (by decide)) (fun k_ hk => ⟨hk.2, hk.1.2⟩))).1 k_ hk_.symm) ?aF ?aO (Below.refl _ _) ?aS ?aL ?_; (case aP => exact z85_); (case aF => exact z91_); (case aO => exact z128_); (case aS => exact z108_); (case aL => have := LMc25.out; omega); intro v428 w29 ho hb hg hat; rw [← Ny427.out] at ho; replace HO_8 := Aside0.mk (Kd.R_over' z87_ (Kd.S_typed z74_) (by decide) hg); replace HO_11 := Aside0.mk (Kd.R_over' z167_ (Kd.S_typed z74_) (by decide) hg); replace BK419 := Aside0.mk (blk_grown (g := gb419) (o := .cells #[.int .i64 t410, .slice Ao19 t411.length co19, .int .i64 t414, .int .i64 t415, .int .i64 t416] 65 (0, 0)) z77_ hg (Kd.S_away HO_7.out (fun _ hk => hk.2))); replace HB := Aside0.mk (below_weaken z39_ HL.out hb); replace HI0 := Aside0.mk (IsS96.grown z44_ hg (IsS96.own_neS HI0.out HO_7.out (by decide))); replace HK := Aside0.mk (KeepBut.trans z34_ (KeepBut.of_grown hg g) (Kd.S_base2 HO_7.out)); have HO429 := Aside0.mk (ho); clear HO_7 HO_420001; clear ho hb hg hat))
        go_roundg kj12
        case measure => have := HK1.out; have := HJ12.out; omega
        case rel => exact ⟨(y427), (t420), (wrap64 (x9_1 - 1)), (x1001_12), (x1002_12), z14_, H', ⟨z174_⟩, ⟨z145_⟩, ⟨z146_⟩, ⟨z44_⟩, ⟨z34_⟩, ⟨z39_⟩⟩
       ·rw [if_neg c26] at H
        have c26b0 : (t423 == 0) = false := beq_eq_false_iff_ne.mpr c26
        have c26b1 : (t423 != 0) = true := bne_iff_ne.mpr c26
        have H' := Aside0.mk H
        clear H
        have hnb30 := NB419_0.out
        have hnc30 := NB0_419.out
        have hcz31_0 : wc.cell? ⟨gb419, 0, none⟩ = some (.int .i64 t410) := (blk_cell BK419.out 0).trans rfl
        have hcz31_1 : wc.cell? ⟨gb419, 1, none⟩ = some (.slice Ao19 t411.length co19) := (blk_cell BK419.out 1).trans rfl
        have hcz31_2 : wc.cell? ⟨gb419, 2, none⟩ = some (.int .i64 t414) := (blk_cell BK419.out 2).trans rfl
        have hcz31_3 : wc.cell? ⟨gb419, 3, none⟩ = some (.int .i64 t415) := (blk_cell BK419.out 3).trans rfl
        have hcz31_4 : wc.cell? ⟨gb419, 4, none⟩ = some (.int .i64 t416) := (blk_cell BK419.out 4).trans rfl
        have hfz31_0 := blk_frozen BK419.out 0
        have hfz31_1 := blk_frozen BK419.out 1
        have hfz31_2 := blk_frozen BK419.out 2
        have hfz31_3 := blk_frozen BK419.out 3
        have hfz31_4 := blk_frozen BK419.out 4
        go_wp2_with (first | ((with_reducible refine gate_builtin (b := .append) (xs := #[.tmp 38, .tmp 40]) rfl ?_); at_builtin; refine Kd.S_append k65 w.heap.size rfl (.tmp 38) (.tmp 40) 25 65 (.agg #[(.int .i64 0), (.slice none 0 0), (.int .i64 0), (.int .i64 0), (.int .i64 0)]) 56 rfl Try.underlying25 info65 rfl (by decide) (by omega) u7 x7_1 (⟨t410, t411, t414, t415, t416⟩ : S65) [.int .i64 t410, .slice Ao19 t411.length co19, .int .i64 t414, .int .i64 t415, .int .i64 t416] (fun k_ => k_ ≠ gb419) (fun k_ => some k_ = (.slice Ao19 t411.length co19 : Value).ownBlock) rfl rfl ?aP (fun k_ hk_ => ((Kd.R_mono (ok' := fun k_ => ((fun k_ => k_ ≠ gb419)) k_ ∧ some k_ ≠ (u7 : Value).ownBlock) (Kd.R_types (Kd.R_apart' (HO_420001.out) (Kd.S_typed HO_7.out) (by decide)) BK419.out (by decide)) (fun k_ hk => ⟨hk.2, hk.1.2⟩))).1 k_ hk_.symm) ?aF ?aO (Below.refl _ _) ?aS ?aL ?_; (case aP => exact z85_); (case aF => exact z91_); (case aO => exact z128_); (case aS => exact z108_); (case aL => have := LMc25.out; omega); intro v428 w32 ho hb hg hat; rw [← Ny427.out] at ho; replace HO_8 := Aside0.mk (Kd.R_over' z87_ (Kd.S_typed z74_) (by decide) hg); replace HO_11 := Aside0.mk (Kd.R_over' z167_ (Kd.S_typed z74_) (by decide) hg); replace BK419 := Aside0.mk (blk_grown (g := gb419) (o := .cells #[.int .i64 t410, .slice Ao19 t411.length co19, .int .i64 t414, .int .i64 t415, .int .i64 t416] 65 (0, 0)) z77_ hg (Kd.S_away HO_7.out (fun _ hk => hk.2))); replace HB := Aside0.mk (below_weaken z39_ HL.out hb); replace HI0 := Aside0.mk (IsS96.grown z44_ hg (IsS96.own_neS HI0.out HO_7.out (by decide))); replace HK := Aside0.mk (KeepBut.trans z34_ (KeepBut.of_grown hg g) (Kd.S_base2 HO_7.out)); have HO429 := Aside0.mk (ho); clear HO_7 HO_420001; clear ho hb hg hat))
        go_roundg kj12
        case measure => have := HK1.out; have := HJ12.out; omega
        case rel => exact ⟨(y427), (x8_1), (wrap64 (x9_1 - 1)), (x1001_12), (x1002_12), z14_, H', ⟨z174_⟩, ⟨z145_⟩, ⟨z147_⟩, ⟨z44_⟩, ⟨z34_⟩, ⟨z39_⟩⟩
      ·replace c24 := Bool.eq_false_iff.mpr c24
       subst c24
       replace H := iff_ H
       by_cases c33 : t423 = 0
       ·rw [if_pos c33] at H
        have c33b0 : (t423 == 0) = true := beq_iff_eq.mpr c33
        have c33b1 : (t423 != 0) = false := bne_eq_false_iff_eq.mpr c33
        clear c33
        have H' := Aside0.mk H
        clear H
        go_wp2
        go_roundg kj12
        case measure => have := HK1.out; have := HJ12.out; omega
        case rel => exact ⟨(x7_1), (t420), (wrap64 (x9_1 - 1)), (x1001_12), (x1002_12), z14_, H', ⟨z174_⟩, ⟨z148_⟩, ⟨z146_⟩, ⟨z44_⟩, ⟨z34_⟩, ⟨z39_⟩⟩
       ·rw [if_neg c33] at H
        have c33b0 : (t423 == 0) = false := beq_eq_false_iff_ne.mpr c33
        have c33b1 : (t423 != 0) = true := bne_iff_ne.mpr c33
        have H' := Aside0.mk H
        clear H
        go_wp2
        go_roundg kj12
        case measure => have := HK1.out; have := HJ12.out; omega
        case rel => exact ⟨(x7_1), (x8_1), (wrap64 (x9_1 - 1)), (x1001_12), (x1002_12), z14_, H', ⟨z174_⟩, ⟨z148_⟩, ⟨z147_⟩, ⟨z44_⟩, ⟨z34_⟩, ⟨z39_⟩⟩
   ·rw [if_neg c10] at H
    have c10b0 : decide (0 < x9_1) = false := decide_eq_false c10
    clear c10
    simp only [Option.some.injEq, Prod.mk.injEq] at H
    obtain ⟨rfl, rfl, rfl⟩ := H
    go_wp2
    go_ret
    exact ⟨_, z6_, z74_, z4_, z5_, z2_⟩

/-! ### spec_DrawApplyAll: function 34 -/
def spec_DrawApplyAll.f (k : Nat) (l0 : List Int) : Option ((List (S63)) × (List (S65))) := (spec_l1New.f k l0).bind fun bt430 => ((spec_l3Any.f k bt430.1 bt430.2.1 bt430.2.2 8).bind fun bt434 => ((spec_l13Script.f k bt430.1 bt434.2.1 bt434.2.2 bt434.1 7).bind fun bt439 => (some (bt434.1, bt439.1))))
theorem spec_DrawApplyAll.mono : ∀ a0 k, LeO (spec_DrawApplyAll.f k a0) (spec_DrawApplyAll.f (k + 1) a0) := by
 intro a0 k
 unfold spec_DrawApplyAll.f
 repeat' first | (with_reducible first | exact spec_l13Script.mono _ _ _ _ _ _ | exact spec_l1New.mono _ _ | exact spec_l3Any.mono _ _ _ _ _ | exact LeO.refl _ | exact LeO.none _ | refine LeO.ite ?_ ?_ | refine LeO.bind ?_ (fun _ => ?_)) | exact spec_l13Script.mono _ _ _ _ _ _ | exact spec_l1New.mono _ _ | exact spec_l3Any.mono _ _ _ _ _ | exact LeO.none _ | refine LeO.ite ?_ ?_ | refine LeO.bind ?_ (fun _ => ?_)
set_option maxHeartbeats 8000000 in
set_option maxRecDepth 100000 in
theorem spec_DrawApplyAll.calls (k : Nat) (A0 : Option Addr) (c0 : Nat) (l0 : List Int) (r1 : List (S63)) (r2 : List (S65)) (w : World) (hr0 : Kd.C (Kd.int .u8) w A0 l0.length l0) (hc0 : l0.length ≤ c0) (h : spec_DrawApplyAll.f k l0 = some (r1, r2)) :
  Calls Try.prog 34 #[.slice A0 l0.length c0] w fun e w' => ∃ v0_ v1_ : Value, e = .returned (.tuple #[v0_, v1_]) ∧ Kd.Q k63 63 w' w.heap.size (fun _ => True) v0_ r1 ∧ Kd.S k65 65 w' w.heap.size (fun _ => True) v1_ r2 ∧ Below w.heap.size w w' := by
 have HR0 := Aside0.mk hr0
 have HC0 := Aside0.mk hc0
 clear hr0 hc0
 have HB := Aside0.mk (Below.refl w.heap.size w)
 have H : ((spec_l1New.f k l0).bind fun bt430 => ((spec_l3Any.f k bt430.1 bt430.2.1 bt430.2.2 8).bind fun bt434 => ((spec_l13Script.f k bt430.1 bt434.2.1 bt434.2.2 bt434.1 7).bind fun bt439 => (some (bt434.1, bt439.1))))) = some (r1, r2) := h
 clear h
 replace H := Option.bind_eq_some_iff.mp H
 obtain ⟨⟨t430, t431, t432⟩, A20, H⟩ := H
 replace H : ((spec_l3Any.f k t430 t431 t432 8).bind fun bt434 => ((spec_l13Script.f k t430 bt434.2.1 bt434.2.2 bt434.1 7).bind fun bt439 => (some (bt434.1, bt439.1)))) = some (r1, r2) := H
 have A2 := Aside0.mk A20
 clear A20
 replace H := Option.bind_eq_some_iff.mp H
 obtain ⟨⟨t434, t437, t438⟩, A30, H⟩ := H
 replace H : ((spec_l13Script.f k t430 t437 t438 t434 7).bind fun bt439 => (some (t434, bt439.1))) = some (r1, r2) := H
 have A3 := Aside0.mk A30
 clear A30
 replace H := Option.bind_eq_some_iff.mp H
 obtain ⟨⟨t439, t442, t443⟩, A40, H⟩ := H
 replace H : (some (t434, t439)) = some (r1, r2) := H
 have A4 := Aside0.mk A40
 clear A40
 simp only [Option.some.injEq, Prod.mk.injEq] at H
 obtain ⟨rfl, rfl⟩ := H
 go_enter Try.func34, Try.ntmps34
 go_wp2_with (first | ((with_reducible refine gate_callee (f := 38) rfl ?_); refine goesL_ (some 7) rfl rfl Try.func38 (by kernel_rfl) rfl #[.slice A0 l0.length c0] rfl z1_ ?_; (with_reducible refine (spec_l1New.calls k _ _ l0 t430 t431 t432 w _ ?side1 ?side2 ?side3 A2.out).mono ?_); (case side1 => exact z0_); (case side2 => exact HR0.out); (case side3 => exact HC0.out); rintro e w5 ⟨g433, rfl, hi, hb, hb2⟩; refine ⟨_, rfl, ?_⟩; replace HB := Aside0.mk (hb); have HI433 := Aside0.mk (hi); (try clear hb hb2 hi)) | ((with_reducible refine gate_callee (f := 68) rfl ?_); refine goesL_ (some 9) rfl rfl Try.func68 (by kernel_rfl) rfl #[.pointer (some ⟨g433, 0, none⟩), .int .i64 8] rfl z1_ ?_; (with_reducible refine (spec_l3Any.calls k g433 t430 t431 t432 8 t434 t437 t438 w _ ?side1 ?side2 A3.out).mono ?_); (case side1 => exact z123_); (case side2 => exact z68_); rintro e w6 ⟨v435, rfl, ho0, hi, hb, hk⟩; refine ⟨_, rfl, ?_⟩; have HO436 := Aside0.mk (Kd.Q_lower ho0 (below_size z68_)); replace HB := Aside0.mk (hb); replace HI433 := Aside0.mk (hi); (try clear hb hk hi ho0); obtain ⟨Ao7, co7, eo7, _⟩ := Kd.Q_slice HO436.out; subst eo7) | ((with_reducible refine gate_callee (f := 69) rfl ?_); refine goesL_ (some 13) rfl rfl Try.func69 (by kernel_rfl) rfl #[.pointer (some ⟨g433, 0, none⟩), .slice Ao7 t434.length co7, .int .i64 7] rfl z1_ ?_; (with_reducible refine (spec_l13Script.calls k g433 t430 t437 t438 _ _ t434 7 t439 t442 t443 w _ ?side1 ?side2 ?side3 ?side4 A4.out).mono ?_); (case side1 => exact z123_); (case side2 => exact z68_); (case side3 => exact Kd.C_foot_ownQ (IsS96.apartQ (show IsS96 w _ g433 t430 t437 t438 from by repeat (first | (with_reducible first | exact HI433.out | apply IsS96.alloc | apply IsS96.drewN | apply IsS96.drew | apply IsS96.set_1 | apply IsS96.set_2) | exact HI433.out)) z132_ (by decide)) (fun _ h_ => h_.2)); (case side4 => exact (Kd.Q_reads' HO436.out).2.1); rintro e w8 ⟨v440, rfl, ho0, hi, hb, hk⟩; refine ⟨_, rfl, ?_⟩; replace HO436 := Aside0.mk (Kd.Q_mono (Kd.Q_keep (IsS96.apartQ (show IsS96 w _ g433 t430 t437 t438 from by repeat (first | (with_reducible first | exact HI433.out | apply IsS96.alloc | apply IsS96.drewN | apply IsS96.drew | apply IsS96.set_1 | apply IsS96.set_2) | exact HI433.out)) z132_ (by decide)) hk (fun _ h => h.2)) (fun _ h => h.1)); have HO441 := Aside0.mk (Kd.S_lower ho0 (below_size z68_)); replace HB := Aside0.mk (hb); replace HI433 := Aside0.mk (hi); (try clear hb hk hi ho0)))
 go_ret2
 exact ⟨_, _, z6_, z132_, by (with_reducible repeat (first | apply Kd.S_alloc | apply Kd.S_drewN | apply Kd.S_drew)); exact HO441.out, z68_⟩

/-! ### spec_DrawDropIdle: function 10 -/
def spec_DrawDropIdle.f (k : Nat) (l0 : List Int) : Option ((List (S63)) × (List (S65))) := (spec_l1New.f k l0).bind fun bt444 => ((spec_DrawApplyAll.f k l0).bind fun bt448 => (if (bt448.1.length : Int) > 0 then ((spec_l1Once.f bt444.1 bt444.2.1 bt444.2.2 2).bind fun bt454 => (if bt454.1 = true then (if 0 < (bt448.1.length : Int) then ((some (([(⟨1, ([] : List Int), (rd_T63 bt448.1 0).f0, 0, 0⟩ : S65)] : List (S65)) : List (S65))).bind fun y458 => (if y458.length + bt448.2.length < 2513169434916 then (some (bt448.1, (y458 ++ bt448.2))) else (none))) else (none)) else (some (bt448.1, bt448.2)))) else (some (bt448.1, bt448.2))))
theorem spec_DrawDropIdle.mono : ∀ a0 k, LeO (spec_DrawDropIdle.f k a0) (spec_DrawDropIdle.f (k + 1) a0) := by
 intro a0 k
 unfold spec_DrawDropIdle.f
 repeat' first | (with_reducible first | exact spec_DrawApplyAll.mono _ _ | exact spec_l1New.mono _ _ | exact LeO.refl _ | exact LeO.none _ | refine LeO.ite ?_ ?_ | refine LeO.bind ?_ (fun _ => ?_)) | exact spec_DrawApplyAll.mono _ _ | exact spec_l1New.mono _ _ | exact LeO.none _ | refine LeO.ite ?_ ?_ | refine LeO.bind ?_ (fun _ => ?_)
set_option maxHeartbeats 8000000 in
set_option maxRecDepth 100000 in
theorem spec_DrawDropIdle.calls (k : Nat) (A0 : Option Addr) (c0 : Nat) (l0 : List Int) (r1 : List (S63)) (r2 : List (S65)) (w : World) (hr0 : Kd.C (Kd.int .u8) w A0 l0.length l0) (hc0 : l0.length ≤ c0) (h : spec_DrawDropIdle.f k l0 = some (r1, r2)) :
  Calls Try.prog 10 #[.slice A0 l0.length c0] w fun e w' => ∃ v0_ v1_ : Value, e = .returned (.tuple #[v0_, v1_]) ∧ Kd.Q k63 63 w' w.heap.size (fun k_ => (w.heap.size ≤ k_)) v0_ r1 ∧ Kd.N k65 65 w' w.heap.size (fun k_ => (w.heap.size ≤ k_) ∧ some k_ ≠ (v0_ : Value).ownBlock) v1_ r2 ∧ Below w.heap.size w w' := by
 have hu65 := Try.underlying65
 have HR0 := Aside0.mk hr0
 have HC0 := Aside0.mk hc0
 clear hr0 hc0
 have HB := Aside0.mk (Below.refl w.heap.size w)
 have H : ((spec_l1New.f k l0).bind fun bt444 => ((spec_DrawApplyAll.f k l0).bind fun bt448 => (if (bt448.1.length : Int) > 0 then ((spec_l1Once.f bt444.1 bt444.2.1 bt444.2.2 2).bind fun bt454 => (if bt454.1 = true then (if 0 < (bt448.1.length : Int) then ((some (([(⟨1, ([] : List Int), (rd_T63 bt448.1 0).f0, 0, 0⟩ : S65)] : List (S65)) : List (S65))).bind fun y458 => (if y458.length + bt448.2.length < 2513169434916 then (some (bt448.1, (y458 ++ bt448.2))) else (none))) else (none)) else (some (bt448.1, bt448.2)))) else (some (bt448.1, bt448.2))))) = some (r1, r2) := h
 clear h
 replace H := Option.bind_eq_some_iff.mp H
 obtain ⟨⟨t444, t445, t446⟩, A20, H⟩ := H
 replace H : ((spec_DrawApplyAll.f k l0).bind fun bt448 => (if (bt448.1.length : Int) > 0 then ((spec_l1Once.f t444 t445 t446 2).bind fun bt454 => (if bt454.1 = true then (if 0 < (bt448.1.length : Int) then ((some (([(⟨1, ([] : List Int), (rd_T63 bt448.1 0).f0, 0, 0⟩ : S65)] : List (S65)) : List (S65))).bind fun y458 => (if y458.length + bt448.2.length < 2513169434916 then (some (bt448.1, (y458 ++ bt448.2))) else (none))) else (none)) else (some (bt448.1, bt448.2)))) else (some (bt448.1, bt448.2)))) = some (r1, r2) := H
 have A2 := Aside0.mk A20
 clear A20
 replace H := Option.bind_eq_some_iff.mp H
 obtain ⟨⟨t448, t449⟩, A30, H⟩ := H
 replace H : (if (t448.length : Int) > 0 then ((spec_l1Once.f t444 t445 t446 2).bind fun bt454 => (if bt454.1 = true then (if 0 < (t448.length : Int) then ((some (([(⟨1, ([] : List Int), (rd_T63 t448 0).f0, 0, 0⟩ : S65)] : List (S65)) : List (S65))).bind fun y458 => (if y458.length + t449.length < 2513169434916 then (some (t448, (y458 ++ t449))) else (none))) else (none)) else (some (t448, t449)))) else (some (t448, t449))) = some (r1, r2) := H
 have A3 := Aside0.mk A30
 clear A30
 by_cases c4 : (t448.length : Int) > 0
 ·rw [if_pos c4] at H
  have c4b0 : decide (0 < (t448.length : Int)) = true := decide_eq_true c4
  have c4b1 : decide (0 < t448.length) = true := decide_eq_true (by omega)
  clear c4
  replace H := Option.bind_eq_some_iff.mp H
  obtain ⟨⟨t454, t455, t456⟩, A50, H⟩ := H
  replace H : (if t454 = true then (if 0 < (t448.length : Int) then ((some (([(⟨1, ([] : List Int), (rd_T63 t448 0).f0, 0, 0⟩ : S65)] : List (S65)) : List (S65))).bind fun y458 => (if y458.length + t449.length < 2513169434916 then (some (t448, (y458 ++ t449))) else (none))) else (none)) else (some (t448, t449))) = some (r1, r2) := H
  have A5 := Aside0.mk A50
  clear A50
  by_cases c6 : t454 = true
  ·subst c6
   replace H := ift_ H
   obtain ⟨c7, H⟩ := ifs_ H
   have c7b0 : decide (0 < (t448.length : Int)) = true := decide_eq_true c7
   have c7b1 : decide (0 < t448.length) = true := decide_eq_true (by omega)
   clear c7
   obtain ⟨y458, hy458⟩ : ∃ y_ : List (S65), y_ = (([(⟨1, ([] : List Int), (rd_T63 t448 0).f0, 0, 0⟩ : S65)] : List (S65))) := ⟨_, rfl⟩
   replace H : (if y458.length + t449.length < 2513169434916 then (some (t448, (y458 ++ t449))) else (none)) = some (r1, r2) := by first | (rw [hy458]; with_reducible exact H) | (have H2_ := (Option.bind_some _ _).symm.trans H; rw [hy458]; with_reducible exact H2_) | (have H2_ := (Option.bind_some _ _).symm.trans H; with_reducible exact H2_) | with_reducible exact H | (rw [hy458]; exact H) | exact H
   have Ny458 := Aside0.mk hy458
   clear hy458
   obtain ⟨c8, H⟩ := ifs_ H
   have LMc8 := Aside0.mk c8
   clear c8
   obtain ⟨y461, hy461⟩ : ∃ y_ : List (S65), y_ = (y458 ++ t449) := ⟨_, rfl⟩
   replace H : (some (t448, y461)) = some (r1, r2) := by first | (rw [hy461]; with_reducible exact H) | (have H2_ := (Option.bind_some _ _).symm.trans H; rw [hy461]; with_reducible exact H2_) | (have H2_ := (Option.bind_some _ _).symm.trans H; with_reducible exact H2_) | with_reducible exact H | (rw [hy461]; exact H) | exact H
   have Ny461 := Aside0.mk hy461
   clear hy461
   simp only [Option.some.injEq, Prod.mk.injEq] at H
   obtain ⟨rfl, rfl⟩ := H
   go_enter Try.func10, Try.ntmps10
   go_wp2_with (first | ((with_reducible refine gate_callee (f := 38) rfl ?_); refine goesL_ (some 8) rfl rfl Try.func38 (by kernel_rfl) rfl #[.slice A0 l0.length c0] rfl z1_ ?_; (with_reducible refine (spec_l1New.calls k _ _ l0 t444 t445 t446 w _ ?side1 ?side2 ?side3 A2.out).mono ?_); (case side1 => exact z0_); (case side2 => exact HR0.out); (case side3 => exact HC0.out); rintro e w9 ⟨g447, rfl, hi, hb, hb2⟩; refine ⟨_, rfl, ?_⟩; replace HB := Aside0.mk (hb); have HI447 := Aside0.mk (hi); (try clear hb hb2 hi)) | ((with_reducible refine gate_callee (f := 34) rfl ?_); refine goesL_ (some 11) rfl rfl Try.func34 (by kernel_rfl) rfl #[.slice A0 l0.length c0] rfl z1_ ?_; (with_reducible refine (spec_DrawApplyAll.calls k _ _ l0 t448 t449 _ ?side1 ?side2 A3.out).mono ?_); (case side1 => exact z3_); (case side2 => exact HC0.out); rintro e w10 ⟨v450, v452, rfl, ho0, ho1, hb⟩; refine ⟨_, rfl, ?_⟩; have HO451 := Aside0.mk (Kd.Q_lower (Kd.Q_newM (M := fun k_ => (w.heap.size ≤ k_)) ho0 (below_size z16_) (fun k_ h_ => h_)) (below_size z16_)); have HO453 := Aside0.mk (Kd.N_lower (Kd.N_mono (ok' := fun k_ => (w.heap.size ≤ k_) ∧ some k_ ≠ (v450 : Value).ownBlock ∧ k_ ≠ g447) (Kd.S_N (Kd.S_bound (Kd.S_apart' ho1 (Kd.Q_typed ho0) (by decide)))) (fun k_ hk_ => ⟨(Nat.le_trans (below_size z16_) hk_.2.1), hk_.1.2, (IsS96.fresh z38_ k_ hk_.2.1)⟩)) (below_size z16_)); replace HB := Aside0.mk (below_step z16_ hb); replace HI447 := Aside0.mk (IsS96.below z38_ hb); (try clear hb ho0 ho1); obtain ⟨Ao11, co11, eo11, _⟩ := Kd.Q_slice HO451.out; subst eo11) | (go_at_call 39; (with_reducible refine (spec_l1Once.calls g447 t444 t445 t446 2 true t455 t456 w _ ?side1 ?side2 A5.out).mono ?_); (case side1 => exact z38_); (case side2 => exact z16_); rintro e w12 ⟨rfl, hi, hb, hk⟩; replace HO451 := Aside0.mk (Kd.Q_mono (Kd.Q_keep (IsS96.apartQ (show IsS96 w _ g447 t444 t445 t446 from by repeat (first | (with_reducible first | exact HI447.out | apply IsS96.alloc | apply IsS96.drewN | apply IsS96.drew | apply IsS96.set_1 | apply IsS96.set_2) | exact HI447.out)) z86_ (by decide)) hk (fun _ h => h.2)) (fun _ h => h.1)); replace HO453 := Aside0.mk (Kd.N_mono (Kd.N_keep (Kd.N_mono (ok := fun k_ => (((w.heap.size ≤ k_)) ∧ (some k_ ≠ (.slice Ao11 t448.length co11 : Value).ownBlock ∧ k_ ≠ g447))) z96_ (fun k_ hk_ => (⟨hk_, hk_.2.2⟩ : _ ∧ k_ ≠ g447))) hk (fun _ h => h.2)) (fun _ h => h.1)); replace HB := Aside0.mk (hb); replace HI447 := Aside0.mk (hi); (try clear hb hk hi); have p457 : 0 ≤ (0 : Int) := (by omega); have q457 : 0 < (t448.length : Int) := odt_; obtain ⟨ad457, e457, hx457_0, hx457_1⟩ := at_T63 (Kd.Q_reads' HO451.out).2.2 0 p457 q457; cases e457; have qi457 : (0 < t448.length) = True := eq_true (by omega); (try rw [show ((0 : Int)).toNat = 0 from rfl] at hx457_0); (try rw [show 0 * 2 = 0 from rfl] at hx457_0); (try rw [Addr.add_zero'] at hx457_0); (try rw [show ((0 : Int)).toNat = 0 from rfl] at hx457_1); (try rw [show 0 * 2 = 0 from rfl] at hx457_1); (try rw [Addr.add_zero'] at hx457_1); replace p457 := eq_true p457; replace q457 := eq_true q457) | ((with_reducible refine gate_dst (N := 26) rfl ?_); refine Kd.N_lit k65 _ 65 ?hg (N' := 26) ?hd (xs := ([(⟨1, ([] : List Int), (rd_T63 t448 0).f0, 0, 0⟩ : S65)] : List (S65))) (inner := [.int .i64 1, .slice none 0 0, .int .i64 ((rd_T63 t448 0).f0), .int .i64 0, .int .i64 0]) (ok := (fun k_ => (w.heap.size ≤ k_) ∧ some k_ ≠ (.slice (some ad457) t448.length co11 : Value).ownBlock ∧ some k_ ≠ (v452 : Value).ownBlock ∧ k_ ≠ g447)) (okp := (fun k_ => (w.heap.size ≤ k_) ∧ some k_ ≠ (.slice (some ad457) t448.length co11 : Value).ownBlock ∧ some k_ ≠ (v452 : Value).ownBlock ∧ k_ ≠ g447)) ?hr ?hp (fun _ hk => hk) ((show ∀ k_, w12.heap.size ≤ k_ → (fun k_ => (w.heap.size ≤ k_) ∧ some k_ ≠ (.slice (some ad457) t448.length co11 : Value).ownBlock ∧ some k_ ≠ (v452 : Value).ownBlock ∧ k_ ≠ g447) k_ from fun k_ hk => ⟨(Nat.le_trans (below_size z16_) hk), Kd.fresh' (Kd.Q_lt z86_) k_ hk, Kd.fresh' (Kd.N_lt z96_) k_ hk, IsS96.fresh z38_ k_ hk⟩) _ (Nat.le_refl _)) (Below.refl _ _) (Nat.le_refl _) (by simp) ?_; (case hd => rfl); (case hg => rfl); (case hr => exact z23_); (case hp => exact (Reps.c5 (show Kd.FK k65 _ _ (⟨1, ([] : List Int), (rd_T63 t448 0).f0, 0, 0⟩ : S65) [.int .i64 1, .slice none 0 0, .int .i64 ((rd_T63 t448 0).f0), .int .i64 0, .int .i64 0] from (k65_mkF _ _ (⟨1, ([] : List Int), (rd_T63 t448 0).f0, 0, 0⟩ : S65) (Nat.le_refl _) (Kd.F_nil _ _ _))) (Reps.none _ _))); intro v459 w13 ho14 hb hg_ hnew_; clear hg_ hnew_; (first | rw [← Ny458.out] at ho14 | (simp only [Int.reduceToNat] at ho14; rw [← Ny458.out] at ho14)); replace HO451 := Aside0.mk (Kd.Q_below z86_ hb); replace HO453 := Aside0.mk (Kd.N_elder' z96_ (Kd.N_base ho14) hb); have HO460 := Aside0.mk (Kd.N_lower ho14 (below_size z16_)); replace HB := Aside0.mk (below_step z16_ hb); replace HI447 := Aside0.mk (IsS96.below z38_ hb); clear hb ho14; obtain ⟨Ao16, co16, eo16⟩ := Kd.N_slice HO453.out; subst eo16) | ((with_reducible refine gate_builtin (b := .append) (xs := #[.tmp 26, .tmp 27]) rfl ?_); at_builtin; refine Kd.N_append_rows k65 (w0 := w) w.heap.size rfl (.tmp 26) (.tmp 27) 25 65 (.agg #[(.int .i64 0), (.slice none 0 0), (.int .i64 0), (.int .i64 0), (.int .i64 0)]) 56 rfl Try.underlying25 info65 rfl (by decide) (by omega) v459 y458 t449 _ _ _ (fun k_ => (w.heap.size ≤ k_) ∧ some k_ ≠ (.slice (some ad457) t448.length co11 : Value).ownBlock ∧ k_ ≠ g447) (fun k_ => ((fun k_ => (w.heap.size ≤ k_) ∧ some k_ ≠ (.slice (some ad457) t448.length co11 : Value).ownBlock ∧ k_ ≠ g447)) k_ ∧ some k_ ≠ (v459 : Value).ownBlock) rfl rfl ?aO ?aR (fun _ hk => hk) ?aF ?aB ?aS ?aL ?_; (case aR => exact (by skip; exact Kd.N_F (Kd.N_mono (ok' := (fun k_ => ((fun k_ => (w.heap.size ≤ k_) ∧ some k_ ≠ (.slice (some ad457) t448.length co11 : Value).ownBlock ∧ k_ ≠ g447)) k_ ∧ some k_ ≠ (v459 : Value).ownBlock)) (HO453.out) (fun k_ hk => ⟨⟨hk.1.1, ⟨hk.1.2.1, hk.1.2.2⟩⟩, hk.2⟩)))); (case aB => exact z16_); (case aF => exact (fun k_ hk => ⟨(Nat.le_trans (below_size z16_) hk), Kd.fresh' (Kd.Q_lt z86_) k_ hk, IsS96.fresh z38_ k_ hk⟩)); (case aO => exact (by (with_reducible repeat (first | apply Kd.N_alloc | apply Kd.N_drewN | apply Kd.N_drew)); exact Kd.N_mono HO460.out (fun _ hk => ⟨hk.1, ⟨hk.2.1, hk.2.2.2⟩⟩))); (case aS => exact (below_size z16_)); (case aL => have := LMc8.out; omega); intro v462 w15 ho hb hg hat; rw [← Ny461.out] at ho; replace HI447 := Aside0.mk (IsS96.grown z38_ hg (IsS96.own_neN HI447.out HO460.out (by decide))); replace HO451 := Aside0.mk (Kd.Q_over' z86_ (Kd.N_typed (by (with_reducible repeat (first | apply Kd.N_alloc | apply Kd.N_drewN | apply Kd.N_drew)); exact HO460.out)) (by decide) hg); replace HO453 := Aside0.mk (Kd.N_afterv (ok := (fun k_ => (w.heap.size ≤ k_) ∧ some k_ ≠ (.slice (some ad457) t448.length co11 : Value).ownBlock ∧ k_ ≠ g447)) z96_ hg hat); replace HB := Aside0.mk (hb); have HO463 := Aside0.mk (ho); clear HO460; clear ho hb hg hat))
   go_ret2
   exact ⟨_, _, z6_, z115_, by (with_reducible repeat (first | apply Kd.N_alloc | apply Kd.N_drewN | apply Kd.N_drew)); exact Kd.N_mono HO463.out (fun _ hk => ⟨hk.1, hk.2.1⟩), z16_⟩
  ·replace c6 := Bool.eq_false_iff.mpr c6
   subst c6
   replace H := iff_ H
   simp only [Option.some.injEq, Prod.mk.injEq] at H
   obtain ⟨rfl, rfl⟩ := H
   go_enter Try.func10, Try.ntmps10
   go_wp2_with (first | ((with_reducible refine gate_callee (f := 38) rfl ?_); refine goesL_ (some 8) rfl rfl Try.func38 (by kernel_rfl) rfl #[.slice A0 l0.length c0] rfl z1_ ?_; (with_reducible refine (spec_l1New.calls k _ _ l0 t444 t445 t446 w _ ?side1 ?side2 ?side3 A2.out).mono ?_); (case side1 => exact z0_); (case side2 => exact HR0.out); (case side3 => exact HC0.out); rintro e w17 ⟨g447, rfl, hi, hb, hb2⟩; refine ⟨_, rfl, ?_⟩; replace HB := Aside0.mk (hb); have HI447 := Aside0.mk (hi); (try clear hb hb2 hi)) | ((with_reducible refine gate_callee (f := 34) rfl ?_); refine goesL_ (some 11) rfl rfl Try.func34 (by kernel_rfl) rfl #[.slice A0 l0.length c0] rfl z1_ ?_; (with_reducible refine (spec_DrawApplyAll.calls k _ _ l0 t448 t449 _ ?side1 ?side2 A3.out).mono ?_); (case side1 => exact z3_); (case side2 => exact HC0.out); rintro e w18 ⟨v450, v452, rfl, ho0, ho1, hb⟩; refine ⟨_, rfl, ?_⟩; have HO451 := Aside0.mk (Kd.Q_lower (Kd.Q_newM (M := fun k_ => (w.heap.size ≤ k_)) ho0 (below_size z16_) (fun k_ h_ => h_)) (below_size z16_)); have HO453 := Aside0.mk (Kd.N_lower (Kd.N_mono (ok' := fun k_ => (w.heap.size ≤ k_) ∧ some k_ ≠ (v450 : Value).ownBlock ∧ k_ ≠ g447) (Kd.S_N (Kd.S_bound (Kd.S_apart' ho1 (Kd.Q_typed ho0) (by decide)))) (fun k_ hk_ => ⟨(Nat.le_trans (below_size z16_) hk_.2.1), hk_.1.2, (IsS96.fresh z38_ k_ hk_.2.1)⟩)) (below_size z16_)); replace HB := Aside0.mk (below_step z16_ hb); replace HI447 := Aside0.mk (IsS96.below z38_ hb); (try clear hb ho0 ho1); obtain ⟨Ao19, co19, eo19, _⟩ := Kd.Q_slice HO451.out; subst eo19) | (go_at_call 39; (with_reducible refine (spec_l1Once.calls g447 t444 t445 t446 2 false t455 t456 w _ ?side1 ?side2 A5.out).mono ?_); (case side1 => exact z38_); (case side2 => exact z16_); rintro e w20 ⟨rfl, hi, hb, hk⟩; replace HO451 := Aside0.mk (Kd.Q_mono (Kd.Q_keep (IsS96.apartQ (show IsS96 w _ g447 t444 t445 t446 from by repeat (first | (with_reducible first | exact HI447.out | apply IsS96.alloc | apply IsS96.drewN | apply IsS96.drew | apply IsS96.set_1 | apply IsS96.set_2) | exact HI447.out)) z86_ (by decide)) hk (fun _ h => h.2)) (fun _ h => h.1)); replace HO453 := Aside0.mk (Kd.N_mono (Kd.N_keep (Kd.N_mono (ok := fun k_ => (((w.heap.size ≤ k_)) ∧ (some k_ ≠ (.slice Ao19 t448.length co19 : Value).ownBlock ∧ k_ ≠ g447))) z96_ (fun k_ hk_ => (⟨hk_, hk_.2.2⟩ : _ ∧ k_ ≠ g447))) hk (fun _ h => h.2)) (fun _ h => h.1)); replace HB := Aside0.mk (hb); replace HI447 := Aside0.mk (hi); (try clear hb hk hi)))
   go_ret2
   exact ⟨_, _, z6_, z115_, z141_, z16_⟩
 ·rw [if_neg c4] at H
  have c4b0 : decide (0 < (t448.length : Int)) = false := decide_eq_false c4
  have c4b1 : decide (0 < t448.length) = false := decide_eq_false (by omega)
  clear c4
  simp only [Option.some.injEq, Prod.mk.injEq] at H
  obtain ⟨rfl, rfl⟩ := H
  go_enter Try.func10, Try.ntmps10
  go_wp2_with (first | ((with_reducible refine gate_callee (f := 38) rfl ?_); refine goesL_ (some 8) rfl rfl Try.func38 (by kernel_rfl) rfl #[.slice A0 l0.length c0] rfl z1_ ?_; (with_reducible refine (spec_l1New.calls k _ _ l0 t444 t445 t446 w _ ?side1 ?side2 ?side3 A2.out).mono ?_); (case side1 => exact z0_); (case side2 => exact HR0.out); (case side3 => exact HC0.out); rintro e w21 ⟨g447, rfl, hi, hb, hb2⟩; refine ⟨_, rfl, ?_⟩; replace HB := Aside0.mk (hb); have HI447 := Aside0.mk (hi); (try clear hb hb2 hi)) | ((with_reducible refine gate_callee (f := 34) rfl ?_); refine goesL_ (some 11) rfl rfl Try.func34 (by kernel_rfl) rfl #[.slice A0 l0.length c0] rfl z1_ ?_; (with_reducible refine (spec_DrawApplyAll.calls k _ _ l0 t448 t449 _ ?side1 ?side2 A3.out).mono ?_); (case side1 => exact z3_); (case side2 => exact HC0.out); rintro e w22 ⟨v450, v452, rfl, ho0, ho1, hb⟩; refine ⟨_, rfl, ?_⟩; have HO451 := Aside0.mk (Kd.Q_lower (Kd.Q_newM (M := fun k_ => (w.heap.size ≤ k_)) ho0 (below_size z16_) (fun k_ h_ => h_)) (below_size z16_)); have HO453 := Aside0.mk (Kd.N_lower (Kd.N_mono (ok' := fun k_ => (w.heap.size ≤ k_) ∧ some k_ ≠ (v450 : Value).ownBlock ∧ k_ ≠ g447) (Kd.S_N (Kd.S_bound (Kd.S_apart' ho1 (Kd.Q_typed ho0) (by decide)))) (fun k_ hk_ => ⟨(Nat.le_trans (below_size z16_) hk_.2.1), hk_.1.2, (IsS96.fresh z38_ k_ hk_.2.1)⟩)) (below_size z16_)); replace HB := Aside0.mk (below_step z16_ hb); replace HI447 := Aside0.mk (IsS96.below z38_ hb); (try clear hb ho0 ho1); obtain ⟨Ao23, co23, eo23, _⟩ := Kd.Q_slice HO451.out; subst eo23))
  go_ret2
  exact ⟨_, _, z6_, z115_, z141_, z16_⟩

/-! ### impl_within: function 77 -/
def impl_within.f (a0 : Int) (a1 : Int) (a2 : Int) : Option (Bool) := if a1 ≤ a0 then (some (decide (a0 ≤ a2))) else (some false)
set_option maxHeartbeats 8000000 in
set_option maxRecDepth 100000 in
theorem impl_within.calls (a0 : Int) (a1 : Int) (a2 : Int) (r : Bool) (w : World) (h : impl_within.f a0 a1 a2 = some r) :
  Calls Try.prog 77 #[.int .i64 a0, .int .i64 a1, .int .i64 a2] w fun e w' => e = .returned (.bool r) ∧ Drawn0 w w' := by
 have H : (if a1 ≤ a0 then (some (decide (a0 ≤ a2))) else (some false)) = some r := h
 clear h
 by_cases c4 : a1 ≤ a0
 ·rw [if_pos c4] at H
  have c4b0 : decide (a1 ≤ a0) = true := decide_eq_true c4
  clear c4
  obtain rfl := Option.some.inj H
  go_enter Try.func77, Try.ntmps77
  go_wp2
  go_ret
  exact ⟨z14_, z47_⟩
 ·rw [if_neg c4] at H
  have c4b0 : decide (a1 ≤ a0) = false := decide_eq_false c4
  clear c4
  obtain rfl := Option.some.inj H
  go_enter Try.func77, Try.ntmps77
  go_wp2
  go_ret
  exact ⟨z14_, z47_⟩

/-! ### impl_LabelOk: function 78 -/
def impl_LabelOk.f (a0 : Int) : Option (Bool) := (impl_within.f a0 0 5).bind fun t464 => (some t464)
set_option maxHeartbeats 8000000 in
set_option maxRecDepth 100000 in
theorem impl_LabelOk.calls (a0 : Int) (r : Bool) (w : World) (h : impl_LabelOk.f a0 = some r) :
  Calls Try.prog 78 #[.int .i64 a0] w fun e w' => e = .returned (.bool r) ∧ Drawn0 w w' := by
 have H : ((impl_within.f a0 0 5).bind fun t464 => (some t464)) = some r := h
 clear h
 obtain ⟨t464, A2, H⟩ := bnd_ H
 obtain rfl := Option.some.inj H
 go_enter Try.func78, Try.ntmps78
 go_wp2_with (first | ((with_reducible refine gate_callee (f := 77) rfl ?_); refine goesL_ (some 4) rfl rfl Try.func77 (by kernel_rfl) rfl #[.int .i64 a0, .int .i64 0, .int .i64 5] rfl z1_ ?_; (with_reducible refine (impl_within.calls a0 0 5 t464 _ A2.out).mono ?_); rintro e w' ⟨rfl, ⟨nd, rfl⟩⟩; refine ⟨_, rfl, ?_⟩))
 go_ret
 exact ⟨z14_, z47_⟩

/-! ### impl_depthOk: function 79 -/
def impl_depthOk.f (l0 : List (S63)) (a1 : Int) : Option (Bool) := if a1 = 0 then (if 0 < (l0.length : Int) then (some (((rd_T63 l0 0).f1) == 0)) else (none)) else (if 0 ≤ a1 then (if a1 < (l0.length : Int) then (if 0 ≤ (wrap64 (a1 - 1)) then (if (wrap64 (a1 - 1)) < (l0.length : Int) then ((impl_within.f ((rd_T63 l0 a1).f1) 1 (wrap64 (((rd_T63 l0 (wrap64 (a1 - 1))).f1) + 1))).bind fun t468 => (some t468)) else (none)) else (none)) else (none)) else (none))
set_option maxHeartbeats 8000000 in
set_option maxRecDepth 100000 in
theorem impl_depthOk.calls (A0 : Option Addr) (c0 : Nat) (l0 : List (S63)) (a1 : Int) (r : Bool) (w : World) (hr0 : Kd.C k63 w A0 l0.length l0) (hc0 : l0.length ≤ c0) (h : impl_depthOk.f l0 a1 = some r) :
  Calls Try.prog 79 #[.slice A0 l0.length c0, .int .i64 a1] w fun e w' => e = .returned (.bool r) ∧ Drawn0 w w' := by
 have HR0 := Aside0.mk hr0
 have HC0 := Aside0.mk hc0
 clear hr0 hc0
 have H : (if a1 = 0 then (if 0 < (l0.length : Int) then (some (((rd_T63 l0 0).f1) == 0)) else (none)) else (if 0 ≤ a1 then (if a1 < (l0.length : Int) then (if 0 ≤ (wrap64 (a1 - 1)) then (if (wrap64 (a1 - 1)) < (l0.length : Int) then ((impl_within.f ((rd_T63 l0 a1).f1) 1 (wrap64 (((rd_T63 l0 (wrap64 (a1 - 1))).f1) + 1))).bind fun t468 => (some t468)) else (none)) else (none)) else (none)) else (none))) = some r := h
 clear h
 by_cases c3 : a1 = 0
 ·rw [if_pos c3] at H
  have c3b0 : (a1 == 0) = true := beq_iff_eq.mpr c3
  have c3b1 : (a1 != 0) = false := bne_eq_false_iff_eq.mpr c3
  clear c3
  obtain ⟨c4, H⟩ := ifs_ H
  have c4b0 : decide (0 < (l0.length : Int)) = true := decide_eq_true c4
  have c4b1 : decide (0 < l0.length) = true := decide_eq_true (by omega)
  clear c4
  obtain rfl := Option.some.inj H
  have p465 : 0 ≤ (0 : Int) := (by omega)
  have q465 : 0 < (l0.length : Int) := odt_
  obtain ⟨ad465, e465, hx465_0, hx465_1⟩ := at_T63 HR0.out 0 p465 q465
  cases e465
  have qi465 : (0 < l0.length) = True := eq_true (by omega)
  (try rw [show ((0 : Int)).toNat = 0 from rfl] at hx465_0)
  (try rw [show 0 * 2 = 0 from rfl] at hx465_0)
  (try rw [Addr.add_zero'] at hx465_0)
  (try rw [show ((0 : Int)).toNat = 0 from rfl] at hx465_1)
  (try rw [show 0 * 2 = 0 from rfl] at hx465_1)
  (try rw [Addr.add_zero'] at hx465_1)
  replace p465 := eq_true p465
  replace q465 := eq_true q465
  go_enter Try.func79, Try.ntmps79
  go_wp2
  repeat (go_quiet (fail); try go_wp2)
  go_ret
  exact ⟨z14_, z47_⟩
 ·rw [if_neg c3] at H
  have c3b0 : (a1 == 0) = false := beq_eq_false_iff_ne.mpr c3
  have c3b1 : (a1 != 0) = true := bne_iff_ne.mpr c3
  obtain ⟨c5b0, H⟩ := ifd_ H
  obtain ⟨c6b0, H⟩ := ifd_ H
  obtain ⟨ji7, hji7⟩ : ∃ j_ : Int, (wrap64 (a1 - 1)) = j_ := ⟨_, rfl⟩
  replace H : (if 0 ≤ (ji7) then (if (ji7) < (l0.length : Int) then ((impl_within.f ((rd_T63 l0 a1).f1) 1 (wrap64 (((rd_T63 l0 (ji7)).f1) + 1))).bind fun t468 => (some t468)) else (none)) else (none)) = some r := by first | (rw [hji7] at H; exact H) | (simp only [hji7] at H ⊢; exact H)
  have hji7w : (IntKind.i64.wrap (a1 - 1)) = ji7 := (i64_w _).trans hji7
  obtain ⟨c8b0, H⟩ := ifd_ H
  obtain ⟨c9b0, H⟩ := ifd_ H
  obtain ⟨t468, A10, H⟩ := bnd_ H
  obtain rfl := Option.some.inj H
  obtain ⟨p466, q466, ad466, e466, hx466_0, hx466_1⟩ := ato63_ HR0 a1
  cases e466
  obtain ⟨p467, q467, ad467, e467, hx467_0, hx467_1⟩ := ato63_ HR0 (ji7)
  obtain rfl : ad466 = ad467 := (by injection e467)
  go_enter Try.func79, Try.ntmps79
  go_wp2_with (first | (go_at_call 77; (with_reducible refine (impl_within.calls ((rd_T63 l0 a1).f1) 1 (wrap64 (((rd_T63 l0 (ji7)).f1) + 1)) t468 _ A10.out).mono ?_); rintro e w' ⟨rfl, ⟨nd, rfl⟩⟩; (try first | exact ⟨rfl, _, World.drewN_drewN _ _ _⟩ | exact ⟨rfl, _, Eq.trans (World.drewN_drewN _ _ _) (congrArg (World.drewN _) (Nat.add_assoc _ _ _))⟩)))
  repeat (go_quiet (first | (go_at_call 77; (with_reducible refine (impl_within.calls ((rd_T63 l0 a1).f1) 1 (wrap64 (((rd_T63 l0 (ji7)).f1) + 1)) t468 _ A10.out).mono ?_); rintro e w' ⟨rfl, ⟨nd, rfl⟩⟩; (try first | exact ⟨rfl, _, World.drewN_drewN _ _ _⟩ | exact ⟨rfl, _, Eq.trans (World.drewN_drewN _ _ _) (congrArg (World.drewN _) (Nat.add_assoc _ _ _))⟩))); try go_wp2_with (first | (go_at_call 77; (with_reducible refine (impl_within.calls ((rd_T63 l0 a1).f1) 1 (wrap64 (((rd_T63 l0 (ji7)).f1) + 1)) t468 _ A10.out).mono ?_); rintro e w' ⟨rfl, ⟨nd, rfl⟩⟩; (try first | exact ⟨rfl, _, World.drewN_drewN _ _ _⟩ | exact ⟨rfl, _, Eq.trans (World.drewN_drewN _ _ _) (congrArg (World.drewN _) (Nat.add_assoc _ _ _))⟩))))
  go_ret
  exact ⟨by first | rfl | (simp; done) | (simp only [← hji7] <;> (first | rfl | simp)) | (simp [*]; done), z47_⟩

/-! ### impl_TreeOk: function 40 -/
def impl_TreeOk.l0 : Nat → List (S63) → List (S63) → Int → Int → Option (Bool)
 | 0, _, _, _, _ => none
 | k + 1, x0, x9, x10, x11 => if x11 < x10 then (if 0 ≤ x11 then (if x11 < (x9.length : Int) then ((impl_LabelOk.f ((rd_T63 x9 x11).f0)).bind fun t472 => (if t472 = true then ((impl_within.f ((rd_T63 x9 x11).f1) 0 12).bind fun t473 => (if t473 = true then ((impl_depthOk.f x0 x11).bind fun t474 => (if t474 = true then (impl_TreeOk.l0 k x0 x9 x10 (wrap64 (x11 + 1))) else (some false))) else (some false))) else (some false))) else (none)) else (none)) else (some true)
def impl_TreeOk.f (k : Nat) (l0 : List (S63)) : Option (Bool) := (impl_within.f (l0.length : Int) 1 24).bind fun t469 => (if t469 = true then (impl_TreeOk.l0 k l0 l0 (l0.length : Int) 0) else (some false))
theorem impl_TreeOk.mono_l : ∀ k, (∀ y0 y1 y2 y3, LeO (impl_TreeOk.l0 k y0 y1 y2 y3) (impl_TreeOk.l0 (k + 1) y0 y1 y2 y3))
 | 0 => fun _ _ _ _ r h => by simp [impl_TreeOk.l0] at h
 | k + 1 => by
  have ih0 := impl_TreeOk.mono_l k
  ·intro y0 y1 y2 y3
   unfold impl_TreeOk.l0
   repeat' first | (with_reducible first | exact ih0 _ _ _ _ | exact LeO.refl _ | exact LeO.none _ | refine LeO.ite ?_ ?_ | refine LeO.bind ?_ (fun _ => ?_)) | exact ih0 _ _ _ _ | exact LeO.none _ | refine LeO.ite ?_ ?_ | refine LeO.bind ?_ (fun _ => ?_)
theorem impl_TreeOk.mono : ∀ a0 k, LeO (impl_TreeOk.f k a0) (impl_TreeOk.f (k + 1) a0) := by
 intro a0 k
 have ih0 := impl_TreeOk.mono_l k
 unfold impl_TreeOk.f
 repeat' first | (with_reducible first | exact ih0 _ _ _ _ | exact LeO.refl _ | exact LeO.none _ | refine LeO.ite ?_ ?_ | refine LeO.bind ?_ (fun _ => ?_)) | exact ih0 _ _ _ _ | exact LeO.none _ | refine LeO.ite ?_ ?_ | refine LeO.bind ?_ (fun _ => ?_)
set_option maxHeartbeats 8000000 in
set_option maxRecDepth 100000 in
theorem impl_TreeOk.calls (k : Nat) (A0 : Option Addr) (c0 : Nat) (l0 : List (S63)) (r : Bool) (w : World) (hr0 : Kd.C k63 w A0 l0.length l0) (hc0 : l0.length ≤ c0) (h : impl_TreeOk.f k l0 = some r) :
  Calls Try.prog 40 #[.slice A0 l0.length c0] w fun e w' => e = .returned (.bool r) ∧ Below w.heap.size w w' := by
 have hu63 := Try.underlying63
 have HR0 := Aside0.mk hr0
 have HC0 := Aside0.mk hc0
 clear hr0 hc0
 have HB := Aside0.mk (Below.refl w.heap.size w)
 have H : ((impl_within.f (l0.length : Int) 1 24).bind fun t469 => (if t469 = true then (impl_TreeOk.l0 k l0 l0 (l0.length : Int) 0) else (some false))) = some r := h
 clear h
 obtain ⟨t469, A2, H⟩ := bnd_ H
 by_cases c3 : t469 = true
 ·subst c3
  replace H := ift_ H
  have H' := Aside0.mk H
  clear H
  go_enter Try.func40, Try.ntmps40
  go_wp2_with (first | ((with_reducible refine gate_callee (f := 77) rfl ?_); refine goesL_ (some 7) rfl rfl Try.func77 (by kernel_rfl) rfl #[.int .i64 (l0.length : Int), .int .i64 1, .int .i64 24] rfl z1_ ?_; (with_reducible refine (impl_within.calls (l0.length : Int) 1 24 true _ A2.out).mono ?_); rintro e w' ⟨rfl, ⟨nd, rfl⟩⟩; refine ⟨_, rfl, ?_⟩))
  go_loopg [11] k (fun kq v11 w' => ∃ (x11_1 : Int), v11 = .int .i64 x11_1 ∧ Aside0 (impl_TreeOk.l0 kq l0 l0 (l0.length : Int) x11_1 = some r) ∧ Aside0 (kq ≤ k) ∧ Aside0 (Below w.heap.size w w'))
  case atStart => exact ⟨(0), z14_, H', ⟨Nat.le_refl _⟩, ⟨z0_⟩⟩
  case round =>
   clear H'
   try clear p2
   try clear c3
   obtain ⟨x11_1, rfl, HA, HK1, HB⟩ := hrel
   cases gk with
   | zero => exact absurd HA.out (by simp [impl_TreeOk.l0])
   | succ k1 =>
    have H := HA.out
    clear HA
    simp only [impl_TreeOk.l0] at H
    by_cases c4 : x11_1 < (l0.length : Int)
    ·rw [if_pos c4] at H
     have c4b0 : decide (x11_1 < (l0.length : Int)) = true := decide_eq_true c4
     clear c4
     obtain ⟨c5b0, H⟩ := ifd_ H
     obtain ⟨c6b0, H⟩ := ifd_ H
     obtain ⟨t472, A7, H⟩ := bnd_ H
     by_cases c8 : t472 = true
     ·subst c8
      replace H := ift_ H
      obtain ⟨t473, A9, H⟩ := bnd_ H
      by_cases c10 : t473 = true
      ·subst c10
       replace H := ift_ H
       obtain ⟨t474, A11, H⟩ := bnd_ H
       by_cases c12 : t474 = true
       ·subst c12
        replace H := ift_ H
        have H' := Aside0.mk H
        clear H
        obtain ⟨p470, q470, ad470, e470, hx470_0, hx470_1⟩ := atb63_ HR0 HB x11_1
        cases e470
        go_wp2_with (first | ((with_reducible refine gate_dst (N := 4) rfl ?_); refine box_event ?hg (N := 4) ?hd (cs := #[.int .i64 0, .int .i64 0]) (t := 63) ?hr ?_; (case hd => rfl); (case hg => rfl); (case hr => exact z23_); intro gb471 hg w13 hbox hb; have BK471 := Aside0.mk (hbox); have GW471 := Aside0.mk ((by rw [hg]; exact (below_size z0_) : w.heap.size ≤ gb471)); have GE471 := Aside0.mk ((by rw [hg]; exact (below_size z0_) : w.heap.size ≤ gb471)); replace HB := Aside0.mk (below_step z0_ hb); clear hb hbox hg; have hcz14_0 : w13.cell? ⟨gb471, 0, none⟩ = some (.int .i64 0) := (blk_cell BK471.out 0).trans rfl; have hcz14_1 : w13.cell? ⟨gb471, 1, none⟩ = some (.int .i64 0) := (blk_cell BK471.out 1).trans rfl; have hfz14_0 := blk_frozen BK471.out 0; have hfz14_1 := blk_frozen BK471.out 1) | ((with_reducible refine gate_callee (f := 78) rfl ?_); refine goesL_ (some 18) rfl rfl Try.func78 (by kernel_rfl) rfl #[.int .i64 ((rd_T63 l0 x11_1).f0)] rfl z1_ ?_; (with_reducible refine (impl_LabelOk.calls ((rd_T63 l0 x11_1).f0) true _ A7.out).mono ?_); rintro e w' ⟨rfl, ⟨nd, rfl⟩⟩; refine ⟨_, rfl, ?_⟩) | (go_at_call 77; (with_reducible refine (impl_within.calls ((rd_T63 l0 x11_1).f1) 0 12 true _ A9.out).mono ?_); rintro e w' ⟨rfl, ⟨nd, rfl⟩⟩) | (go_at_call 79; (with_reducible refine (impl_depthOk.calls _ _ l0 x11_1 true _ ?side1 ?side2 A11.out).mono ?_); (case side1 => exact z117_); (case side2 => exact HC0.out); rintro e w' ⟨rfl, ⟨nd, rfl⟩⟩))
        go_roundg k1
        case measure => have := HK1.out; omega
        case rel => exact ⟨(wrap64 (x11_1 + 1)), z14_, H', ⟨z84_⟩, ⟨z63_⟩⟩
       ·replace c12 := Bool.eq_false_iff.mpr c12
        subst c12
        replace H := iff_ H
        obtain rfl := Option.some.inj H
        obtain ⟨p470, q470, ad470, e470, hx470_0, hx470_1⟩ := atb63_ HR0 HB x11_1
        cases e470
        go_wp2_with (first | ((with_reducible refine gate_dst (N := 4) rfl ?_); refine box_event ?hg (N := 4) ?hd (cs := #[.int .i64 0, .int .i64 0]) (t := 63) ?hr ?_; (case hd => rfl); (case hg => rfl); (case hr => exact z23_); intro gb471 hg w15 hbox hb; have BK471 := Aside0.mk (hbox); have GW471 := Aside0.mk ((by rw [hg]; exact (below_size z0_) : w.heap.size ≤ gb471)); have GE471 := Aside0.mk ((by rw [hg]; exact (below_size z0_) : w.heap.size ≤ gb471)); replace HB := Aside0.mk (below_step z0_ hb); clear hb hbox hg; have hcz16_0 : w15.cell? ⟨gb471, 0, none⟩ = some (.int .i64 0) := (blk_cell BK471.out 0).trans rfl; have hcz16_1 : w15.cell? ⟨gb471, 1, none⟩ = some (.int .i64 0) := (blk_cell BK471.out 1).trans rfl; have hfz16_0 := blk_frozen BK471.out 0; have hfz16_1 := blk_frozen BK471.out 1) | ((with_reducible refine gate_callee (f := 78) rfl ?_); refine goesL_ (some 18) rfl rfl Try.func78 (by kernel_rfl) rfl #[.int .i64 ((rd_T63 l0 x11_1).f0)] rfl z1_ ?_; (with_reducible refine (impl_LabelOk.calls ((rd_T63 l0 x11_1).f0) true _ A7.out).mono ?_); rintro e w' ⟨rfl, ⟨nd, rfl⟩⟩; refine ⟨_, rfl, ?_⟩) | (go_at_call 77; (with_reducible refine (impl_within.calls ((rd_T63 l0 x11_1).f1) 0 12 true _ A9.out).mono ?_); rintro e w' ⟨rfl, ⟨nd, rfl⟩⟩) | (go_at_call 79; (with_reducible refine (impl_depthOk.calls _ _ l0 x11_1 false _ ?side1 ?side2 A11.out).mono ?_); (case side1 => exact z117_); (case side2 => exact HC0.out); rintro e w' ⟨rfl, ⟨nd, rfl⟩⟩))
        go_ret
        exact ⟨z6_, z63_⟩
      ·replace c10 := Bool.eq_false_iff.mpr c10
       subst c10
       replace H := iff_ H
       obtain rfl := Option.some.inj H
       obtain ⟨p470, q470, ad470, e470, hx470_0, hx470_1⟩ := atb63_ HR0 HB x11_1
       cases e470
       go_wp2_with (first | ((with_reducible refine gate_dst (N := 4) rfl ?_); refine box_event ?hg (N := 4) ?hd (cs := #[.int .i64 0, .int .i64 0]) (t := 63) ?hr ?_; (case hd => rfl); (case hg => rfl); (case hr => exact z23_); intro gb471 hg w17 hbox hb; have BK471 := Aside0.mk (hbox); have GW471 := Aside0.mk ((by rw [hg]; exact (below_size z0_) : w.heap.size ≤ gb471)); have GE471 := Aside0.mk ((by rw [hg]; exact (below_size z0_) : w.heap.size ≤ gb471)); replace HB := Aside0.mk (below_step z0_ hb); clear hb hbox hg; have hcz18_0 : w17.cell? ⟨gb471, 0, none⟩ = some (.int .i64 0) := (blk_cell BK471.out 0).trans rfl; have hcz18_1 : w17.cell? ⟨gb471, 1, none⟩ = some (.int .i64 0) := (blk_cell BK471.out 1).trans rfl; have hfz18_0 := blk_frozen BK471.out 0; have hfz18_1 := blk_frozen BK471.out 1) | ((with_reducible refine gate_callee (f := 78) rfl ?_); refine goesL_ (some 18) rfl rfl Try.func78 (by kernel_rfl) rfl #[.int .i64 ((rd_T63 l0 x11_1).f0)] rfl z1_ ?_; (with_reducible refine (impl_LabelOk.calls ((rd_T63 l0 x11_1).f0) true _ A7.out).mono ?_); rintro e w' ⟨rfl, ⟨nd, rfl⟩⟩; refine ⟨_, rfl, ?_⟩) | (go_at_call 77; (with_reducible refine (impl_within.calls ((rd_T63 l0 x11_1).f1) 0 12 false _ A9.out).mono ?_); rintro e w' ⟨rfl, ⟨nd, rfl⟩⟩))
       go_ret
       exact ⟨z6_, z63_⟩
     ·replace c8 := Bool.eq_false_iff.mpr c8
      subst c8
      replace H := iff_ H
      obtain rfl := Option.some.inj H
      obtain ⟨p470, q470, ad470, e470, hx470_0, hx470_1⟩ := atb63_ HR0 HB x11_1
      cases e470
      go_wp2_with (first | ((with_reducible refine gate_dst (N := 4) rfl ?_); refine box_event ?hg (N := 4) ?hd (cs := #[.int .i64 0, .int .i64 0]) (t := 63) ?hr ?_; (case hd => rfl); (case hg => rfl); (case hr => exact z23_); intro gb471 hg w19 hbox hb; have BK471 := Aside0.mk (hbox); have GW471 := Aside0.mk ((by rw [hg]; exact (below_size z0_) : w.heap.size ≤ gb471)); have GE471 := Aside0.mk ((by rw [hg]; exact (below_size z0_) : w.heap.size ≤ gb471)); replace HB := Aside0.mk (below_step z0_ hb); clear hb hbox hg; have hcz20_0 : w19.cell? ⟨gb471, 0, none⟩ = some (.int .i64 0) := (blk_cell BK471.out 0).trans rfl; have hcz20_1 : w19.cell? ⟨gb471, 1, none⟩ = some (.int .i64 0) := (blk_cell BK471.out 1).trans rfl; have hfz20_0 := blk_frozen BK471.out 0; have hfz20_1 := blk_frozen BK471.out 1) | ((with_reducible refine gate_callee (f := 78) rfl ?_); refine goesL_ (some 18) rfl rfl Try.func78 (by kernel_rfl) rfl #[.int .i64 ((rd_T63 l0 x11_1).f0)] rfl z1_ ?_; (with_reducible refine (impl_LabelOk.calls ((rd_T63 l0 x11_1).f0) false _ A7.out).mono ?_); rintro e w' ⟨rfl, ⟨nd, rfl⟩⟩; refine ⟨_, rfl, ?_⟩))
      go_ret
      exact ⟨z6_, z63_⟩
    ·rw [if_neg c4] at H
     have c4b0 : decide (x11_1 < (l0.length : Int)) = false := decide_eq_false c4
     clear c4
     obtain rfl := Option.some.inj H
     go_wp2
     go_ret
     exact ⟨z6_, z0_⟩
 ·replace c3 := Bool.eq_false_iff.mpr c3
  subst c3
  replace H := iff_ H
  obtain rfl := Option.some.inj H
  go_enter Try.func40, Try.ntmps40
  go_wp2_with (first | ((with_reducible refine gate_callee (f := 77) rfl ?_); refine goesL_ (some 7) rfl rfl Try.func77 (by kernel_rfl) rfl #[.int .i64 (l0.length : Int), .int .i64 1, .int .i64 24] rfl z1_ ?_; (with_reducible refine (impl_within.calls (l0.length : Int) 1 24 false _ A2.out).mono ?_); rintro e w' ⟨rfl, ⟨nd, rfl⟩⟩; refine ⟨_, rfl, ?_⟩))
  go_ret
  exact ⟨z6_, z0_⟩

/-! ### slices_Clone_Node: function 48 -/
def slices_Clone_Node.f (l0 : List (S63)) : Option ((List (S63))) := (some (([] : List (S63)) : List (S63))).bind fun y475 => (if y475.length + l0.length < 8796093022208 then (some (y475 ++ l0)) else (none))
set_option maxHeartbeats 8000000 in
set_option maxRecDepth 100000 in
theorem slices_Clone_Node.calls (A0 : Option Addr) (c0 : Nat) (l0 : List (S63)) (r : List (S63)) (w : World) (hr0 : Kd.C k63 w A0 l0.length l0) (hc0 : l0.length ≤ c0) (h : slices_Clone_Node.f l0 = some r) :
  Calls Try.prog 48 #[.slice A0 l0.length c0] w fun e w' => ∃ v0_ : Value, e = .returned (v0_) ∧ Kd.R k63 63 w' w.heap.size (fun _ => True) v0_ r ∧ Below w.heap.size w w' := by
 have q_nil : ∀ (w : World) (a : Option Addr) (n c n' c' : Nat), (binOp .eql 24 (.slice a n c) (.slice none n' c')).run Try.prog w = .ok (.bool a.isNone) w := fun w a n c n' c' => Lib.run_eql_slice_nil w _ _ a n c n' c' Try.underlying24
 rcases A0 with _ | ad0
 ·have h0_ : l0 = [] := by
   rcases Nat.eq_zero_or_pos l0.length with h0 | h0
   ·exact List.eq_nil_of_length_eq_zero h0
   ·obtain ⟨ad, h, _⟩ := hr0.2.2 h0
    cases h
  subst h0_
  have hr_ : r = [] := by simpa [slices_Clone_Node.f] using h.symm
  subst hr_
  clear hr0 h
  go_enter Try.func48, Try.ntmps48
  go_wp2
  go_ret
  exact ⟨_, rfl, Kd.R_nil _ _ _ _ _, Below.refl _ _⟩
 have HR0 := Aside0.mk hr0
 have HC0 := Aside0.mk hc0
 clear hr0 hc0
 have HB := Aside0.mk (Below.refl w.heap.size w)
 have H : ((some (([] : List (S63)) : List (S63))).bind fun y475 => (if y475.length + l0.length < 8796093022208 then (some (y475 ++ l0)) else (none))) = some r := h
 clear h
 obtain ⟨y475, hy475⟩ : ∃ y_ : List (S63), y_ = (([] : List (S63))) := ⟨_, rfl⟩
 replace H : (if y475.length + l0.length < 8796093022208 then (some (y475 ++ l0)) else (none)) = some r := by first | (rw [hy475]; with_reducible exact H) | (have H2_ := (Option.bind_some _ _).symm.trans H; rw [hy475]; with_reducible exact H2_) | (have H2_ := (Option.bind_some _ _).symm.trans H; with_reducible exact H2_) | with_reducible exact H | (rw [hy475]; exact H) | exact H
 have Ny475 := Aside0.mk hy475
 clear hy475
 obtain ⟨c2, H⟩ := ifs_ H
 have LMc2 := Aside0.mk c2
 clear c2
 obtain ⟨y478, hy478⟩ : ∃ y_ : List (S63), y_ = (y475 ++ l0) := ⟨_, rfl⟩
 replace H : (some y478) = some r := by first | (rw [hy478]; with_reducible exact H) | (have H2_ := (Option.bind_some _ _).symm.trans H; rw [hy478]; with_reducible exact H2_) | (have H2_ := (Option.bind_some _ _).symm.trans H; with_reducible exact H2_) | with_reducible exact H | (rw [hy478]; exact H) | exact H
 have Ny478 := Aside0.mk hy478
 clear hy478
 obtain rfl := Option.some.inj H
 go_enter Try.func48, Try.ntmps48
 go_wp2_with (first | ((with_reducible refine gate_dst (N := 5) rfl ?_); refine Kd.R_lit k63 _ 63 ?hg (N := 5) ?hd (xs := ([] : List (S63))) (inner := []) (ok := fun _ => True) (okp := fun _ => True) ?hr ?hp (fun _ hk => hk) trivial (Below.refl _ _) (Nat.le_refl _) (by simp) ?_; (case hd => rfl); (case hg => rfl); (case hr => exact z23_); (case hp => exact z110_); intro v476 w3 ho4 hb hg_ hnew_; clear hg_ hnew_; (first | rw [← Ny475.out] at ho4 | (simp only [Int.reduceToNat] at ho4; rw [← Ny475.out] at ho4)); have HO477 := Aside0.mk (Kd.R_lower ho4 (below_size z0_)); replace HB := Aside0.mk (below_step z0_ hb); clear hb ho4) | ((with_reducible refine gate_builtin (b := .append) (xs := #[.tmp 5, .tmp 6]) rfl ?_); at_builtin; refine Kd.R_append_rows k63 (w0 := w) w.heap.size rfl (.tmp 5) (.tmp 6) 24 63 (.agg #[(.int .i64 0), (.int .i64 0)]) 16 rfl Try.underlying24 info63 rfl (by decide) (by omega) v476 y475 l0 _ _ _ (fun _ => True) (fun _ => False) rfl rfl ?aO ?aR (fun _ _ h => h) (fun _ h => h.elim) ?aF ?aB ?aS ?aL ?_; (case aR => exact z3_); (case aB => exact z50_); (case aF => exact z92_); (case aO => exact (by (with_reducible repeat (first | apply Kd.R_alloc | apply Kd.R_drewN | apply Kd.R_drew)); exact HO477.out)); (case aS => exact z46_); (case aL => have := LMc2.out; omega); intro v479 w5 ho hb hg hat; rw [← Ny478.out] at ho; replace HB := Aside0.mk (hb); have HO480 := Aside0.mk (ho); clear HO477; clear ho hb hg hat))
 go_ret
 exact ⟨_, z6_, by (with_reducible repeat (first | apply Kd.R_alloc | apply Kd.R_drewN | apply Kd.R_drew)); exact HO480.out, z0_⟩

end Go.Proofs.Ytmbhlfcpdbbogaa.PFnIdle
