/- Laid by a program of this session out of the kit's print for the law FnMirrored: what it says of the machine is proved here, function by function; each contract under the conditions that it names. -/
import Derived.Test.YtbmkobanpakohaaMFnMirroredx0
import Derived.Test.YtbmkobanpakohaaMFnMirroredx8
import Derived.Test.YtbmkobanpakohaaMFnMirroredx9
namespace Go.Proofs.Ytbmkobanpakohaa.PFnMirrored
open Go.RowKit Go.Proofs.YtbmkobanpakohaaW.PrintWords Go.Proofs.YtbmkobanpakohaaW.PrintLast Go.Proofs.YtbmkobanpakohaaW.PrintMore
attribute [local go_sem] max2_int min2_int max_two min_two max_three min_three max_four min_four   -- for this text's walks alone
set_option linter.unusedVariables false
set_option linter.unusedSimpArgs false

/-! ### spec_l7Any: function 47 -/
def spec_l7Any.f (k : Nat) (s0_0 : List Int) (s0_1 : Int) (s0_2 : Int) : Option (List Int × List Int × List Int × Int × Int) := (spec_l7Cost.f k s0_0 s0_1 s0_2).bind fun bt315 => ((spec_l1Below.f s0_0 bt315.2.2.2.1 bt315.2.2.2.2 14).bind fun bt327 => (if bt327.1 = 0 then ((spec_l1Below.f s0_0 bt327.2.1 bt327.2.2 6).bind fun bt330 => ((spec_l1PickInt.f s0_0 bt330.2.1 bt330.2.2 (([(-1), 1001, 1000] : List Int))).bind fun bt336 => (if 0 ≤ bt330.1 then (if bt330.1 < (bt315.1.length : Int) then (some ((bt315.1.set (bt330.1 : Int).toNat bt336.1), bt315.2.1, bt315.2.2.1, bt336.2.1, bt336.2.2)) else (none)) else (none)))) else (if bt327.1 = 1 then ((spec_l1Below.f s0_0 bt327.2.1 bt327.2.2 36).bind fun bt340 => (if 0 ≤ bt340.1 then (if bt340.1 < (bt315.2.2.1.length : Int) then (some (bt315.1, bt315.2.1, (bt315.2.2.1.set (bt340.1 : Int).toNat 5), bt340.2.1, bt340.2.2)) else (none)) else (none))) else (if bt327.1 = 2 then (if 1 ≤ (bt315.2.1.length : Int) then (some (bt315.1, (bt315.2.1.drop (1 : Int).toNat), bt315.2.2.1, bt327.2.1, bt327.2.2)) else (none)) else (some (bt315.1, bt315.2.1, bt315.2.2.1, bt327.2.1, bt327.2.2))))))
def spec_l7Any.T4 : Bool × List (List Nat × List Nat) := (true, [([], []), ([0], [0]), ([], []), ([2], [2]), ([], []), ([], []), ([4, 5, 3], [4, 5]), ([1, 3, 0, 1, 2, 3, 4, 5, 6], [1, 3]), ([7, 6, 6, 0, 1, 2, 3, 4, 5, 6], [6, 7])])
def spec_l7Any.B4 : List Nat := [0, 1, 0, 4, 0, 0, 60, 127, 255]
theorem spec_l7Any.tab4 : rtab .any (opsOf Try.f47 4) = spec_l7Any.T4 := by kernel_rfl
theorem spec_l7Any.bits4 : waitsOk spec_l7Any.T4.2 spec_l7Any.B4 = true := by kernel_rfl
set_option maxHeartbeats 8000000 in
set_option maxRecDepth 100000 in
theorem spec_l7Any.calls (k : Nat) (g : Nat) (s0_0 : List Int) (s0_1 : Int) (s0_2 : Int) (r1 : List Int) (r2 : List Int) (r3 : List Int) (r4 : Int) (r5 : Int) (w0 w : World) (hI : IsS86 w0 w g s0_0 s0_1 s0_2) (hB : Below w0.heap.size w0 w) (h : spec_l7Any.f k s0_0 s0_1 s0_2 = some (r1, r2, r3, r4, r5)) :
  Calls Try.prog 47 #[.pointer (some ⟨g, 0, none⟩)] w fun e w' => ∃ v0_ v1_ v2_ : Value, e = .returned (.agg #[v0_, v1_, v2_]) ∧ Kd.R (Kd.int .i64) 3 w' w.heap.size (fun k_ => some k_ ≠ (v1_ : Value).ownBlock ∧ some k_ ≠ (v2_ : Value).ownBlock) v0_ r1 ∧ Kd.Q (Kd.int .i64) 3 w' w.heap.size (fun k_ => some k_ ≠ (v0_ : Value).ownBlock ∧ some k_ ≠ (v2_ : Value).ownBlock) v1_ r2 ∧ Kd.R (Kd.int .i64) 3 w' w.heap.size (fun k_ => some k_ ≠ (v0_ : Value).ownBlock ∧ some k_ ≠ (v1_ : Value).ownBlock) v2_ r3 ∧ IsS86 w0 w' g s0_0 r4 r5 ∧ Below w0.heap.size w0 w' ∧ KeepBut w w' g none := by
 have hu38 := Try.underlying38
 have HI0 := Aside0.mk hI
 have HK := Aside0.mk (KeepBut.refl w g none)
 have HL := Aside0.mk hB.size
 clear hI
 have HW0 := Aside0.mk hB.size
 have HB := Aside0.mk hB
 clear hB
 have H : ((spec_l7Cost.f k s0_0 s0_1 s0_2).bind fun bt315 => ((spec_l1Below.f s0_0 bt315.2.2.2.1 bt315.2.2.2.2 14).bind fun bt327 => (if bt327.1 = 0 then ((spec_l1Below.f s0_0 bt327.2.1 bt327.2.2 6).bind fun bt330 => ((spec_l1PickInt.f s0_0 bt330.2.1 bt330.2.2 (([(-1), 1001, 1000] : List Int))).bind fun bt336 => (if 0 ≤ bt330.1 then (if bt330.1 < (bt315.1.length : Int) then (some ((bt315.1.set (bt330.1 : Int).toNat bt336.1), bt315.2.1, bt315.2.2.1, bt336.2.1, bt336.2.2)) else (none)) else (none)))) else (if bt327.1 = 1 then ((spec_l1Below.f s0_0 bt327.2.1 bt327.2.2 36).bind fun bt340 => (if 0 ≤ bt340.1 then (if bt340.1 < (bt315.2.2.1.length : Int) then (some (bt315.1, bt315.2.1, (bt315.2.2.1.set (bt340.1 : Int).toNat 5), bt340.2.1, bt340.2.2)) else (none)) else (none))) else (if bt327.1 = 2 then (if 1 ≤ (bt315.2.1.length : Int) then (some (bt315.1, (bt315.2.1.drop (1 : Int).toNat), bt315.2.2.1, bt327.2.1, bt327.2.2)) else (none)) else (some (bt315.1, bt315.2.1, bt315.2.2.1, bt327.2.1, bt327.2.2))))))) = some (r1, r2, r3, r4, r5) := h
 clear h
 replace H := Option.bind_eq_some_iff.mp H
 obtain ⟨⟨t315, t318, t321, t324, t325⟩, A20, H⟩ := H
 try dsimp only at H
 have A2 := Aside0.mk A20
 clear A20
 replace H := Option.bind_eq_some_iff.mp H
 obtain ⟨⟨t327, t328, t329⟩, A30, H⟩ := H
 try dsimp only at H
 have A3 := Aside0.mk A30
 clear A30
 by_cases c4 : t327 = 0
 ·rw [if_pos c4] at H
  have c4b0 : (t327 == 0) = true := beq_iff_eq.mpr c4
  have c4b1 : (t327 != 0) = false := bne_eq_false_iff_eq.mpr c4
  clear c4
  replace H := Option.bind_eq_some_iff.mp H
  obtain ⟨⟨t330, t331, t332⟩, A50, H⟩ := H
  try dsimp only at H
  have A5 := Aside0.mk A50
  clear A50
  (generalize hy_ : ((([(-1), 1001, 1000] : List Int)) : List Int) = y333 at H; have Ny333 := Aside0.mk hy_.symm; clear hy_)
  replace H := Option.bind_eq_some_iff.mp H
  obtain ⟨⟨t336, t337, t338⟩, A60, H⟩ := H
  try dsimp only at H
  have A6 := Aside0.mk A60
  clear A60
  obtain ⟨c7b0, H⟩ := ifd_ H
  obtain ⟨c8b0, H⟩ := ifd_ H
  (generalize hy_ : ((t315.set (t330 : Int).toNat t336) : List Int) = y339 at H; have Ny339 := Aside0.mk hy_.symm; clear hy_)
  simp only [Option.some.injEq, Prod.mk.injEq] at H
  obtain ⟨rfl, rfl, rfl, rfl, rfl⟩ := H
  go_enter Try.func47, Try.ntmps47
  try go_wp2_with (first | ((with_reducible refine gate_dst (N := 2) rfl ?_); refine box_event ?hg (N := 2) ?hd (cs := #[.slice none 0 0, .slice none 0 0, .slice none 0 0]) (t := 38) ?hr ?_; (case hd => rfl); (case hg => rfl); (case hr => exact z19_); intro gb314 hg w10 hbox hb; replace HB := Aside0.mk (below_step z4_ hb); have BK314 := Aside0.mk (hbox); have GW314 := Aside0.mk ((by rw [hg]; exact (keep_size (w := w) (g := g) (row := none) z2_) : w.heap.size ≤ gb314)); have GE314 := Aside0.mk ((Nat.le_trans HW0.out (by rw [hg]; exact (keep_size (w := w) (g := g) (row := none) z2_) : w.heap.size ≤ gb314) : w0.heap.size ≤ gb314)); replace HK := Aside0.mk (KeepBut.trans z2_ (KeepBut.of_below hb g none) (.inl rfl)); have NB0_314 := Aside0.mk ((by rw [hg]; exact Nat.ne_of_lt (IsS86.lt (show IsS86 w0 _ g s0_0 s0_1 s0_2 from by repeat ((with_reducible exact HI0.out)))) : g ≠ gb314)); have NB314_0 := Aside0.mk ((by rw [hg]; exact Nat.ne_of_gt (IsS86.lt (show IsS86 w0 _ g s0_0 s0_1 s0_2 from by repeat ((with_reducible exact HI0.out)))) : gb314 ≠ g)); replace HI0 := Aside0.mk (IsS86.below z3_ hb); clear hb hbox hg) | ((with_reducible refine gate_callee (f := 65) rfl ?_); refine goesL_ (some 5) rfl rfl Try.func65 (by kernel_rfl) rfl #[.pointer (some ⟨g, 0, none⟩)] rfl z1_ ?_; (with_reducible refine (spec_l7Cost.calls k g s0_0 s0_1 s0_2 t315 t318 t321 t324 t325 w0 _ ?side1 ?side2 A2.out).mono ?_); (case side1 => exact z57_); (case side2 => exact z58_); rintro e w11 ⟨v316, v319, v322, rfl, ho0, ho1, ho2, hi, hb, hk⟩; refine ⟨_, rfl, ?_⟩; replace BK314 := Aside0.mk (KeepBut.blk hk (g' := gb314) (o := .cells #[.slice none 0 0, .slice none 0 0, .slice none 0 0] 38 (0, 0)) z28_ NB314_0.out (by simp)); have HO317 := Aside0.mk (Kd.R_lower ho0 (keep_size (w := w) (g := g) (row := none) z12_)); have HO320 := Aside0.mk (Kd.R_lower ho1 (keep_size (w := w) (g := g) (row := none) z12_)); have HO323 := Aside0.mk (Kd.R_lower ho2 (keep_size (w := w) (g := g) (row := none) z12_)); replace HK := Aside0.mk (KeepBut.trans z12_ hk (.inl rfl)); replace HB := Aside0.mk (hb); replace HI0 := Aside0.mk (hi); (try clear hb hk hi ho0 ho1 ho2)) | ((with_reducible refine gate_dst (N := 3) rfl ?_); refine box_event ?hg (N := 3) ?hd (cs := #[.slice none 0 0, .slice none 0 0, .slice none 0 0]) (t := 38) ?hr ?_; (case hd => rfl); (case hg => rfl); (case hr => exact z19_); intro gb326 hg w12 hbox hb; replace HO317 := Aside0.mk (Kd.R_below z72_ hb); replace HO320 := Aside0.mk (Kd.R_below z73_ hb); replace HO323 := Aside0.mk (Kd.R_below z74_ hb); replace HB := Aside0.mk (below_step z58_ hb); have BK326 := Aside0.mk (hbox); have GW326 := Aside0.mk ((by rw [hg]; exact (keep_size (w := w) (g := g) (row := none) z12_) : w.heap.size ≤ gb326)); have GE326 := Aside0.mk ((Nat.le_trans HW0.out (by rw [hg]; exact (keep_size (w := w) (g := g) (row := none) z12_) : w.heap.size ≤ gb326) : w0.heap.size ≤ gb326)); replace HK := Aside0.mk (KeepBut.trans z12_ (KeepBut.of_below hb g none) (.inl rfl)); have NB314_326 := Aside0.mk ((by rw [hg]; exact Nat.ne_of_lt (blk_lt (g := gb314) (o := .cells #[.slice none 0 0, .slice none 0 0, .slice none 0 0] 38 (0, 0)) z28_) : gb314 ≠ gb326)); have NB326_314 := Aside0.mk ((by rw [hg]; exact Nat.ne_of_gt (blk_lt (g := gb314) (o := .cells #[.slice none 0 0, .slice none 0 0, .slice none 0 0] 38 (0, 0)) z28_) : gb326 ≠ gb314)); replace BK314 := Aside0.mk (blk_below z28_ hb); have NB0_326 := Aside0.mk ((by rw [hg]; exact Nat.ne_of_lt (IsS86.lt (show IsS86 w0 _ g s0_0 t324 t325 from by repeat ((with_reducible exact HI0.out)))) : g ≠ gb326)); have NB326_0 := Aside0.mk ((by rw [hg]; exact Nat.ne_of_gt (IsS86.lt (show IsS86 w0 _ g s0_0 t324 t325 from by repeat ((with_reducible exact HI0.out)))) : gb326 ≠ g)); replace HI0 := Aside0.mk (IsS86.below z57_ hb); clear hb hbox hg; obtain ⟨Ao13, co13, eo13⟩ := Kd.R_slice HO317.out; subst eo13; have hnb14 := NB326_314.out; have hnc14 := NB314_326.out; have hnb15 := NB326_0.out; have hnc15 := NB0_326.out; obtain ⟨hcz16_0, hcz16_1, hcz16_2, hfz16_0, hfz16_1, hfz16_2⟩ := bx3_ BK326.out; obtain ⟨Ao17, co17, eo17⟩ := Kd.R_slice HO320.out; subst eo17; obtain ⟨Ao18, co18, eo18⟩ := Kd.R_slice HO323.out; subst eo18) | ((with_reducible refine gate_callee (f := 64) rfl ?_); refine goesL_ (some 7) rfl rfl Try.func64 (by kernel_rfl) rfl #[.pointer (some ⟨g, 0, none⟩), .int .i64 14] rfl z1_ ?_; (with_reducible refine (spec_l1Below.calls g s0_0 t324 t325 14 t327 t328 t329 w0 _ ?side1 ?side2 A3.out).mono ?_); (case side1 => exact z15_); (case side2 => exact z17_); rintro e w19 ⟨rfl, hi, hb, hk⟩; refine ⟨_, rfl, ?_⟩; replace BK314 := Aside0.mk (KeepBut.blk hk (g' := gb314) (o := .cells #[.slice none 0 0, .slice none 0 0, .slice none 0 0] 38 (0, 0)) z47_ NB314_0.out (by simp)); replace HO317 := Aside0.mk (Kd.R_mono (Kd.R_keep (IsS86.apart (show IsS86 w0 _ g s0_0 t324 t325 from by repeat ((with_reducible first | exact HI0.out | refine IsS86.far ?_ NB0_326.out _))) (by exact (Kd.R_mono (Kd.R_far (p := ⟨gb326, 2, none⟩) (Kd.R_far (p := ⟨gb326, 1, none⟩) (Kd.R_far (p := ⟨gb326, 0, none⟩) (Kd.R_types HO317.out BK326.out (by decide)) (fun _ hk => hk.2) (.slice Ao13 t315.length co13)) (fun _ hk => hk.2) (.slice Ao17 t318.length co17)) (fun _ hk => hk.2) (.slice Ao18 t321.length co18)) (fun _ h_ => h_.1))) (by decide)) hk (fun _ h => h.2)) (fun _ h => h.1)); replace HO320 := Aside0.mk (Kd.R_mono (Kd.R_keep (IsS86.apart (show IsS86 w0 _ g s0_0 t324 t325 from by repeat ((with_reducible first | exact HI0.out | refine IsS86.far ?_ NB0_326.out _))) (by exact (Kd.R_mono (Kd.R_far (p := ⟨gb326, 2, none⟩) (Kd.R_far (p := ⟨gb326, 1, none⟩) (Kd.R_far (p := ⟨gb326, 0, none⟩) (Kd.R_types HO320.out BK326.out (by decide)) (fun _ hk => hk.2) (.slice Ao13 t315.length co13)) (fun _ hk => hk.2) (.slice Ao17 t318.length co17)) (fun _ hk => hk.2) (.slice Ao18 t321.length co18)) (fun _ h_ => h_.1))) (by decide)) hk (fun _ h => h.2)) (fun _ h => h.1)); replace HO323 := Aside0.mk (Kd.R_mono (Kd.R_keep (IsS86.apart (show IsS86 w0 _ g s0_0 t324 t325 from by repeat ((with_reducible first | exact HI0.out | refine IsS86.far ?_ NB0_326.out _))) (by exact (Kd.R_mono (Kd.R_far (p := ⟨gb326, 2, none⟩) (Kd.R_far (p := ⟨gb326, 1, none⟩) (Kd.R_far (p := ⟨gb326, 0, none⟩) (Kd.R_types HO323.out BK326.out (by decide)) (fun _ hk => hk.2) (.slice Ao13 t315.length co13)) (fun _ hk => hk.2) (.slice Ao17 t318.length co17)) (fun _ hk => hk.2) (.slice Ao18 t321.length co18)) (fun _ h_ => h_.1))) (by decide)) hk (fun _ h => h.2)) (fun _ h => h.1)); replace BK326 := Aside0.mk (KeepBut.blk hk (g' := gb326) (o := .cells #[.slice Ao13 t315.length co13, .slice Ao17 t318.length co17, .slice Ao18 t321.length co18] 38 (0, 0)) (by refine blk_put (cs := #[.slice Ao13 t315.length co13, .slice Ao17 t318.length co17, .slice none 0 0]) ?_ 2 _ rfl; refine blk_put (cs := #[.slice Ao13 t315.length co13, .slice none 0 0, .slice none 0 0]) ?_ 1 _ rfl; refine blk_put (cs := #[.slice none 0 0, .slice none 0 0, .slice none 0 0]) ?_ 0 _ rfl; exact BK326.out) NB326_0.out (by simp)); replace HK := Aside0.mk (KeepBut.trans z16_ hk (.inl rfl)); replace HB := Aside0.mk (hb); replace HI0 := Aside0.mk (hi); (try clear hb hk hi)))
  have n0_ := Aside0.mk (Kd.R_drew HO317.out)
  have n1_ := Aside0.mk (Kd.R_drew HO320.out)
  have n2_ := Aside0.mk (Kd.R_drew HO323.out)
  have n3_ := Aside0.mk (blk_drew BK314.out)
  have n4_ := Aside0.mk (blk_drew BK326.out)
  have n5_ := Aside0.mk (IsS86.drew HI0.out)
  have n6_ := Aside0.mk (keep_drew HK.out)
  have n7_ := Aside0.mk (below_drew1 HB.out)
  clear HO317
  clear HO320
  clear HO323
  clear BK314
  clear BK326
  clear HI0
  clear HK
  clear HB
  have HO317 := n0_
  have HO320 := n1_
  have HO323 := n2_
  have BK314 := n3_
  have BK326 := n4_
  have HI0 := n5_
  have HK := n6_
  have HB := n7_
  clear n0_ n1_ n2_ n3_ n4_ n5_ n6_ n7_
  refine start_ (n := 9) (S := fun w' => w'.cell? ⟨gb326, 0, none⟩ = some (.slice Ao13 t315.length co13) ∧ w'.cell? ⟨gb326, 1, none⟩ = some (.slice Ao17 t318.length co17) ∧ w'.cell? ⟨gb326, 2, none⟩ = some (.slice Ao18 t321.length co18)) (ds := [8]) (fl_ 9 0) (by kernel_rfl) rfl (fl_zero _) ⟨(blk_cell BK326.out 0).trans rfl, (blk_cell BK326.out 1).trans rfl, (blk_cell BK326.out 2).trans rfl⟩ (fun hHeld => ?_); refine with_tabW spec_l7Any.tab4 spec_l7Any.bits4 (fun HT_ HW_ => ?_)
  generalize w19.drew = w20 at HO317 HO320 HO323 BK314 BK326 HI0 HK HB hHeld ⊢
  refine zp_ HT_ rfl rfl (by kernel_rfl) (fun _ _ _ h => h) (by rfl) ?_
  refine zpg_ (i := 2) (ra_ [1, 1, 1, 6]) HT_ rfl rfl (by kernel_rfl) (fun _ _ _ h => h) (by rfl) ?_
  refine zpg_ (i := 4) (ra_ [1, 1, 1, 1, 1, 4]) HT_ rfl rfl (by kernel_rfl) (fun _ _ _ h => h) (by rfl) ?_
  refine ztg_ (i := 1) (ra_ [3, 1, 1, 4]) HT_ HW_ rfl rfl (by kernel_rfl) (fun _ _ _ h => h) (by rfl) hHeld ?_ z141_
  refine join_ (σ := Value) 3 #[true, true, true, true, true, true, false, false, false] (fun s_ => [(13, .int .i64 t330), (15, s_)]) (fun s_ w' => (w'.cell? ⟨gb326, 0, none⟩ = some (.slice Ao13 t315.length co13) ∧ w'.cell? ⟨gb326, 1, none⟩ = some (.slice Ao17 t318.length co17) ∧ w'.cell? ⟨gb326, 2, none⟩ = some (.slice Ao18 t321.length co18)) ∧ (Kd.R (Kd.int .i64) 3 w' w.heap.size (fun k_ => some k_ ≠ (.slice Ao17 t318.length co17 : Value).ownBlock ∧ some k_ ≠ (.slice Ao18 t321.length co18 : Value).ownBlock ∧ some k_ ≠ (s_ : Value).ownBlock) (.slice Ao13 t315.length co13) t315) ∧ (Kd.R (Kd.int .i64) 3 w' w.heap.size (fun k_ => some k_ ≠ (.slice Ao13 t315.length co13 : Value).ownBlock ∧ some k_ ≠ (.slice Ao18 t321.length co18 : Value).ownBlock ∧ some k_ ≠ (s_ : Value).ownBlock) (.slice Ao17 t318.length co17) t318) ∧ (Kd.R (Kd.int .i64) 3 w' w.heap.size (fun k_ => some k_ ≠ (.slice Ao13 t315.length co13 : Value).ownBlock ∧ some k_ ≠ (.slice Ao17 t318.length co17 : Value).ownBlock ∧ some k_ ≠ (s_ : Value).ownBlock) (.slice Ao18 t321.length co18) t321) ∧ (Kd.R (Kd.int .i64) 3 w' w.heap.size (fun k_ => some k_ ≠ (.slice Ao13 t315.length co13 : Value).ownBlock ∧ some k_ ≠ (.slice Ao17 t318.length co17 : Value).ownBlock ∧ some k_ ≠ (.slice Ao18 t321.length co18 : Value).ownBlock) s_ y333) ∧ (w'.heap[gb314]? = some (.cells #[.slice none 0 0, .slice none 0 0, .slice none 0 0] 38 (0, 0))) ∧ (w'.heap[gb326]? = some (.cells #[.slice Ao13 t315.length co13, .slice Ao17 t318.length co17, .slice Ao18 t321.length co18] 38 (0, 0))) ∧ (IsS86 w0 w' g s0_0 t331 t332) ∧ (KeepBut w w' g none) ∧ (Below w0.heap.size w0 w')) ?_ ?_
  rotate_left
  ·intro hCont
   refine two_ (i := 3) (j := 5) (Ni := some 13) (Nj := some 15) #[true, true, true, true, true, false, false, false, false] #[true, true, true, false, true, true, false, false, false] rfl rfl rfl rfl (two_of HT_.out (by kernel_rfl)) (by decide) (by decide) (fun K hK => ?_) (fun K hK => ?_)
   ·skip
    refine goes_ Try.func64 (by kernel_rfl) rfl #[.pointer (some ⟨g, 0, none⟩), .int .i64 6] (by rfl) rfl rfl z1_ ?_
    with_reducible refine (spec_l1Below.calls g s0_0 t328 t329 6 t330 t331 t332 w0 _ ?side1 ?side2 A5.out).mono ?_
    (case side1 => exact z15_)
    (case side2 => exact z17_)
    rintro e w21 ⟨rfl, hi, hb, hk⟩
    refine ⟨_, rfl, ?_⟩
    have n0_ := Aside0.mk (KeepBut.blk hk (g' := gb314) (o := .cells #[.slice none 0 0, .slice none 0 0, .slice none 0 0] 38 (0, 0)) z28_ NB314_0.out (by simp))
    have n1_ := Aside0.mk (Kd.R_mono (Kd.R_keep (IsS86.apart (show IsS86 w0 _ g s0_0 t328 t329 from by repeat ((with_reducible exact HI0.out))) z72_ (by decide)) hk (fun _ h => h.2)) (fun _ h => h.1))
    have n2_ := Aside0.mk (Kd.R_mono (Kd.R_keep (IsS86.apart (show IsS86 w0 _ g s0_0 t328 t329 from by repeat ((with_reducible exact HI0.out))) z73_ (by decide)) hk (fun _ h => h.2)) (fun _ h => h.1))
    have n3_ := Aside0.mk (Kd.R_mono (Kd.R_keep (IsS86.apart (show IsS86 w0 _ g s0_0 t328 t329 from by repeat ((with_reducible exact HI0.out))) z74_ (by decide)) hk (fun _ h => h.2)) (fun _ h => h.1))
    have n4_ := Aside0.mk (KeepBut.blk hk (g' := gb326) (o := .cells #[.slice Ao13 t315.length co13, .slice Ao17 t318.length co17, .slice Ao18 t321.length co18] 38 (0, 0)) z88_ NB326_0.out (by simp))
    have n5_ := Aside0.mk (KeepBut.trans z16_ hk (.inl rfl))
    have n6_ := Aside0.mk (hb)
    have n7_ := Aside0.mk (hi)
    clear BK314
    clear HO317
    clear HO320
    clear HO323
    clear BK326
    clear HK
    clear HB
    clear HI0
    have BK314 := n0_
    have HO317 := n1_
    have HO320 := n2_
    have HO323 := n3_
    have BK326 := n4_
    have HK := n5_
    have HB := n6_
    have HI0 := n7_
    clear n0_ n1_ n2_ n3_ n4_ n5_ n6_ n7_
    (try clear hb)
    (try clear hk)
    (try clear hi)
    refine hK.out _ _ ⟨(blk_cell BK326.out 0).trans rfl, (blk_cell BK326.out 1).trans rfl, (blk_cell BK326.out 2).trans rfl⟩ (fun hHeld => ?_)
    clear hK K
    refine zn_ rfl ?_
    refine one_ (i := 5) (N := some 15) (fl_ 9 6) rfl rfl (one_of HT_.out (by kernel_rfl)) (by decide) (fun K hK => ?_)
    refine Kd.R_lit_step (Kd.int .i64) _ 3 ?hg (N := 15) ?hd (xs := ([(-1), 1001, 1000] : List Int)) (inner := [.int .i64 (-1), .int .i64 1001, .int .i64 1000]) (ok := fun _ => True) (okp := fun _ => True) ?hr ?hp (fun _ hk => hk) trivial (Below.refl _ _) (Nat.le_refl _) (by simp) ?_; (case hd => rfl); (case hg => rfl); (case hr => exact z19_); (case hp => exact z168_)
    intro v334 w22 ho23 hb hg_ hnew_
    clear hg_ hnew_
    (rw [← Ny333.out] at ho23)
    have n0_ := Aside0.mk (Kd.R_elder' z72_ (Kd.R_base ho23) hb)
    have n1_ := Aside0.mk (Kd.R_elder' z73_ (Kd.R_base ho23) hb)
    have n2_ := Aside0.mk (Kd.R_elder' z74_ (Kd.R_base ho23) hb)
    have n3_ := Aside0.mk (Kd.R_lower (Kd.R_new' (Kd.R_new' (Kd.R_new' ho23 (Kd.R_lt z72_)) (Kd.R_lt z73_)) (Kd.R_lt z74_)) (keep_size (w := w) (g := g) (row := none) z16_))
    have n4_ := Aside0.mk (IsS86.below z15_ hb)
    have n5_ := Aside0.mk (blk_below z28_ hb)
    have n6_ := Aside0.mk (blk_below z88_ hb)
    have n7_ := Aside0.mk (KeepBut.trans z16_ (KeepBut.of_below hb g none) (.inl rfl))
    have n8_ := Aside0.mk (below_step z17_ hb)
    clear HO317
    clear HO320
    clear HO323
    clear HI0
    clear BK314
    clear BK326
    clear HK
    clear HB
    have HO317 := n0_
    have HO320 := n1_
    have HO323 := n2_
    have HO335 := n3_
    have HI0 := n4_
    have BK314 := n5_
    have BK326 := n6_
    have HK := n7_
    have HB := n8_
    clear n0_ n1_ n2_ n3_ n4_ n5_ n6_ n7_ n8_
    clear hb ho23
    refine hK.out _ _ ⟨(blk_cell BK326.out 0).trans rfl, (blk_cell BK326.out 1).trans rfl, (blk_cell BK326.out 2).trans rfl⟩ (fun hHeld => ?_)
    clear hK K
    refine zn_ rfl ?_
    exact norm_ z237_ (hCont (v334) _ ⟨hHeld, z201_, z202_, z203_, z197_, z28_, z88_, z15_, z16_, z17_⟩)
   ·skip
    refine Kd.R_lit_step (Kd.int .i64) _ 3 ?hg (N := 15) ?hd (xs := ([(-1), 1001, 1000] : List Int)) (inner := [.int .i64 (-1), .int .i64 1001, .int .i64 1000]) (ok := fun _ => True) (okp := fun _ => True) ?hr ?hp (fun _ hk => hk) trivial (Below.refl _ _) (Nat.le_refl _) (by simp) ?_; (case hd => rfl); (case hg => rfl); (case hr => exact z19_); (case hp => exact z168_)
    intro v334 w21 ho22 hb hg_ hnew_
    clear hg_ hnew_
    (rw [← Ny333.out] at ho22)
    have n0_ := Aside0.mk (Kd.R_elder' z72_ (Kd.R_base ho22) hb)
    have n1_ := Aside0.mk (Kd.R_elder' z73_ (Kd.R_base ho22) hb)
    have n2_ := Aside0.mk (Kd.R_elder' z74_ (Kd.R_base ho22) hb)
    have n3_ := Aside0.mk (Kd.R_lower (Kd.R_new' (Kd.R_new' (Kd.R_new' ho22 (Kd.R_lt z72_)) (Kd.R_lt z73_)) (Kd.R_lt z74_)) (keep_size (w := w) (g := g) (row := none) z16_))
    have n4_ := Aside0.mk (IsS86.below z15_ hb)
    have n5_ := Aside0.mk (blk_below z28_ hb)
    have n6_ := Aside0.mk (blk_below z88_ hb)
    have n7_ := Aside0.mk (KeepBut.trans z16_ (KeepBut.of_below hb g none) (.inl rfl))
    have n8_ := Aside0.mk (below_step z17_ hb)
    clear HO317
    clear HO320
    clear HO323
    clear HI0
    clear BK314
    clear BK326
    clear HK
    clear HB
    have HO317 := n0_
    have HO320 := n1_
    have HO323 := n2_
    have HO335 := n3_
    have HI0 := n4_
    have BK314 := n5_
    have BK326 := n6_
    have HK := n7_
    have HB := n8_
    clear n0_ n1_ n2_ n3_ n4_ n5_ n6_ n7_ n8_
    clear hb ho22
    refine hK.out _ _ ⟨(blk_cell BK326.out 0).trans rfl, (blk_cell BK326.out 1).trans rfl, (blk_cell BK326.out 2).trans rfl⟩ (fun hHeld => ?_)
    clear hK K
    refine zn_ rfl ?_
    refine one_ (i := 3) (N := some 13) (fl_ 9 6) rfl rfl (one_of HT_.out (by kernel_rfl)) (by decide) (fun K hK => ?_)
    refine goes_ Try.func64 (by kernel_rfl) rfl #[.pointer (some ⟨g, 0, none⟩), .int .i64 6] (by rfl) rfl rfl z1_ ?_
    with_reducible refine (spec_l1Below.calls g s0_0 t328 t329 6 t330 t331 t332 w0 _ ?side1 ?side2 A5.out).mono ?_
    (case side1 => exact z15_)
    (case side2 => exact z17_)
    rintro e w23 ⟨rfl, hi, hb, hk⟩
    refine ⟨_, rfl, ?_⟩
    have n0_ := Aside0.mk (KeepBut.blk hk (g' := gb314) (o := .cells #[.slice none 0 0, .slice none 0 0, .slice none 0 0] 38 (0, 0)) z28_ NB314_0.out (by simp))
    have n1_ := Aside0.mk (Kd.R_mono (Kd.R_keep (IsS86.apart (show IsS86 w0 _ g s0_0 t328 t329 from by repeat ((with_reducible exact HI0.out))) z72_ (by decide)) hk (fun _ h => h.2)) (fun _ h => h.1))
    have n2_ := Aside0.mk (Kd.R_mono (Kd.R_keep (IsS86.apart (show IsS86 w0 _ g s0_0 t328 t329 from by repeat ((with_reducible exact HI0.out))) z73_ (by decide)) hk (fun _ h => h.2)) (fun _ h => h.1))
    have n3_ := Aside0.mk (Kd.R_mono (Kd.R_keep (IsS86.apart (show IsS86 w0 _ g s0_0 t328 t329 from by repeat ((with_reducible exact HI0.out))) z74_ (by decide)) hk (fun _ h => h.2)) (fun _ h => h.1))
    have n4_ := Aside0.mk (KeepBut.blk hk (g' := gb326) (o := .cells #[.slice Ao13 t315.length co13, .slice Ao17 t318.length co17, .slice Ao18 t321.length co18] 38 (0, 0)) z88_ NB326_0.out (by simp))
    have n5_ := Aside0.mk (Kd.R_mono (Kd.R_keep (IsS86.apart (show IsS86 w0 _ g s0_0 t328 t329 from by repeat ((with_reducible exact HI0.out))) z223_ (by decide)) hk (fun _ h => h.2)) (fun _ h => h.1))
    have n6_ := Aside0.mk (KeepBut.trans z16_ hk (.inl rfl))
    have n7_ := Aside0.mk (hb)
    have n8_ := Aside0.mk (hi)
    clear BK314
    clear HO317
    clear HO320
    clear HO323
    clear BK326
    clear HO335
    clear HK
    clear HB
    clear HI0
    have BK314 := n0_
    have HO317 := n1_
    have HO320 := n2_
    have HO323 := n3_
    have BK326 := n4_
    have HO335 := n5_
    have HK := n6_
    have HB := n7_
    have HI0 := n8_
    clear n0_ n1_ n2_ n3_ n4_ n5_ n6_ n7_ n8_
    (try clear hb)
    (try clear hk)
    (try clear hi)
    refine hK.out _ _ ⟨(blk_cell BK326.out 0).trans rfl, (blk_cell BK326.out 1).trans rfl, (blk_cell BK326.out 2).trans rfl⟩ (fun hHeld => ?_)
    clear hK K
    refine zn_ rfl ?_
    exact norm_ z237_ (hCont (v334) _ ⟨hHeld, z201_, z202_, z203_, z197_, z28_, z88_, z15_, z16_, z17_⟩)
  rintro v334 w24 ⟨hS_, h0_, h1_, h2_, h3_, h4_, h5_, h6_, h7_, h8_⟩
  have n0_ : Aside0 (Kd.R (Kd.int .i64) 3 w24 w.heap.size (fun k_ => some k_ ≠ (.slice Ao17 t318.length co17 : Value).ownBlock ∧ some k_ ≠ (.slice Ao18 t321.length co18 : Value).ownBlock ∧ some k_ ≠ (v334 : Value).ownBlock) (.slice Ao13 t315.length co13) t315) := ⟨h0_⟩
  have n1_ : Aside0 (Kd.R (Kd.int .i64) 3 w24 w.heap.size (fun k_ => some k_ ≠ (.slice Ao13 t315.length co13 : Value).ownBlock ∧ some k_ ≠ (.slice Ao18 t321.length co18 : Value).ownBlock ∧ some k_ ≠ (v334 : Value).ownBlock) (.slice Ao17 t318.length co17) t318) := ⟨h1_⟩
  have n2_ : Aside0 (Kd.R (Kd.int .i64) 3 w24 w.heap.size (fun k_ => some k_ ≠ (.slice Ao13 t315.length co13 : Value).ownBlock ∧ some k_ ≠ (.slice Ao17 t318.length co17 : Value).ownBlock ∧ some k_ ≠ (v334 : Value).ownBlock) (.slice Ao18 t321.length co18) t321) := ⟨h2_⟩
  have n3_ : Aside0 (Kd.R (Kd.int .i64) 3 w24 w.heap.size (fun k_ => some k_ ≠ (.slice Ao13 t315.length co13 : Value).ownBlock ∧ some k_ ≠ (.slice Ao17 t318.length co17 : Value).ownBlock ∧ some k_ ≠ (.slice Ao18 t321.length co18 : Value).ownBlock) v334 y333) := ⟨h3_⟩
  have n4_ : Aside0 (w24.heap[gb314]? = some (.cells #[.slice none 0 0, .slice none 0 0, .slice none 0 0] 38 (0, 0))) := ⟨h4_⟩
  have n5_ : Aside0 (w24.heap[gb326]? = some (.cells #[.slice Ao13 t315.length co13, .slice Ao17 t318.length co17, .slice Ao18 t321.length co18] 38 (0, 0))) := ⟨h5_⟩
  have n6_ : Aside0 (IsS86 w0 w24 g s0_0 t331 t332) := ⟨h6_⟩
  have n7_ : Aside0 (KeepBut w w24 g none) := ⟨h7_⟩
  have n8_ : Aside0 (Below w0.heap.size w0 w24) := ⟨h8_⟩
  clear HO317
  clear HO320
  clear HO323
  clear BK314
  clear BK326
  clear HI0
  clear HK
  clear HB
  clear h0_ h1_ h2_ h3_ h4_ h5_ h6_ h7_ h8_
  have HO317 := n0_
  have HO320 := n1_
  have HO323 := n2_
  have HO335 := n3_
  have BK314 := n4_
  have BK326 := n5_
  have HI0 := n6_
  have HK := n7_
  have HB := n8_
  clear n0_ n1_ n2_ n3_ n4_ n5_ n6_ n7_ n8_
  have hHeld : w24.cell? ⟨gb326, 0, none⟩ = some (.slice Ao13 t315.length co13) ∧ w24.cell? ⟨gb326, 1, none⟩ = some (.slice Ao17 t318.length co17) ∧ w24.cell? ⟨gb326, 2, none⟩ = some (.slice Ao18 t321.length co18) := hS_
  obtain ⟨Ao25, co25, eo25⟩ := Kd.R_slice HO335.out
  (subst eo25)
  refine norm_ (a' := ?_) ?_ ?_
  rotate_left
  ·simp only [putAll, Act.put, List.setIfInBounds_toArray, List.set_cons_zero, List.set_cons_succ]
   rfl
  refine one_ (i := 6) (N := some 16) (fl_ 9 7) rfl rfl (one_of HT_.out (by kernel_rfl)) (by decide) (fun K hK => ?_)
  refine goes_ Try.func66 (by kernel_rfl) rfl #[.pointer (some ⟨g, 0, none⟩), .slice Ao25 y333.length co25] (by rfl) rfl rfl z1_ ?_
  with_reducible refine (spec_l1PickInt.calls g s0_0 t331 t332 _ _ y333 t336 t337 t338 w0 _ ?side1 ?side2 ?side3 ?side4 ?side5 A6.out).mono ?_
  (case side1 => exact z15_)
  (case side2 => exact z17_)
  (case side3 => repeat (exact (Kd.R_reads' HO335.out).2.2))
  (case side4 => exact (Kd.R_reads' HO335.out).2.1)
  (case side5 => exact far_slice (IsS86.own_ne HI0.out HO335.out (by decide)))
  rintro e w26 ⟨rfl, hi, hb, hk⟩
  refine ⟨_, rfl, ?_⟩
  have n0_ := Aside0.mk (KeepBut.blk hk (g' := gb314) (o := .cells #[.slice none 0 0, .slice none 0 0, .slice none 0 0] 38 (0, 0)) z28_ NB314_0.out (by simp))
  have n1_ := Aside0.mk (Kd.R_mono (Kd.R_keep (IsS86.apart (show IsS86 w0 _ g s0_0 t331 t332 from by repeat ((with_reducible exact HI0.out))) z72_ (by decide)) hk (fun _ h => h.2)) (fun _ h => h.1))
  have n2_ := Aside0.mk (Kd.R_mono (Kd.R_keep (IsS86.apart (show IsS86 w0 _ g s0_0 t331 t332 from by repeat ((with_reducible exact HI0.out))) z73_ (by decide)) hk (fun _ h => h.2)) (fun _ h => h.1))
  have n3_ := Aside0.mk (Kd.R_mono (Kd.R_keep (IsS86.apart (show IsS86 w0 _ g s0_0 t331 t332 from by repeat ((with_reducible exact HI0.out))) z74_ (by decide)) hk (fun _ h => h.2)) (fun _ h => h.1))
  have n4_ := Aside0.mk (KeepBut.blk hk (g' := gb326) (o := .cells #[.slice Ao13 t315.length co13, .slice Ao17 t318.length co17, .slice Ao18 t321.length co18] 38 (0, 0)) z88_ NB326_0.out (by simp))
  have n5_ := Aside0.mk (Kd.R_mono (Kd.R_keep (IsS86.apart (show IsS86 w0 _ g s0_0 t331 t332 from by repeat ((with_reducible exact HI0.out))) z223_ (by decide)) hk (fun _ h => h.2)) (fun _ h => h.1))
  have n6_ := Aside0.mk (KeepBut.trans z16_ hk (.inl rfl))
  have n7_ := Aside0.mk (hb)
  have n8_ := Aside0.mk (hi)
  clear BK314
  clear HO317
  clear HO320
  clear HO323
  clear BK326
  clear HO335
  clear HK
  clear HB
  clear HI0
  have BK314 := n0_
  have HO317 := n1_
  have HO320 := n2_
  have HO323 := n3_
  have BK326 := n4_
  have HO335 := n5_
  have HK := n6_
  have HB := n7_
  have HI0 := n8_
  clear n0_ n1_ n2_ n3_ n4_ n5_ n6_ n7_ n8_
  (try clear hb)
  (try clear hk)
  (try clear hi)
  have p9 : 0 ≤ (t330 : Int) := odt_
  have q9 : (t330 : Int) < ((t315.length : Int) : Int) := odt_
  obtain ⟨go9, co9, eo9, gb9, gl9, cl9, HG9⟩ := Kd.R_form HO317.out (by omega)
  (cases eo9)
  have GB9 := Aside0.mk gb9
  have GG9 := Aside0.mk HG9
  clear gb9 gl9 HG9
  obtain ⟨hx9_0, hf9_0⟩ := Kd.R_celln 0 HO317.out (t330 : Int) p9 q9
  replace p9 := eq_true p9
  replace q9 := eq_true q9
  have HN0_go9 := Aside0.mk (show g ≠ go9 from by have h_ := IsS86.own_ne HI0.out HO317.out (by decide); intro e_; exact h_ z186_)
  have HP27 := Kd.R_putn HO317.out (t330 : Int) t336
  rw [← Ny339.out] at HP27
  have HQ27 := Aside0.mk HP27
  clear HP27
  refine hK.out _ _ ⟨(blk_cell BK326.out 0).trans rfl, (blk_cell BK326.out 1).trans rfl, (blk_cell BK326.out 2).trans rfl⟩ (fun hHeld => ?_)
  clear hK K
  refine zn_ rfl ?_
  refine zpg_ (i := 7) (fl_ 9 8) HT_ rfl rfl (by kernel_rfl) (fun _ _ _ h => h) (by rfl) ?_
  refine last_ (i := 8) (N := none) (fl_ 9 9) rfl rfl (one_of HT_.out (by kernel_rfl)) (by decide) (fun K hK => ?_)
  refine skip_ (w1 := ?_) (by rfl) rfl ?_ ?_
  rotate_left
  ·go_simp
   rfl
  refine hK.out _ _ ?_
  clear hK K
  refine done_ (done_of HT_.out (by kernel_rfl)) ?_
  have n0_ : Aside0 (Kd.R (Kd.int .i64) 3 (w26.setCell ⟨go9, (t330 : Int).toNat, none⟩ (.int .i64 t336)) w.heap.size (fun k_ => some k_ ≠ (.slice Ao17 t318.length co17 : Value).ownBlock ∧ some k_ ≠ (.slice Ao18 t321.length co18 : Value).ownBlock ∧ some k_ ≠ (.slice Ao25 y333.length co25 : Value).ownBlock) (.slice (some ⟨go9, 0, none⟩) t315.length co13) y339) := ⟨by exact HQ27.out⟩
  have n1_ : Aside0 (Kd.R (Kd.int .i64) 3 (w26.setCell ⟨go9, (t330 : Int).toNat, none⟩ (.int .i64 t336)) w.heap.size (fun k_ => some k_ ≠ (.slice (some ⟨go9, 0, none⟩) t315.length co13 : Value).ownBlock ∧ some k_ ≠ (.slice Ao18 t321.length co18 : Value).ownBlock ∧ some k_ ≠ (.slice Ao25 y333.length co25 : Value).ownBlock) (.slice Ao17 t318.length co17) t318) := ⟨by exact Kd.R_mono (Kd.R_far (p := ⟨go9, (t330 : Int).toNat, none⟩) (Kd.R_mono HO320.out (fun k_ hk => (⟨hk, fun e_ => hk.1 z186_⟩ : _ ∧ k_ ≠ go9))) (fun _ hk => hk.2) (.int .i64 t336)) (fun _ hk => ⟨hk.1.1, ⟨hk.1.2.1, hk.1.2.2⟩⟩)⟩
  have n2_ : Aside0 (Kd.R (Kd.int .i64) 3 (w26.setCell ⟨go9, (t330 : Int).toNat, none⟩ (.int .i64 t336)) w.heap.size (fun k_ => some k_ ≠ (.slice (some ⟨go9, 0, none⟩) t315.length co13 : Value).ownBlock ∧ some k_ ≠ (.slice Ao17 t318.length co17 : Value).ownBlock ∧ some k_ ≠ (.slice Ao25 y333.length co25 : Value).ownBlock) (.slice Ao18 t321.length co18) t321) := ⟨by exact Kd.R_mono (Kd.R_far (p := ⟨go9, (t330 : Int).toNat, none⟩) (Kd.R_mono HO323.out (fun k_ hk => (⟨hk, fun e_ => hk.1 z186_⟩ : _ ∧ k_ ≠ go9))) (fun _ hk => hk.2) (.int .i64 t336)) (fun _ hk => ⟨hk.1.1, ⟨hk.1.2.1, hk.1.2.2⟩⟩)⟩
  have n3_ : Aside0 (Kd.R (Kd.int .i64) 3 (w26.setCell ⟨go9, (t330 : Int).toNat, none⟩ (.int .i64 t336)) w.heap.size (fun k_ => some k_ ≠ (.slice (some ⟨go9, 0, none⟩) t315.length co13 : Value).ownBlock ∧ some k_ ≠ (.slice Ao17 t318.length co17 : Value).ownBlock ∧ some k_ ≠ (.slice Ao18 t321.length co18 : Value).ownBlock) (.slice Ao25 y333.length co25) y333) := ⟨by exact Kd.R_mono (Kd.R_far (p := ⟨go9, (t330 : Int).toNat, none⟩) (Kd.R_mono HO335.out (fun k_ hk => (⟨hk, fun e_ => hk.1 z186_⟩ : _ ∧ k_ ≠ go9))) (fun _ hk => hk.2) (.int .i64 t336)) (fun _ hk => ⟨hk.1.1, ⟨hk.1.2.1, hk.1.2.2⟩⟩)⟩
  have n4_ : Aside0 ((w26.setCell ⟨go9, (t330 : Int).toNat, none⟩ (.int .i64 t336)).heap[gb314]? = some (.cells #[.slice none 0 0, .slice none 0 0, .slice none 0 0] 38 (0, 0))) := ⟨by refine blk_far ?_ (by have h_ := Kd.R_ne HO317.out BK314.out (by decide); intro e_; exact h_ z186_) _; exact BK314.out⟩
  have n5_ : Aside0 ((w26.setCell ⟨go9, (t330 : Int).toNat, none⟩ (.int .i64 t336)).heap[gb326]? = some (.cells #[.slice (some ⟨go9, 0, none⟩) t315.length co13, .slice Ao17 t318.length co17, .slice Ao18 t321.length co18] 38 (0, 0))) := ⟨by refine blk_far ?_ (by have h_ := Kd.R_ne HO317.out BK326.out (by decide); intro e_; exact h_ z186_) _; exact BK326.out⟩
  have n6_ : Aside0 (IsS86 w0 (w26.setCell ⟨go9, (t330 : Int).toNat, none⟩ (.int .i64 t336)) g s0_0 t337 t338) := ⟨by repeat ((with_reducible first | exact HI0.out | refine IsS86.far ?_ HN0_go9.out _))⟩
  have n7_ : Aside0 (KeepBut w (w26.setCell ⟨go9, (t330 : Int).toNat, none⟩ (.int .i64 t336)) g none) := ⟨by repeat ((with_reducible first | exact HK.out | refine keep_far ?_ GB9.out _))⟩
  have n8_ : Aside0 (Below w0.heap.size w0 (w26.setCell ⟨go9, (t330 : Int).toNat, none⟩ (.int .i64 t336))) := ⟨by repeat ((with_reducible first | exact HB.out | refine below_set ?_ (Nat.le_trans HL.out GB9.out)))⟩
  (try clear HO317)
  (try clear HO320)
  (try clear HO323)
  (try clear HO335)
  (try clear BK314)
  (try clear BK326)
  (try clear HI0)
  (try clear HK)
  (try clear HB)
  generalize (w26.setCell ⟨go9, (t330 : Int).toNat, none⟩ (.int .i64 t336)) = w28 at n0_ n1_ n2_ n3_ n4_ n5_ n6_ n7_ n8_ ⊢
  have HO317 := n0_
  have HO320 := n1_
  have HO323 := n2_
  have HO335 := n3_
  have BK314 := n4_
  have BK326 := n5_
  have HI0 := n6_
  have HK := n7_
  have HB := n8_
  clear n0_ n1_ n2_ n3_ n4_ n5_ n6_ n7_ n8_
  obtain ⟨hcz29_0, hcz29_1, hcz29_2, hfz29_0, hfz29_1, hfz29_2⟩ := bx3_ BK326.out
  have hnb30 := NB314_0.out
  have hnc30 := NB0_314.out
  obtain ⟨hcz31_0, hcz31_1, hcz31_2, hfz31_0, hfz31_1, hfz31_2⟩ := bx3_ BK314.out
  try go_wp2
  refine bodyPost_ret (results_cell_row rfl _ _ gb314 38 #[.slice (some ⟨go9, 0, none⟩) t315.length co13, .slice Ao17 t318.length co17, .slice Ao18 t321.length co18] (0, 0) _ rfl (by refine blk_put (cs := #[.slice (some ⟨go9, 0, none⟩) t315.length co13, .slice Ao17 t318.length co17, .slice none 0 0]) ?_ 2 _ rfl; refine blk_put (cs := #[.slice (some ⟨go9, 0, none⟩) t315.length co13, .slice none 0 0, .slice none 0 0]) ?_ 1 _ rfl; refine blk_put (cs := #[.slice none 0 0, .slice none 0 0, .slice none 0 0]) ?_ 0 _ rfl; exact BK314.out) Try.underlying38 rfl (by kernel_rfl)) rfl ?_
  exact ⟨_, _, _, z6_, by exact Kd.R_mono (Kd.R_far (p := ⟨gb314, 2, none⟩) (Kd.R_far (p := ⟨gb314, 1, none⟩) (Kd.R_far (p := ⟨gb314, 0, none⟩) (Kd.R_types HO317.out BK314.out (by decide)) (fun _ hk => hk.2) (.slice (some ⟨go9, 0, none⟩) t315.length co13)) (fun _ hk => hk.2) (.slice Ao17 t318.length co17)) (fun _ hk => hk.2) (.slice Ao18 t321.length co18)) (fun _ hk => ⟨hk.1.1, hk.1.2.1⟩), Kd.Q_of_R (by exact Kd.R_mono (Kd.R_far (p := ⟨gb314, 2, none⟩) (Kd.R_far (p := ⟨gb314, 1, none⟩) (Kd.R_far (p := ⟨gb314, 0, none⟩) (Kd.R_types HO320.out BK314.out (by decide)) (fun _ hk => hk.2) (.slice (some ⟨go9, 0, none⟩) t315.length co13)) (fun _ hk => hk.2) (.slice Ao17 t318.length co17)) (fun _ hk => hk.2) (.slice Ao18 t321.length co18)) (fun _ hk => ⟨hk.1.1, hk.1.2.1⟩)), by exact Kd.R_mono (Kd.R_far (p := ⟨gb314, 2, none⟩) (Kd.R_far (p := ⟨gb314, 1, none⟩) (Kd.R_far (p := ⟨gb314, 0, none⟩) (Kd.R_types HO323.out BK314.out (by decide)) (fun _ hk => hk.2) (.slice (some ⟨go9, 0, none⟩) t315.length co13)) (fun _ hk => hk.2) (.slice Ao17 t318.length co17)) (fun _ hk => hk.2) (.slice Ao18 t321.length co18)) (fun _ hk => ⟨hk.1.1, hk.1.2.1⟩), z15_, z17_, z16_⟩
 ·rw [if_neg c4] at H
  have c4b0 : (t327 == 0) = false := beq_eq_false_iff_ne.mpr c4
  have c4b1 : (t327 != 0) = true := bne_iff_ne.mpr c4
  by_cases c32 : t327 = 1
  ·rw [if_pos c32] at H
   have c32b0 : (t327 == 1) = true := beq_iff_eq.mpr c32
   have c32b1 : (t327 != 1) = false := bne_eq_false_iff_eq.mpr c32
   clear c32
   replace H := Option.bind_eq_some_iff.mp H
   obtain ⟨⟨t340, t341, t342⟩, A330, H⟩ := H
   try dsimp only at H
   have A33 := Aside0.mk A330
   clear A330
   obtain ⟨c34b0, H⟩ := ifd_ H
   obtain ⟨c35b0, H⟩ := ifd_ H
   (generalize hy_ : ((t321.set (t340 : Int).toNat 5) : List Int) = y343 at H; have Ny343 := Aside0.mk hy_.symm; clear hy_)
   simp only [Option.some.injEq, Prod.mk.injEq] at H
   obtain ⟨rfl, rfl, rfl, rfl, rfl⟩ := H
   go_enter Try.func47, Try.ntmps47
   try go_wp2_with (first | ((with_reducible refine gate_dst (N := 2) rfl ?_); refine box_event ?hg (N := 2) ?hd (cs := #[.slice none 0 0, .slice none 0 0, .slice none 0 0]) (t := 38) ?hr ?_; (case hd => rfl); (case hg => rfl); (case hr => exact z19_); intro gb314 hg w37 hbox hb; replace HB := Aside0.mk (below_step z4_ hb); have BK314 := Aside0.mk (hbox); have GW314 := Aside0.mk ((by rw [hg]; exact (keep_size (w := w) (g := g) (row := none) z2_) : w.heap.size ≤ gb314)); have GE314 := Aside0.mk ((Nat.le_trans HW0.out (by rw [hg]; exact (keep_size (w := w) (g := g) (row := none) z2_) : w.heap.size ≤ gb314) : w0.heap.size ≤ gb314)); replace HK := Aside0.mk (KeepBut.trans z2_ (KeepBut.of_below hb g none) (.inl rfl)); have NB0_314 := Aside0.mk ((by rw [hg]; exact Nat.ne_of_lt (IsS86.lt (show IsS86 w0 _ g s0_0 s0_1 s0_2 from by repeat ((with_reducible exact HI0.out)))) : g ≠ gb314)); have NB314_0 := Aside0.mk ((by rw [hg]; exact Nat.ne_of_gt (IsS86.lt (show IsS86 w0 _ g s0_0 s0_1 s0_2 from by repeat ((with_reducible exact HI0.out)))) : gb314 ≠ g)); replace HI0 := Aside0.mk (IsS86.below z3_ hb); clear hb hbox hg) | ((with_reducible refine gate_callee (f := 65) rfl ?_); refine goesL_ (some 5) rfl rfl Try.func65 (by kernel_rfl) rfl #[.pointer (some ⟨g, 0, none⟩)] rfl z1_ ?_; (with_reducible refine (spec_l7Cost.calls k g s0_0 s0_1 s0_2 t315 t318 t321 t324 t325 w0 _ ?side1 ?side2 A2.out).mono ?_); (case side1 => exact z57_); (case side2 => exact z58_); rintro e w38 ⟨v316, v319, v322, rfl, ho0, ho1, ho2, hi, hb, hk⟩; refine ⟨_, rfl, ?_⟩; replace BK314 := Aside0.mk (KeepBut.blk hk (g' := gb314) (o := .cells #[.slice none 0 0, .slice none 0 0, .slice none 0 0] 38 (0, 0)) z28_ NB314_0.out (by simp)); have HO317 := Aside0.mk (Kd.R_lower ho0 (keep_size (w := w) (g := g) (row := none) z12_)); have HO320 := Aside0.mk (Kd.R_lower ho1 (keep_size (w := w) (g := g) (row := none) z12_)); have HO323 := Aside0.mk (Kd.R_lower ho2 (keep_size (w := w) (g := g) (row := none) z12_)); replace HK := Aside0.mk (KeepBut.trans z12_ hk (.inl rfl)); replace HB := Aside0.mk (hb); replace HI0 := Aside0.mk (hi); (try clear hb hk hi ho0 ho1 ho2)) | ((with_reducible refine gate_dst (N := 3) rfl ?_); refine box_event ?hg (N := 3) ?hd (cs := #[.slice none 0 0, .slice none 0 0, .slice none 0 0]) (t := 38) ?hr ?_; (case hd => rfl); (case hg => rfl); (case hr => exact z19_); intro gb326 hg w39 hbox hb; replace HO317 := Aside0.mk (Kd.R_below z72_ hb); replace HO320 := Aside0.mk (Kd.R_below z73_ hb); replace HO323 := Aside0.mk (Kd.R_below z74_ hb); replace HB := Aside0.mk (below_step z58_ hb); have BK326 := Aside0.mk (hbox); have GW326 := Aside0.mk ((by rw [hg]; exact (keep_size (w := w) (g := g) (row := none) z12_) : w.heap.size ≤ gb326)); have GE326 := Aside0.mk ((Nat.le_trans HW0.out (by rw [hg]; exact (keep_size (w := w) (g := g) (row := none) z12_) : w.heap.size ≤ gb326) : w0.heap.size ≤ gb326)); replace HK := Aside0.mk (KeepBut.trans z12_ (KeepBut.of_below hb g none) (.inl rfl)); have NB314_326 := Aside0.mk ((by rw [hg]; exact Nat.ne_of_lt (blk_lt (g := gb314) (o := .cells #[.slice none 0 0, .slice none 0 0, .slice none 0 0] 38 (0, 0)) z28_) : gb314 ≠ gb326)); have NB326_314 := Aside0.mk ((by rw [hg]; exact Nat.ne_of_gt (blk_lt (g := gb314) (o := .cells #[.slice none 0 0, .slice none 0 0, .slice none 0 0] 38 (0, 0)) z28_) : gb326 ≠ gb314)); replace BK314 := Aside0.mk (blk_below z28_ hb); have NB0_326 := Aside0.mk ((by rw [hg]; exact Nat.ne_of_lt (IsS86.lt (show IsS86 w0 _ g s0_0 t324 t325 from by repeat ((with_reducible exact HI0.out)))) : g ≠ gb326)); have NB326_0 := Aside0.mk ((by rw [hg]; exact Nat.ne_of_gt (IsS86.lt (show IsS86 w0 _ g s0_0 t324 t325 from by repeat ((with_reducible exact HI0.out)))) : gb326 ≠ g)); replace HI0 := Aside0.mk (IsS86.below z57_ hb); clear hb hbox hg; obtain ⟨Ao40, co40, eo40⟩ := Kd.R_slice HO317.out; subst eo40; have hnb41 := NB326_314.out; have hnc41 := NB314_326.out; have hnb42 := NB326_0.out; have hnc42 := NB0_326.out; obtain ⟨hcz43_0, hcz43_1, hcz43_2, hfz43_0, hfz43_1, hfz43_2⟩ := bx3_ BK326.out; obtain ⟨Ao44, co44, eo44⟩ := Kd.R_slice HO320.out; subst eo44; obtain ⟨Ao45, co45, eo45⟩ := Kd.R_slice HO323.out; subst eo45) | ((with_reducible refine gate_callee (f := 64) rfl ?_); refine goesL_ (some 7) rfl rfl Try.func64 (by kernel_rfl) rfl #[.pointer (some ⟨g, 0, none⟩), .int .i64 14] rfl z1_ ?_; (with_reducible refine (spec_l1Below.calls g s0_0 t324 t325 14 t327 t328 t329 w0 _ ?side1 ?side2 A3.out).mono ?_); (case side1 => exact z15_); (case side2 => exact z17_); rintro e w46 ⟨rfl, hi, hb, hk⟩; refine ⟨_, rfl, ?_⟩; replace BK314 := Aside0.mk (KeepBut.blk hk (g' := gb314) (o := .cells #[.slice none 0 0, .slice none 0 0, .slice none 0 0] 38 (0, 0)) z47_ NB314_0.out (by simp)); replace HO317 := Aside0.mk (Kd.R_mono (Kd.R_keep (IsS86.apart (show IsS86 w0 _ g s0_0 t324 t325 from by repeat ((with_reducible first | exact HI0.out | refine IsS86.far ?_ NB0_326.out _))) (by exact (Kd.R_mono (Kd.R_far (p := ⟨gb326, 2, none⟩) (Kd.R_far (p := ⟨gb326, 1, none⟩) (Kd.R_far (p := ⟨gb326, 0, none⟩) (Kd.R_types HO317.out BK326.out (by decide)) (fun _ hk => hk.2) (.slice Ao40 t315.length co40)) (fun _ hk => hk.2) (.slice Ao44 t318.length co44)) (fun _ hk => hk.2) (.slice Ao45 t321.length co45)) (fun _ h_ => h_.1))) (by decide)) hk (fun _ h => h.2)) (fun _ h => h.1)); replace HO320 := Aside0.mk (Kd.R_mono (Kd.R_keep (IsS86.apart (show IsS86 w0 _ g s0_0 t324 t325 from by repeat ((with_reducible first | exact HI0.out | refine IsS86.far ?_ NB0_326.out _))) (by exact (Kd.R_mono (Kd.R_far (p := ⟨gb326, 2, none⟩) (Kd.R_far (p := ⟨gb326, 1, none⟩) (Kd.R_far (p := ⟨gb326, 0, none⟩) (Kd.R_types HO320.out BK326.out (by decide)) (fun _ hk => hk.2) (.slice Ao40 t315.length co40)) (fun _ hk => hk.2) (.slice Ao44 t318.length co44)) (fun _ hk => hk.2) (.slice Ao45 t321.length co45)) (fun _ h_ => h_.1))) (by decide)) hk (fun _ h => h.2)) (fun _ h => h.1)); replace HO323 := Aside0.mk (Kd.R_mono (Kd.R_keep (IsS86.apart (show IsS86 w0 _ g s0_0 t324 t325 from by repeat ((with_reducible first | exact HI0.out | refine IsS86.far ?_ NB0_326.out _))) (by exact (Kd.R_mono (Kd.R_far (p := ⟨gb326, 2, none⟩) (Kd.R_far (p := ⟨gb326, 1, none⟩) (Kd.R_far (p := ⟨gb326, 0, none⟩) (Kd.R_types HO323.out BK326.out (by decide)) (fun _ hk => hk.2) (.slice Ao40 t315.length co40)) (fun _ hk => hk.2) (.slice Ao44 t318.length co44)) (fun _ hk => hk.2) (.slice Ao45 t321.length co45)) (fun _ h_ => h_.1))) (by decide)) hk (fun _ h => h.2)) (fun _ h => h.1)); replace BK326 := Aside0.mk (KeepBut.blk hk (g' := gb326) (o := .cells #[.slice Ao40 t315.length co40, .slice Ao44 t318.length co44, .slice Ao45 t321.length co45] 38 (0, 0)) (by refine blk_put (cs := #[.slice Ao40 t315.length co40, .slice Ao44 t318.length co44, .slice none 0 0]) ?_ 2 _ rfl; refine blk_put (cs := #[.slice Ao40 t315.length co40, .slice none 0 0, .slice none 0 0]) ?_ 1 _ rfl; refine blk_put (cs := #[.slice none 0 0, .slice none 0 0, .slice none 0 0]) ?_ 0 _ rfl; exact BK326.out) NB326_0.out (by simp)); replace HK := Aside0.mk (KeepBut.trans z16_ hk (.inl rfl)); replace HB := Aside0.mk (hb); replace HI0 := Aside0.mk (hi); (try clear hb hk hi)))
   have n0_ := Aside0.mk (Kd.R_drew HO317.out)
   have n1_ := Aside0.mk (Kd.R_drew HO320.out)
   have n2_ := Aside0.mk (Kd.R_drew HO323.out)
   have n3_ := Aside0.mk (blk_drew BK314.out)
   have n4_ := Aside0.mk (blk_drew BK326.out)
   have n5_ := Aside0.mk (IsS86.drew HI0.out)
   have n6_ := Aside0.mk (keep_drew HK.out)
   have n7_ := Aside0.mk (below_drew1 HB.out)
   clear HO317
   clear HO320
   clear HO323
   clear BK314
   clear BK326
   clear HI0
   clear HK
   clear HB
   have HO317 := n0_
   have HO320 := n1_
   have HO323 := n2_
   have BK314 := n3_
   have BK326 := n4_
   have HI0 := n5_
   have HK := n6_
   have HB := n7_
   clear n0_ n1_ n2_ n3_ n4_ n5_ n6_ n7_
   refine start_ (n := 6) (S := fun w' => w'.cell? ⟨gb326, 0, none⟩ = some (.slice Ao40 t315.length co40) ∧ w'.cell? ⟨gb326, 1, none⟩ = some (.slice Ao44 t318.length co44) ∧ w'.cell? ⟨gb326, 2, none⟩ = some (.slice Ao45 t321.length co45)) (ds := [5]) (fl_ 6 0) (by kernel_rfl) rfl (fl_zero _) ⟨(blk_cell BK326.out 0).trans rfl, (blk_cell BK326.out 1).trans rfl, (blk_cell BK326.out 2).trans rfl⟩ (fun hHeld => ?_)
   generalize w46.drew = w47 at HO317 HO320 HO323 BK314 BK326 HI0 HK HB hHeld ⊢
   refine pure_ (i := 0) (N := some 20) (v := ?_) (a' := ?_) #[true, false, false, false, false, false] rfl rfl (by kernel_rfl) (fun _ _ _ h => h) (Or.inl ⟨by rfl, ?_⟩) ?_ ?_
   rotate_left
   ·intro w'
    go_simp
    with_reducible rfl
   rotate_left
   ·simp only [Act.put, List.setIfInBounds_toArray, List.set_cons_zero, List.set_cons_succ, i64_w, i32_w]
    rfl
   refine pure_ (i := 2) (N := some 22) (v := ?_) (a' := ?_) #[true, false, true, false, false, false] rfl rfl (by kernel_rfl) (fun _ _ _ h => h) (Or.inl ⟨by rfl, ?_⟩) ?_ ?_
   rotate_left
   ·intro w'
    go_simp
    with_reducible rfl
   rotate_left
   ·simp only [Act.put, List.setIfInBounds_toArray, List.set_cons_zero, List.set_cons_succ, i64_w, i32_w]
    rfl
   refine take_ (i := 1) (N := some 21) (v := ?_) (a' := ?_) #[true, true, true, false, false, false] rfl rfl (by kernel_rfl) (fun _ _ _ h => h) (Or.inl ⟨by rfl, ?_⟩) hHeld ?_ ?_
   rotate_left
   ·rintro w' ⟨s0, s1, s2⟩
    go_simp
    with_reducible rfl
   rotate_left
   ·simp only [Act.put, List.setIfInBounds_toArray, List.set_cons_zero, List.set_cons_succ, i64_w, i32_w]
    rfl
   refine one_ (i := 3) (N := some 23) (fl_ 6 4) rfl rfl (by kernel_rfl) (by decide) (fun K hK => ?_)
   refine goes_ Try.func64 (by kernel_rfl) rfl #[.pointer (some ⟨g, 0, none⟩), .int .i64 36] (by rfl) rfl rfl z1_ ?_
   with_reducible refine (spec_l1Below.calls g s0_0 t328 t329 36 t340 t341 t342 w0 _ ?side1 ?side2 A33.out).mono ?_
   (case side1 => exact z15_)
   (case side2 => exact z17_)
   rintro e w48 ⟨rfl, hi, hb, hk⟩
   refine ⟨_, rfl, ?_⟩
   have n0_ := Aside0.mk (KeepBut.blk hk (g' := gb314) (o := .cells #[.slice none 0 0, .slice none 0 0, .slice none 0 0] 38 (0, 0)) z28_ NB314_0.out (by simp))
   have n1_ := Aside0.mk (Kd.R_mono (Kd.R_keep (IsS86.apart (show IsS86 w0 _ g s0_0 t328 t329 from by repeat ((with_reducible exact HI0.out))) z72_ (by decide)) hk (fun _ h => h.2)) (fun _ h => h.1))
   have n2_ := Aside0.mk (Kd.R_mono (Kd.R_keep (IsS86.apart (show IsS86 w0 _ g s0_0 t328 t329 from by repeat ((with_reducible exact HI0.out))) z73_ (by decide)) hk (fun _ h => h.2)) (fun _ h => h.1))
   have n3_ := Aside0.mk (Kd.R_mono (Kd.R_keep (IsS86.apart (show IsS86 w0 _ g s0_0 t328 t329 from by repeat ((with_reducible exact HI0.out))) z74_ (by decide)) hk (fun _ h => h.2)) (fun _ h => h.1))
   have n4_ := Aside0.mk (KeepBut.blk hk (g' := gb326) (o := .cells #[.slice Ao40 t315.length co40, .slice Ao44 t318.length co44, .slice Ao45 t321.length co45] 38 (0, 0)) z88_ NB326_0.out (by simp))
   have n5_ := Aside0.mk (KeepBut.trans z16_ hk (.inl rfl))
   have n6_ := Aside0.mk (hb)
   have n7_ := Aside0.mk (hi)
   clear BK314
   clear HO317
   clear HO320
   clear HO323
   clear BK326
   clear HK
   clear HB
   clear HI0
   have BK314 := n0_
   have HO317 := n1_
   have HO320 := n2_
   have HO323 := n3_
   have BK326 := n4_
   have HK := n5_
   have HB := n6_
   have HI0 := n7_
   clear n0_ n1_ n2_ n3_ n4_ n5_ n6_ n7_
   (try clear hb)
   (try clear hk)
   (try clear hi)
   have p36 : 0 ≤ (t340 : Int) := odt_
   have q36 : (t340 : Int) < ((t321.length : Int) : Int) := odt_
   obtain ⟨go36, co36, eo36, gb36, gl36, cl36, HG36⟩ := Kd.R_form HO323.out (by omega)
   (cases eo36)
   have GB36 := Aside0.mk gb36
   have GG36 := Aside0.mk HG36
   clear gb36 gl36 HG36
   obtain ⟨hx36_0, hf36_0⟩ := Kd.R_celln 0 HO323.out (t340 : Int) p36 q36
   replace p36 := eq_true p36
   replace q36 := eq_true q36
   have HN0_go36 := Aside0.mk (show g ≠ go36 from by have h_ := IsS86.own_ne HI0.out HO323.out (by decide); intro e_; exact h_ z186_)
   have HP49 := Kd.R_putn HO323.out (t340 : Int) 5
   rw [← Ny343.out] at HP49
   have HQ49 := Aside0.mk HP49
   clear HP49
   refine hK.out _ _ ⟨(blk_cell BK326.out 0).trans rfl, (blk_cell BK326.out 1).trans rfl, (blk_cell BK326.out 2).trans rfl⟩ (fun hHeld => ?_)
   clear hK K
   refine zn_ rfl ?_
   refine pure_ (i := 4) (N := some 24) (v := ?_) (a' := ?_) #[true, true, true, true, true, false] rfl rfl (by kernel_rfl) (fun _ _ _ h => h) (Or.inl ⟨by rfl, ?_⟩) ?_ ?_
   rotate_left
   ·intro w'
    go_simp
    with_reducible rfl
   rotate_left
   ·simp only [Act.put, List.setIfInBounds_toArray, List.set_cons_zero, List.set_cons_succ, i64_w, i32_w]
    rfl
   refine last_ (i := 5) (N := none) (fl_ 6 6) rfl rfl (by kernel_rfl) (by decide) (fun K hK => ?_)
   refine skip_ (w1 := ?_) (by rfl) rfl ?_ ?_
   rotate_left
   ·go_simp
    rfl
   refine hK.out _ _ ?_
   clear hK K
   refine done_ (by kernel_rfl) ?_
   have n0_ : Aside0 (Kd.R (Kd.int .i64) 3 (w48.setCell ⟨go36, (t340 : Int).toNat, none⟩ (.int .i64 5)) w.heap.size (fun k_ => some k_ ≠ (.slice Ao44 t318.length co44 : Value).ownBlock ∧ some k_ ≠ (.slice (some ⟨go36, 0, none⟩) t321.length co45 : Value).ownBlock) (.slice Ao40 t315.length co40) t315) := ⟨by exact Kd.R_mono (Kd.R_far (p := ⟨go36, (t340 : Int).toNat, none⟩) (Kd.R_mono HO317.out (fun k_ hk => (⟨hk, fun e_ => hk.2 z186_⟩ : _ ∧ k_ ≠ go36))) (fun _ hk => hk.2) (.int .i64 5)) (fun _ hk => ⟨hk.1.1, hk.1.2⟩)⟩
   have n1_ : Aside0 (Kd.R (Kd.int .i64) 3 (w48.setCell ⟨go36, (t340 : Int).toNat, none⟩ (.int .i64 5)) w.heap.size (fun k_ => some k_ ≠ (.slice Ao40 t315.length co40 : Value).ownBlock ∧ some k_ ≠ (.slice (some ⟨go36, 0, none⟩) t321.length co45 : Value).ownBlock) (.slice Ao44 t318.length co44) t318) := ⟨by exact Kd.R_mono (Kd.R_far (p := ⟨go36, (t340 : Int).toNat, none⟩) (Kd.R_mono HO320.out (fun k_ hk => (⟨hk, fun e_ => hk.2 z186_⟩ : _ ∧ k_ ≠ go36))) (fun _ hk => hk.2) (.int .i64 5)) (fun _ hk => ⟨hk.1.1, hk.1.2⟩)⟩
   have n2_ : Aside0 (Kd.R (Kd.int .i64) 3 (w48.setCell ⟨go36, (t340 : Int).toNat, none⟩ (.int .i64 5)) w.heap.size (fun k_ => some k_ ≠ (.slice Ao40 t315.length co40 : Value).ownBlock ∧ some k_ ≠ (.slice Ao44 t318.length co44 : Value).ownBlock) (.slice (some ⟨go36, 0, none⟩) t321.length co45) y343) := ⟨by exact HQ49.out⟩
   have n3_ : Aside0 ((w48.setCell ⟨go36, (t340 : Int).toNat, none⟩ (.int .i64 5)).heap[gb314]? = some (.cells #[.slice none 0 0, .slice none 0 0, .slice none 0 0] 38 (0, 0))) := ⟨by refine blk_far ?_ (by have h_ := Kd.R_ne HO323.out BK314.out (by decide); intro e_; exact h_ z186_) _; exact BK314.out⟩
   have n4_ : Aside0 ((w48.setCell ⟨go36, (t340 : Int).toNat, none⟩ (.int .i64 5)).heap[gb326]? = some (.cells #[.slice Ao40 t315.length co40, .slice Ao44 t318.length co44, .slice (some ⟨go36, 0, none⟩) t321.length co45] 38 (0, 0))) := ⟨by refine blk_far ?_ (by have h_ := Kd.R_ne HO323.out BK326.out (by decide); intro e_; exact h_ z186_) _; exact BK326.out⟩
   have n5_ : Aside0 (IsS86 w0 (w48.setCell ⟨go36, (t340 : Int).toNat, none⟩ (.int .i64 5)) g s0_0 t341 t342) := ⟨by repeat ((with_reducible first | exact HI0.out | refine IsS86.far ?_ HN0_go36.out _))⟩
   have n6_ : Aside0 (KeepBut w (w48.setCell ⟨go36, (t340 : Int).toNat, none⟩ (.int .i64 5)) g none) := ⟨by repeat ((with_reducible first | exact HK.out | refine keep_far ?_ GB36.out _))⟩
   have n7_ : Aside0 (Below w0.heap.size w0 (w48.setCell ⟨go36, (t340 : Int).toNat, none⟩ (.int .i64 5))) := ⟨by repeat ((with_reducible first | exact HB.out | refine below_set ?_ (Nat.le_trans HL.out GB36.out)))⟩
   (try clear HO317)
   (try clear HO320)
   (try clear HO323)
   (try clear BK314)
   (try clear BK326)
   (try clear HI0)
   (try clear HK)
   (try clear HB)
   generalize (w48.setCell ⟨go36, (t340 : Int).toNat, none⟩ (.int .i64 5)) = w50 at n0_ n1_ n2_ n3_ n4_ n5_ n6_ n7_ ⊢
   have HO317 := n0_
   have HO320 := n1_
   have HO323 := n2_
   have BK314 := n3_
   have BK326 := n4_
   have HI0 := n5_
   have HK := n6_
   have HB := n7_
   clear n0_ n1_ n2_ n3_ n4_ n5_ n6_ n7_
   obtain ⟨hcz51_0, hcz51_1, hcz51_2, hfz51_0, hfz51_1, hfz51_2⟩ := bx3_ BK326.out
   have hnb52 := NB314_0.out
   have hnc52 := NB0_314.out
   obtain ⟨hcz53_0, hcz53_1, hcz53_2, hfz53_0, hfz53_1, hfz53_2⟩ := bx3_ BK314.out
   try go_wp2
   refine bodyPost_ret (results_cell_row rfl _ _ gb314 38 #[.slice Ao40 t315.length co40, .slice Ao44 t318.length co44, .slice (some ⟨go36, 0, none⟩) t321.length co45] (0, 0) _ rfl (by refine blk_put (cs := #[.slice Ao40 t315.length co40, .slice Ao44 t318.length co44, .slice none 0 0]) ?_ 2 _ rfl; refine blk_put (cs := #[.slice Ao40 t315.length co40, .slice none 0 0, .slice none 0 0]) ?_ 1 _ rfl; refine blk_put (cs := #[.slice none 0 0, .slice none 0 0, .slice none 0 0]) ?_ 0 _ rfl; exact BK314.out) Try.underlying38 rfl (by kernel_rfl)) rfl ?_
   exact ⟨_, _, _, z6_, by exact Kd.R_mono (Kd.R_far (p := ⟨gb314, 2, none⟩) (Kd.R_far (p := ⟨gb314, 1, none⟩) (Kd.R_far (p := ⟨gb314, 0, none⟩) (Kd.R_types HO317.out BK314.out (by decide)) (fun _ hk => hk.2) (.slice Ao40 t315.length co40)) (fun _ hk => hk.2) (.slice Ao44 t318.length co44)) (fun _ hk => hk.2) (.slice (some ⟨go36, 0, none⟩) t321.length co45)) (fun _ hk => ⟨hk.1.1, hk.1.2⟩), Kd.Q_of_R (by exact Kd.R_mono (Kd.R_far (p := ⟨gb314, 2, none⟩) (Kd.R_far (p := ⟨gb314, 1, none⟩) (Kd.R_far (p := ⟨gb314, 0, none⟩) (Kd.R_types HO320.out BK314.out (by decide)) (fun _ hk => hk.2) (.slice Ao40 t315.length co40)) (fun _ hk => hk.2) (.slice Ao44 t318.length co44)) (fun _ hk => hk.2) (.slice (some ⟨go36, 0, none⟩) t321.length co45)) (fun _ hk => ⟨hk.1.1, hk.1.2⟩)), by exact Kd.R_mono (Kd.R_far (p := ⟨gb314, 2, none⟩) (Kd.R_far (p := ⟨gb314, 1, none⟩) (Kd.R_far (p := ⟨gb314, 0, none⟩) (Kd.R_types HO323.out BK314.out (by decide)) (fun _ hk => hk.2) (.slice Ao40 t315.length co40)) (fun _ hk => hk.2) (.slice Ao44 t318.length co44)) (fun _ hk => hk.2) (.slice (some ⟨go36, 0, none⟩) t321.length co45)) (fun _ hk => ⟨hk.1.1, hk.1.2⟩), z15_, z17_, z16_⟩
  ·rw [if_neg c32] at H
   have c32b0 : (t327 == 1) = false := beq_eq_false_iff_ne.mpr c32
   have c32b1 : (t327 != 1) = true := bne_iff_ne.mpr c32
   by_cases c54 : t327 = 2
   ·rw [if_pos c54] at H
    have c54b0 : (t327 == 2) = true := beq_iff_eq.mpr c54
    have c54b1 : (t327 != 2) = false := bne_eq_false_iff_eq.mpr c54
    clear c54
    obtain ⟨c55b0, c55b1, H⟩ := ife_ H
    (generalize hy_ : ((t318.drop (1 : Int).toNat) : List Int) = y344 at H; have Ny344 := Aside0.mk hy_.symm; clear hy_)
    simp only [Option.some.injEq, Prod.mk.injEq] at H
    obtain ⟨rfl, rfl, rfl, rfl, rfl⟩ := H
    go_enter Try.func47, Try.ntmps47
    go_wp2_with (first | ((with_reducible refine gate_dst (N := 2) rfl ?_); refine box_event ?hg (N := 2) ?hd (cs := #[.slice none 0 0, .slice none 0 0, .slice none 0 0]) (t := 38) ?hr ?_; (case hd => rfl); (case hg => rfl); (case hr => exact z19_); intro gb314 hg w56 hbox hb; replace HB := Aside0.mk (below_step z4_ hb); have BK314 := Aside0.mk (hbox); have GW314 := Aside0.mk ((by rw [hg]; exact (keep_size (w := w) (g := g) (row := none) z2_) : w.heap.size ≤ gb314)); have GE314 := Aside0.mk ((Nat.le_trans HW0.out (by rw [hg]; exact (keep_size (w := w) (g := g) (row := none) z2_) : w.heap.size ≤ gb314) : w0.heap.size ≤ gb314)); replace HK := Aside0.mk (KeepBut.trans z2_ (KeepBut.of_below hb g none) (.inl rfl)); have NB0_314 := Aside0.mk ((by rw [hg]; exact Nat.ne_of_lt (IsS86.lt (show IsS86 w0 _ g s0_0 s0_1 s0_2 from by repeat ((with_reducible exact HI0.out)))) : g ≠ gb314)); have NB314_0 := Aside0.mk ((by rw [hg]; exact Nat.ne_of_gt (IsS86.lt (show IsS86 w0 _ g s0_0 s0_1 s0_2 from by repeat ((with_reducible exact HI0.out)))) : gb314 ≠ g)); replace HI0 := Aside0.mk (IsS86.below z3_ hb); clear hb hbox hg) | ((with_reducible refine gate_callee (f := 65) rfl ?_); refine goesL_ (some 5) rfl rfl Try.func65 (by kernel_rfl) rfl #[.pointer (some ⟨g, 0, none⟩)] rfl z1_ ?_; (with_reducible refine (spec_l7Cost.calls k g s0_0 s0_1 s0_2 t315 t318 t321 t324 t325 w0 _ ?side1 ?side2 A2.out).mono ?_); (case side1 => exact z57_); (case side2 => exact z58_); rintro e w57 ⟨v316, v319, v322, rfl, ho0, ho1, ho2, hi, hb, hk⟩; refine ⟨_, rfl, ?_⟩; replace BK314 := Aside0.mk (KeepBut.blk hk (g' := gb314) (o := .cells #[.slice none 0 0, .slice none 0 0, .slice none 0 0] 38 (0, 0)) z28_ NB314_0.out (by simp)); have HO317 := Aside0.mk (Kd.R_lower ho0 (keep_size (w := w) (g := g) (row := none) z12_)); have HO320 := Aside0.mk (Kd.R_lower ho1 (keep_size (w := w) (g := g) (row := none) z12_)); have HO323 := Aside0.mk (Kd.R_lower ho2 (keep_size (w := w) (g := g) (row := none) z12_)); replace HK := Aside0.mk (KeepBut.trans z12_ hk (.inl rfl)); replace HB := Aside0.mk (hb); replace HI0 := Aside0.mk (hi); (try clear hb hk hi ho0 ho1 ho2)) | ((with_reducible refine gate_dst (N := 3) rfl ?_); refine box_event ?hg (N := 3) ?hd (cs := #[.slice none 0 0, .slice none 0 0, .slice none 0 0]) (t := 38) ?hr ?_; (case hd => rfl); (case hg => rfl); (case hr => exact z19_); intro gb326 hg w58 hbox hb; replace HO317 := Aside0.mk (Kd.R_below z72_ hb); replace HO320 := Aside0.mk (Kd.R_below z73_ hb); replace HO323 := Aside0.mk (Kd.R_below z74_ hb); replace HB := Aside0.mk (below_step z58_ hb); have BK326 := Aside0.mk (hbox); have GW326 := Aside0.mk ((by rw [hg]; exact (keep_size (w := w) (g := g) (row := none) z12_) : w.heap.size ≤ gb326)); have GE326 := Aside0.mk ((Nat.le_trans HW0.out (by rw [hg]; exact (keep_size (w := w) (g := g) (row := none) z12_) : w.heap.size ≤ gb326) : w0.heap.size ≤ gb326)); replace HK := Aside0.mk (KeepBut.trans z12_ (KeepBut.of_below hb g none) (.inl rfl)); have NB314_326 := Aside0.mk ((by rw [hg]; exact Nat.ne_of_lt (blk_lt (g := gb314) (o := .cells #[.slice none 0 0, .slice none 0 0, .slice none 0 0] 38 (0, 0)) z28_) : gb314 ≠ gb326)); have NB326_314 := Aside0.mk ((by rw [hg]; exact Nat.ne_of_gt (blk_lt (g := gb314) (o := .cells #[.slice none 0 0, .slice none 0 0, .slice none 0 0] 38 (0, 0)) z28_) : gb326 ≠ gb314)); replace BK314 := Aside0.mk (blk_below z28_ hb); have NB0_326 := Aside0.mk ((by rw [hg]; exact Nat.ne_of_lt (IsS86.lt (show IsS86 w0 _ g s0_0 t324 t325 from by repeat ((with_reducible exact HI0.out)))) : g ≠ gb326)); have NB326_0 := Aside0.mk ((by rw [hg]; exact Nat.ne_of_gt (IsS86.lt (show IsS86 w0 _ g s0_0 t324 t325 from by repeat ((with_reducible exact HI0.out)))) : gb326 ≠ g)); replace HI0 := Aside0.mk (IsS86.below z57_ hb); clear hb hbox hg; obtain ⟨Ao59, co59, eo59⟩ := Kd.R_slice HO317.out; subst eo59; have hnb60 := NB326_314.out; have hnc60 := NB314_326.out; have hnb61 := NB326_0.out; have hnc61 := NB0_326.out; obtain ⟨hcz62_0, hcz62_1, hcz62_2, hfz62_0, hfz62_1, hfz62_2⟩ := bx3_ BK326.out; obtain ⟨Ao63, co63, eo63⟩ := Kd.R_slice HO320.out; subst eo63; obtain ⟨Ao64, co64, eo64⟩ := Kd.R_slice HO323.out; subst eo64) | ((with_reducible refine gate_callee (f := 64) rfl ?_); refine goesL_ (some 7) rfl rfl Try.func64 (by kernel_rfl) rfl #[.pointer (some ⟨g, 0, none⟩), .int .i64 14] rfl z1_ ?_; (with_reducible refine (spec_l1Below.calls g s0_0 t324 t325 14 t327 t328 t329 w0 _ ?side1 ?side2 A3.out).mono ?_); (case side1 => exact z15_); (case side2 => exact z17_); rintro e w65 ⟨rfl, hi, hb, hk⟩; refine ⟨_, rfl, ?_⟩; replace BK314 := Aside0.mk (KeepBut.blk hk (g' := gb314) (o := .cells #[.slice none 0 0, .slice none 0 0, .slice none 0 0] 38 (0, 0)) z47_ NB314_0.out (by simp)); replace HO317 := Aside0.mk (Kd.R_mono (Kd.R_keep (IsS86.apart (show IsS86 w0 _ g s0_0 t324 t325 from by repeat ((with_reducible first | exact HI0.out | refine IsS86.far ?_ NB0_326.out _))) (by exact (Kd.R_mono (Kd.R_far (p := ⟨gb326, 2, none⟩) (Kd.R_far (p := ⟨gb326, 1, none⟩) (Kd.R_far (p := ⟨gb326, 0, none⟩) (Kd.R_types HO317.out BK326.out (by decide)) (fun _ hk => hk.2) (.slice Ao59 t315.length co59)) (fun _ hk => hk.2) (.slice Ao63 t318.length co63)) (fun _ hk => hk.2) (.slice Ao64 t321.length co64)) (fun _ h_ => h_.1))) (by decide)) hk (fun _ h => h.2)) (fun _ h => h.1)); replace HO320 := Aside0.mk (Kd.R_mono (Kd.R_keep (IsS86.apart (show IsS86 w0 _ g s0_0 t324 t325 from by repeat ((with_reducible first | exact HI0.out | refine IsS86.far ?_ NB0_326.out _))) (by exact (Kd.R_mono (Kd.R_far (p := ⟨gb326, 2, none⟩) (Kd.R_far (p := ⟨gb326, 1, none⟩) (Kd.R_far (p := ⟨gb326, 0, none⟩) (Kd.R_types HO320.out BK326.out (by decide)) (fun _ hk => hk.2) (.slice Ao59 t315.length co59)) (fun _ hk => hk.2) (.slice Ao63 t318.length co63)) (fun _ hk => hk.2) (.slice Ao64 t321.length co64)) (fun _ h_ => h_.1))) (by decide)) hk (fun _ h => h.2)) (fun _ h => h.1)); replace HO323 := Aside0.mk (Kd.R_mono (Kd.R_keep (IsS86.apart (show IsS86 w0 _ g s0_0 t324 t325 from by repeat ((with_reducible first | exact HI0.out | refine IsS86.far ?_ NB0_326.out _))) (by exact (Kd.R_mono (Kd.R_far (p := ⟨gb326, 2, none⟩) (Kd.R_far (p := ⟨gb326, 1, none⟩) (Kd.R_far (p := ⟨gb326, 0, none⟩) (Kd.R_types HO323.out BK326.out (by decide)) (fun _ hk => hk.2) (.slice Ao59 t315.length co59)) (fun _ hk => hk.2) (.slice Ao63 t318.length co63)) (fun _ hk => hk.2) (.slice Ao64 t321.length co64)) (fun _ h_ => h_.1))) (by decide)) hk (fun _ h => h.2)) (fun _ h => h.1)); replace BK326 := Aside0.mk (KeepBut.blk hk (g' := gb326) (o := .cells #[.slice Ao59 t315.length co59, .slice Ao63 t318.length co63, .slice Ao64 t321.length co64] 38 (0, 0)) (by refine blk_put (cs := #[.slice Ao59 t315.length co59, .slice Ao63 t318.length co63, .slice none 0 0]) ?_ 2 _ rfl; refine blk_put (cs := #[.slice Ao59 t315.length co59, .slice none 0 0, .slice none 0 0]) ?_ 1 _ rfl; refine blk_put (cs := #[.slice none 0 0, .slice none 0 0, .slice none 0 0]) ?_ 0 _ rfl; exact BK326.out) NB326_0.out (by simp)); replace HK := Aside0.mk (KeepBut.trans z16_ hk (.inl rfl)); replace HB := Aside0.mk (hb); replace HI0 := Aside0.mk (hi); (try clear hb hk hi); obtain ⟨hcz66_0, hcz66_1, hcz66_2, hfz66_0, hfz66_1, hfz66_2⟩ := bx3_ BK326.out; have q67 : (1 : Int) ≤ ((t318.length : Int) : Int) := odt_; obtain ⟨i067, hi067, _, hsz67, _⟩ := info_parts info3; have hcut67 := cut_from (P := Try.prog) 30 3 .i64 Try.underlying30 hi067 1 hsz67 Ao63 t318.length co63 1 (by omega) q67; have hr67 := Kd.Q_drop (k := (1 : Int).toNat) (Kd.Q_of_R HO320.out) (by omega); obtain ⟨A67, hA67⟩ : ∃ A1, A1 = (if co63 = (1 : Int).toNat then Ao63 else (Ao63 : Option Addr).map (·.add ((1 : Int).toNat * 1))) := ⟨_, rfl⟩; obtain ⟨c67, hc67⟩ : ∃ c1, c1 = co63 - (1 : Int).toNat := ⟨_, rfl⟩; have hy67 : y344.length = t318.length - (1 : Int).toNat := (by rw [Ny344.out, List.length_drop]); rw [← Ny344.out] at hr67; rw [← hy67, ← hA67, ← hc67] at hcut67; replace hr67 : Kd.Q (Kd.int .i64) 3 w65 w.heap.size (fun k_ => some k_ ≠ (.slice Ao59 t315.length co59 : Value).ownBlock ∧ some k_ ≠ (.slice Ao64 t321.length co64 : Value).ownBlock) (.slice A67 y344.length c67) y344 := (by rw [hA67, hc67, hy67]; exact hr67); have HE67 : Aside0 ((Value.slice A67 y344.length c67).ownBlock = (.slice Ao63 t318.length co63 : Value).ownBlock) := ⟨by rw [hA67]; split <;> (cases (Ao63 : Option Addr) <;> rfl)⟩; clear hy67 hi067 hsz67 HO320 hA67 hc67; have HO346 := Aside0.mk hr67; clear hr67; replace q67 := eq_true q67; have n_ := Aside0.mk (Kd.R_mono (ok' := fun k_ => (some k_ ≠ (.slice A67 y344.length c67 : Value).ownBlock ∧ some k_ ≠ (.slice Ao64 t321.length co64 : Value).ownBlock)) HO317.out (fun k_ hk => ⟨(by rw [HE67.out]; exact hk.1), hk.2⟩)); clear HO317; have HO317 := n_; clear n_; have n_ := Aside0.mk (Kd.R_mono (ok' := fun k_ => (some k_ ≠ (.slice Ao59 t315.length co59 : Value).ownBlock ∧ some k_ ≠ (.slice A67 y344.length c67 : Value).ownBlock)) HO323.out (fun k_ hk => ⟨hk.1, (by rw [HE67.out]; exact hk.2)⟩)); clear HO323; have HO323 := n_; clear n_; have hnb68 := NB314_0.out; have hnc68 := NB0_314.out; obtain ⟨hcz69_0, hcz69_1, hcz69_2, hfz69_0, hfz69_1, hfz69_2⟩ := bx3_ BK314.out))
    refine bodyPost_ret (results_cell_row rfl _ _ gb314 38 #[.slice Ao59 t315.length co59, .slice A67 y344.length c67, .slice Ao64 t321.length co64] (0, 0) _ rfl (by refine blk_put (cs := #[.slice Ao59 t315.length co59, .slice A67 y344.length c67, .slice none 0 0]) ?_ 2 _ rfl; refine blk_put (cs := #[.slice Ao59 t315.length co59, .slice none 0 0, .slice none 0 0]) ?_ 1 _ rfl; refine blk_put (cs := #[.slice none 0 0, .slice none 0 0, .slice none 0 0]) ?_ 0 _ rfl; refine blk_far ?_ NB314_326.out _; exact BK314.out) Try.underlying38 rfl (by kernel_rfl)) rfl ?_
    exact ⟨_, _, _, z6_, by exact Kd.R_mono (Kd.R_far (p := ⟨gb314, 2, none⟩) (Kd.R_far (p := ⟨gb314, 1, none⟩) (Kd.R_far (p := ⟨gb314, 0, none⟩) (Kd.R_far (p := ⟨gb326, 1, none⟩) (Kd.R_types (Kd.R_types HO317.out BK326.out (by decide)) BK314.out (by decide)) (fun _ hk => hk.1.2) (.slice A67 y344.length c67)) (fun _ hk => hk.2) (.slice Ao59 t315.length co59)) (fun _ hk => hk.2) (.slice A67 y344.length c67)) (fun _ hk => hk.2) (.slice Ao64 t321.length co64)) (fun _ hk => ⟨hk.1.1.1, hk.1.1.2⟩), by exact Kd.Q_mono (Kd.Q_far (p := ⟨gb314, 2, none⟩) (Kd.Q_far (p := ⟨gb314, 1, none⟩) (Kd.Q_far (p := ⟨gb314, 0, none⟩) (Kd.Q_far (p := ⟨gb326, 1, none⟩) (Kd.Q_types (Kd.Q_types HO346.out BK326.out (by decide)) BK314.out (by decide)) (fun _ hk => hk.1.2) (.slice A67 y344.length c67)) (fun _ hk => hk.2) (.slice Ao59 t315.length co59)) (fun _ hk => hk.2) (.slice A67 y344.length c67)) (fun _ hk => hk.2) (.slice Ao64 t321.length co64)) (fun _ hk => ⟨hk.1.1.1, hk.1.1.2⟩), by exact Kd.R_mono (Kd.R_far (p := ⟨gb314, 2, none⟩) (Kd.R_far (p := ⟨gb314, 1, none⟩) (Kd.R_far (p := ⟨gb314, 0, none⟩) (Kd.R_far (p := ⟨gb326, 1, none⟩) (Kd.R_types (Kd.R_types HO323.out BK326.out (by decide)) BK314.out (by decide)) (fun _ hk => hk.1.2) (.slice A67 y344.length c67)) (fun _ hk => hk.2) (.slice Ao59 t315.length co59)) (fun _ hk => hk.2) (.slice A67 y344.length c67)) (fun _ hk => hk.2) (.slice Ao64 t321.length co64)) (fun _ hk => ⟨hk.1.1.1, hk.1.1.2⟩), z15_, z17_, z16_⟩
   ·rw [if_neg c54] at H
    have c54b0 : (t327 == 2) = false := beq_eq_false_iff_ne.mpr c54
    have c54b1 : (t327 != 2) = true := bne_iff_ne.mpr c54
    simp only [Option.some.injEq, Prod.mk.injEq] at H
    obtain ⟨rfl, rfl, rfl, rfl, rfl⟩ := H
    go_enter Try.func47, Try.ntmps47
    go_wp2_with (first | ((with_reducible refine gate_dst (N := 2) rfl ?_); refine box_event ?hg (N := 2) ?hd (cs := #[.slice none 0 0, .slice none 0 0, .slice none 0 0]) (t := 38) ?hr ?_; (case hd => rfl); (case hg => rfl); (case hr => exact z19_); intro gb314 hg w70 hbox hb; replace HB := Aside0.mk (below_step z4_ hb); have BK314 := Aside0.mk (hbox); have GW314 := Aside0.mk ((by rw [hg]; exact (keep_size (w := w) (g := g) (row := none) z2_) : w.heap.size ≤ gb314)); have GE314 := Aside0.mk ((Nat.le_trans HW0.out (by rw [hg]; exact (keep_size (w := w) (g := g) (row := none) z2_) : w.heap.size ≤ gb314) : w0.heap.size ≤ gb314)); replace HK := Aside0.mk (KeepBut.trans z2_ (KeepBut.of_below hb g none) (.inl rfl)); have NB0_314 := Aside0.mk ((by rw [hg]; exact Nat.ne_of_lt (IsS86.lt (show IsS86 w0 _ g s0_0 s0_1 s0_2 from by repeat ((with_reducible exact HI0.out)))) : g ≠ gb314)); have NB314_0 := Aside0.mk ((by rw [hg]; exact Nat.ne_of_gt (IsS86.lt (show IsS86 w0 _ g s0_0 s0_1 s0_2 from by repeat ((with_reducible exact HI0.out)))) : gb314 ≠ g)); replace HI0 := Aside0.mk (IsS86.below z3_ hb); clear hb hbox hg) | ((with_reducible refine gate_callee (f := 65) rfl ?_); refine goesL_ (some 5) rfl rfl Try.func65 (by kernel_rfl) rfl #[.pointer (some ⟨g, 0, none⟩)] rfl z1_ ?_; (with_reducible refine (spec_l7Cost.calls k g s0_0 s0_1 s0_2 t315 t318 t321 t324 t325 w0 _ ?side1 ?side2 A2.out).mono ?_); (case side1 => exact z57_); (case side2 => exact z58_); rintro e w71 ⟨v316, v319, v322, rfl, ho0, ho1, ho2, hi, hb, hk⟩; refine ⟨_, rfl, ?_⟩; replace BK314 := Aside0.mk (KeepBut.blk hk (g' := gb314) (o := .cells #[.slice none 0 0, .slice none 0 0, .slice none 0 0] 38 (0, 0)) z28_ NB314_0.out (by simp)); have HO317 := Aside0.mk (Kd.R_lower ho0 (keep_size (w := w) (g := g) (row := none) z12_)); have HO320 := Aside0.mk (Kd.R_lower ho1 (keep_size (w := w) (g := g) (row := none) z12_)); have HO323 := Aside0.mk (Kd.R_lower ho2 (keep_size (w := w) (g := g) (row := none) z12_)); replace HK := Aside0.mk (KeepBut.trans z12_ hk (.inl rfl)); replace HB := Aside0.mk (hb); replace HI0 := Aside0.mk (hi); (try clear hb hk hi ho0 ho1 ho2)) | ((with_reducible refine gate_dst (N := 3) rfl ?_); refine box_event ?hg (N := 3) ?hd (cs := #[.slice none 0 0, .slice none 0 0, .slice none 0 0]) (t := 38) ?hr ?_; (case hd => rfl); (case hg => rfl); (case hr => exact z19_); intro gb326 hg w72 hbox hb; replace HO317 := Aside0.mk (Kd.R_below z72_ hb); replace HO320 := Aside0.mk (Kd.R_below z73_ hb); replace HO323 := Aside0.mk (Kd.R_below z74_ hb); replace HB := Aside0.mk (below_step z58_ hb); have BK326 := Aside0.mk (hbox); have GW326 := Aside0.mk ((by rw [hg]; exact (keep_size (w := w) (g := g) (row := none) z12_) : w.heap.size ≤ gb326)); have GE326 := Aside0.mk ((Nat.le_trans HW0.out (by rw [hg]; exact (keep_size (w := w) (g := g) (row := none) z12_) : w.heap.size ≤ gb326) : w0.heap.size ≤ gb326)); replace HK := Aside0.mk (KeepBut.trans z12_ (KeepBut.of_below hb g none) (.inl rfl)); have NB314_326 := Aside0.mk ((by rw [hg]; exact Nat.ne_of_lt (blk_lt (g := gb314) (o := .cells #[.slice none 0 0, .slice none 0 0, .slice none 0 0] 38 (0, 0)) z28_) : gb314 ≠ gb326)); have NB326_314 := Aside0.mk ((by rw [hg]; exact Nat.ne_of_gt (blk_lt (g := gb314) (o := .cells #[.slice none 0 0, .slice none 0 0, .slice none 0 0] 38 (0, 0)) z28_) : gb326 ≠ gb314)); replace BK314 := Aside0.mk (blk_below z28_ hb); have NB0_326 := Aside0.mk ((by rw [hg]; exact Nat.ne_of_lt (IsS86.lt (show IsS86 w0 _ g s0_0 t324 t325 from by repeat ((with_reducible exact HI0.out)))) : g ≠ gb326)); have NB326_0 := Aside0.mk ((by rw [hg]; exact Nat.ne_of_gt (IsS86.lt (show IsS86 w0 _ g s0_0 t324 t325 from by repeat ((with_reducible exact HI0.out)))) : gb326 ≠ g)); replace HI0 := Aside0.mk (IsS86.below z57_ hb); clear hb hbox hg; obtain ⟨Ao73, co73, eo73⟩ := Kd.R_slice HO317.out; subst eo73; have hnb74 := NB326_314.out; have hnc74 := NB314_326.out; have hnb75 := NB326_0.out; have hnc75 := NB0_326.out; obtain ⟨hcz76_0, hcz76_1, hcz76_2, hfz76_0, hfz76_1, hfz76_2⟩ := bx3_ BK326.out; obtain ⟨Ao77, co77, eo77⟩ := Kd.R_slice HO320.out; subst eo77; obtain ⟨Ao78, co78, eo78⟩ := Kd.R_slice HO323.out; subst eo78) | ((with_reducible refine gate_callee (f := 64) rfl ?_); refine goesL_ (some 7) rfl rfl Try.func64 (by kernel_rfl) rfl #[.pointer (some ⟨g, 0, none⟩), .int .i64 14] rfl z1_ ?_; (with_reducible refine (spec_l1Below.calls g s0_0 t324 t325 14 t327 t328 t329 w0 _ ?side1 ?side2 A3.out).mono ?_); (case side1 => exact z15_); (case side2 => exact z17_); rintro e w79 ⟨rfl, hi, hb, hk⟩; refine ⟨_, rfl, ?_⟩; replace BK314 := Aside0.mk (KeepBut.blk hk (g' := gb314) (o := .cells #[.slice none 0 0, .slice none 0 0, .slice none 0 0] 38 (0, 0)) z47_ NB314_0.out (by simp)); replace HO317 := Aside0.mk (Kd.R_mono (Kd.R_keep (IsS86.apart (show IsS86 w0 _ g s0_0 t324 t325 from by repeat ((with_reducible first | exact HI0.out | refine IsS86.far ?_ NB0_326.out _))) (by exact (Kd.R_mono (Kd.R_far (p := ⟨gb326, 2, none⟩) (Kd.R_far (p := ⟨gb326, 1, none⟩) (Kd.R_far (p := ⟨gb326, 0, none⟩) (Kd.R_types HO317.out BK326.out (by decide)) (fun _ hk => hk.2) (.slice Ao73 t315.length co73)) (fun _ hk => hk.2) (.slice Ao77 t318.length co77)) (fun _ hk => hk.2) (.slice Ao78 t321.length co78)) (fun _ h_ => h_.1))) (by decide)) hk (fun _ h => h.2)) (fun _ h => h.1)); replace HO320 := Aside0.mk (Kd.R_mono (Kd.R_keep (IsS86.apart (show IsS86 w0 _ g s0_0 t324 t325 from by repeat ((with_reducible first | exact HI0.out | refine IsS86.far ?_ NB0_326.out _))) (by exact (Kd.R_mono (Kd.R_far (p := ⟨gb326, 2, none⟩) (Kd.R_far (p := ⟨gb326, 1, none⟩) (Kd.R_far (p := ⟨gb326, 0, none⟩) (Kd.R_types HO320.out BK326.out (by decide)) (fun _ hk => hk.2) (.slice Ao73 t315.length co73)) (fun _ hk => hk.2) (.slice Ao77 t318.length co77)) (fun _ hk => hk.2) (.slice Ao78 t321.length co78)) (fun _ h_ => h_.1))) (by decide)) hk (fun _ h => h.2)) (fun _ h => h.1)); replace HO323 := Aside0.mk (Kd.R_mono (Kd.R_keep (IsS86.apart (show IsS86 w0 _ g s0_0 t324 t325 from by repeat ((with_reducible first | exact HI0.out | refine IsS86.far ?_ NB0_326.out _))) (by exact (Kd.R_mono (Kd.R_far (p := ⟨gb326, 2, none⟩) (Kd.R_far (p := ⟨gb326, 1, none⟩) (Kd.R_far (p := ⟨gb326, 0, none⟩) (Kd.R_types HO323.out BK326.out (by decide)) (fun _ hk => hk.2) (.slice Ao73 t315.length co73)) (fun _ hk => hk.2) (.slice Ao77 t318.length co77)) (fun _ hk => hk.2) (.slice Ao78 t321.length co78)) (fun _ h_ => h_.1))) (by decide)) hk (fun _ h => h.2)) (fun _ h => h.1)); replace BK326 := Aside0.mk (KeepBut.blk hk (g' := gb326) (o := .cells #[.slice Ao73 t315.length co73, .slice Ao77 t318.length co77, .slice Ao78 t321.length co78] 38 (0, 0)) (by refine blk_put (cs := #[.slice Ao73 t315.length co73, .slice Ao77 t318.length co77, .slice none 0 0]) ?_ 2 _ rfl; refine blk_put (cs := #[.slice Ao73 t315.length co73, .slice none 0 0, .slice none 0 0]) ?_ 1 _ rfl; refine blk_put (cs := #[.slice none 0 0, .slice none 0 0, .slice none 0 0]) ?_ 0 _ rfl; exact BK326.out) NB326_0.out (by simp)); replace HK := Aside0.mk (KeepBut.trans z16_ hk (.inl rfl)); replace HB := Aside0.mk (hb); replace HI0 := Aside0.mk (hi); (try clear hb hk hi); obtain ⟨hcz80_0, hcz80_1, hcz80_2, hfz80_0, hfz80_1, hfz80_2⟩ := bx3_ BK326.out; have hnb81 := NB314_0.out; have hnc81 := NB0_314.out; obtain ⟨hcz82_0, hcz82_1, hcz82_2, hfz82_0, hfz82_1, hfz82_2⟩ := bx3_ BK314.out))
    refine bodyPost_ret (results_cell_row rfl _ _ gb314 38 #[.slice Ao73 t315.length co73, .slice Ao77 t318.length co77, .slice Ao78 t321.length co78] (0, 0) _ rfl (by refine blk_put (cs := #[.slice Ao73 t315.length co73, .slice Ao77 t318.length co77, .slice none 0 0]) ?_ 2 _ rfl; refine blk_put (cs := #[.slice Ao73 t315.length co73, .slice none 0 0, .slice none 0 0]) ?_ 1 _ rfl; refine blk_put (cs := #[.slice none 0 0, .slice none 0 0, .slice none 0 0]) ?_ 0 _ rfl; exact BK314.out) Try.underlying38 rfl (by kernel_rfl)) rfl ?_
    exact ⟨_, _, _, z6_, by exact Kd.R_mono (Kd.R_far (p := ⟨gb314, 2, none⟩) (Kd.R_far (p := ⟨gb314, 1, none⟩) (Kd.R_far (p := ⟨gb314, 0, none⟩) (Kd.R_types HO317.out BK314.out (by decide)) (fun _ hk => hk.2) (.slice Ao73 t315.length co73)) (fun _ hk => hk.2) (.slice Ao77 t318.length co77)) (fun _ hk => hk.2) (.slice Ao78 t321.length co78)) (fun _ hk => ⟨hk.1.1, hk.1.2⟩), Kd.Q_of_R (by exact Kd.R_mono (Kd.R_far (p := ⟨gb314, 2, none⟩) (Kd.R_far (p := ⟨gb314, 1, none⟩) (Kd.R_far (p := ⟨gb314, 0, none⟩) (Kd.R_types HO320.out BK314.out (by decide)) (fun _ hk => hk.2) (.slice Ao73 t315.length co73)) (fun _ hk => hk.2) (.slice Ao77 t318.length co77)) (fun _ hk => hk.2) (.slice Ao78 t321.length co78)) (fun _ hk => ⟨hk.1.1, hk.1.2⟩)), by exact Kd.R_mono (Kd.R_far (p := ⟨gb314, 2, none⟩) (Kd.R_far (p := ⟨gb314, 1, none⟩) (Kd.R_far (p := ⟨gb314, 0, none⟩) (Kd.R_types HO323.out BK314.out (by decide)) (fun _ hk => hk.2) (.slice Ao73 t315.length co73)) (fun _ hk => hk.2) (.slice Ao77 t318.length co77)) (fun _ hk => hk.2) (.slice Ao78 t321.length co78)) (fun _ hk => ⟨hk.1.1, hk.1.2⟩), z15_, z17_, z16_⟩

/-! ### spec_l1Once: function 51 -/
def spec_l1Once.f (s0_0 : List Int) (s0_1 : Int) (s0_2 : Int) (a1 : Int) : Option (Bool × Int × Int) := (spec_l1Below.f s0_0 s0_1 s0_2 a1).bind fun bt347 => (some ((bt347.1 == 0), bt347.2.1, bt347.2.2))
set_option maxHeartbeats 8000000 in
set_option maxRecDepth 100000 in
theorem spec_l1Once.calls (g : Nat) (s0_0 : List Int) (s0_1 : Int) (s0_2 : Int) (a1 : Int) (r1 : Bool) (r2 : Int) (r3 : Int) (w0 w : World) (hI : IsS86 w0 w g s0_0 s0_1 s0_2) (hB : Below w0.heap.size w0 w) (h : spec_l1Once.f s0_0 s0_1 s0_2 a1 = some (r1, r2, r3)) :
  Calls Try.prog 51 #[.pointer (some ⟨g, 0, none⟩), .int .i64 a1] w fun e w' => e = .returned (.bool r1) ∧ IsS86 w0 w' g s0_0 r2 r3 ∧ Below w0.heap.size w0 w' ∧ KeepBut w w' g none := by
 have HI0 := Aside0.mk hI
 have HK := Aside0.mk (KeepBut.refl w g none)
 have HL := Aside0.mk hB.size
 clear hI
 have HW0 := Aside0.mk hB.size
 have HB := Aside0.mk hB
 clear hB
 have H : ((spec_l1Below.f s0_0 s0_1 s0_2 a1).bind fun bt347 => (some ((bt347.1 == 0), bt347.2.1, bt347.2.2))) = some (r1, r2, r3) := h
 clear h
 replace H := Option.bind_eq_some_iff.mp H
 obtain ⟨⟨t347, t348, t349⟩, A30, H⟩ := H
 try dsimp only at H
 have A3 := Aside0.mk A30
 clear A30
 simp only [Option.some.injEq, Prod.mk.injEq] at H
 obtain ⟨rfl, rfl, rfl⟩ := H
 go_enter Try.func51, Try.ntmps51
 go_wp2_with (((with_reducible refine gate_callee (f := 64) rfl ?_); refine goesL_ (some 7) rfl rfl Try.func64 (by kernel_rfl) rfl #[.pointer (some ⟨g, 0, none⟩), .int .i64 a1] rfl z1_ ?_; (with_reducible refine (spec_l1Below.calls g s0_0 s0_1 s0_2 a1 t347 t348 t349 w0 _ ?side1 ?side2 A3.out).mono ?_); (case side1 => exact z3_); (case side2 => exact z4_); rintro e w4 ⟨rfl, hi, hb, hk⟩; refine ⟨_, rfl, ?_⟩; replace HK := Aside0.mk (KeepBut.trans z2_ hk (.inl rfl)); replace HB := Aside0.mk (hb); replace HI0 := Aside0.mk (hi); (try clear hb hk hi)))
 go_ret
 exact ⟨z6_, z3_, z4_, z2_⟩

/-! ### spec_l2Label: function 73 -/
def spec_l2Label.f (s0_0 : List Int) (s0_1 : Int) (s0_2 : Int) : Option (Int × Int × Int) := (spec_l1Below.f s0_0 s0_1 s0_2 4).bind fun bt350 => (some (bt350.1, bt350.2.1, bt350.2.2))
set_option maxHeartbeats 8000000 in
set_option maxRecDepth 100000 in
theorem spec_l2Label.calls (g : Nat) (s0_0 : List Int) (s0_1 : Int) (s0_2 : Int) (r1 : Int) (r2 : Int) (r3 : Int) (w0 w : World) (hI : IsS86 w0 w g s0_0 s0_1 s0_2) (hB : Below w0.heap.size w0 w) (h : spec_l2Label.f s0_0 s0_1 s0_2 = some (r1, r2, r3)) :
  Calls Try.prog 73 #[.pointer (some ⟨g, 0, none⟩)] w fun e w' => e = .returned (.int .i64 r1) ∧ IsS86 w0 w' g s0_0 r2 r3 ∧ Below w0.heap.size w0 w' ∧ KeepBut w w' g none := by
 have HI0 := Aside0.mk hI
 have HK := Aside0.mk (KeepBut.refl w g none)
 have HL := Aside0.mk hB.size
 clear hI
 have HW0 := Aside0.mk hB.size
 have HB := Aside0.mk hB
 clear hB
 have H : ((spec_l1Below.f s0_0 s0_1 s0_2 4).bind fun bt350 => (some (bt350.1, bt350.2.1, bt350.2.2))) = some (r1, r2, r3) := h
 clear h
 replace H := Option.bind_eq_some_iff.mp H
 obtain ⟨⟨t350, t351, t352⟩, A20, H⟩ := H
 try dsimp only at H
 have A2 := Aside0.mk A20
 clear A20
 simp only [Option.some.injEq, Prod.mk.injEq] at H
 obtain ⟨rfl, rfl, rfl⟩ := H
 go_enter Try.func73, Try.ntmps73
 go_wp2_with (((with_reducible refine gate_callee (f := 64) rfl ?_); refine goesL_ (some 4) rfl rfl Try.func64 (by kernel_rfl) rfl #[.pointer (some ⟨g, 0, none⟩), .int .i64 4] rfl z1_ ?_; (with_reducible refine (spec_l1Below.calls g s0_0 s0_1 s0_2 4 t350 t351 t352 w0 _ ?side1 ?side2 A2.out).mono ?_); (case side1 => exact z3_); (case side2 => exact z4_); rintro e w3 ⟨rfl, hi, hb, hk⟩; refine ⟨_, rfl, ?_⟩; replace HK := Aside0.mk (KeepBut.trans z2_ hk (.inl rfl)); replace HB := Aside0.mk (hb); replace HI0 := Aside0.mk (hi); (try clear hb hk hi)))
 go_ret
 exact ⟨z6_, z3_, z4_, z2_⟩

end Go.Proofs.Ytbmkobanpakohaa.PFnMirrored
