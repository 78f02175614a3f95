/- Laid by a program of this session out of the kit's print for the law FnKept: what it says of the machine is proved here, function by function; each contract under the conditions that it names. -/
import Derived.Test.YtbiffnahknkoiaaMFnKeptx0
import Derived.Test.YtbiffnahknkoiaaMFnKeptx2
import Derived.Test.YtbiffnahknkoiaaMFnKeptx3
import Derived.Test.YtbiffnahknkoiaaMFnKeptx4
import Derived.Test.YtbiffnahknkoiaaMFnKeptx6
import Derived.Test.YtbiffnahknkoiaaMFnKeptx8
import Derived.Test.YtbiffnahknkoiaaMFnKeptx9
namespace Go.Proofs.Ytbiffnahknkoiaa.PFnKept
open Go.RowKit Go.Proofs.YtbiffnahknkoiaaW.PrintWords Go.Proofs.YtbiffnahknkoiaaW.PrintLast Go.Proofs.YtbiffnahknkoiaaW.PrintMore
attribute [local go_sem] max2_int min2_int max_two min_two max_three min_three max_four min_four   -- for this text's walks alone
set_option linter.unusedVariables false
set_option linter.unusedSimpArgs false

/-! ### spec_l8Draw: function 73 -/
def spec_l8Draw.j0 : Nat → Int → List (S45) → List (S45) → List Int → Int → Int → Option ((List (S45)) × (List (S45)) × List Int × List Int × List Int × Int × Int)
 | 0, _, _, _, _, _, _ => none
 | k + 1, x1, x7, x8, x1000, x1001, x1002 => (spec_l7Cost.f k x1000 x1001 x1002).bind fun bt375 => ((spec_l1Below.f x1000 bt375.2.2.2.1 bt375.2.2.2.2 24).bind fun bt387 => (if bt387.1 = 0 then ((spec_l3Any.f k x1000 bt387.2.1 bt387.2.2 x1).bind fun bt390 => (some (bt390.1, x8, bt375.1, bt375.2.1, bt375.2.2.1, bt390.2.1, bt390.2.2))) else (if bt387.1 = 1 then ((spec_l7Any.f k x1000 bt387.2.1 bt387.2.2).bind fun bt395 => (some (x7, x8, bt395.1, bt395.2.1, bt395.2.2.1, bt395.2.2.2.1, bt395.2.2.2.2))) else (some (x7, x8, bt375.1, bt375.2.1, bt375.2.2.1, bt387.2.1, bt387.2.2)))))
def spec_l8Draw.f (k : Nat) (s0_0 : List Int) (s0_1 : Int) (s0_2 : Int) (a1 : Int) : Option ((List (S45)) × (List (S45)) × List Int × List Int × List Int × Int × Int) := (spec_l3Tree.f k s0_0 s0_1 s0_2 a1).bind fun bt357 => ((spec_l3Tree.f k s0_0 bt357.2.1 bt357.2.2 a1).bind fun bt362 => ((spec_l1Once.f s0_0 bt362.2.1 bt362.2.2 2).bind fun bt367 => (if bt367.1 = true then ((spec_l3Near.f k s0_0 bt367.2.1 bt367.2.2 bt357.1).bind fun bt370 => (spec_l8Draw.j0 k a1 bt357.1 bt370.1 s0_0 bt370.2.1 bt370.2.2)) else (spec_l8Draw.j0 k a1 bt357.1 bt362.1 s0_0 bt367.2.1 bt367.2.2))))
set_option maxHeartbeats 8000000 in
set_option maxRecDepth 100000 in
theorem spec_l8Draw.calls (k : Nat) (g : Nat) (s0_0 : List Int) (s0_1 : Int) (s0_2 : Int) (a1 : Int) (r1 : List (S45)) (r2 : List (S45)) (r3 : List Int) (r4 : List Int) (r5 : List Int) (r6 : Int) (r7 : Int) (w0 w : World) (hI : IsS115 w0 w g s0_0 s0_1 s0_2) (hB : Below w0.heap.size w0 w) (h : spec_l8Draw.f k s0_0 s0_1 s0_2 a1 = some (r1, r2, r3, r4, r5, r6, r7)) :
  Calls Try.prog 73 #[.pointer (some ⟨g, 0, none⟩), .int .i64 a1] w fun e w' => ∃ v0_ v1_ v2_ v3_ v4_ : Value, e = .returned (.tuple #[v0_, v1_, .agg #[v2_, v3_, v4_]]) ∧ Kd.Q k45 45 w' w.heap.size (fun k_ => some k_ ≠ (v1_ : Value).ownBlock) v0_ r1 ∧ Kd.R k45 45 w' w.heap.size (fun k_ => some k_ ≠ (v0_ : Value).ownBlock) v1_ r2 ∧ Kd.R (Kd.int .i64) 3 w' w.heap.size (fun k_ => some k_ ≠ (v3_ : Value).ownBlock ∧ some k_ ≠ (v4_ : Value).ownBlock) v2_ r3 ∧ Kd.Q (Kd.int .i64) 3 w' w.heap.size (fun k_ => some k_ ≠ (v2_ : Value).ownBlock ∧ some k_ ≠ (v4_ : Value).ownBlock) v3_ r4 ∧ Kd.R (Kd.int .i64) 3 w' w.heap.size (fun k_ => some k_ ≠ (v2_ : Value).ownBlock ∧ some k_ ≠ (v3_ : Value).ownBlock) v4_ r5 ∧ IsS115 w0 w' g s0_0 r6 r7 ∧ Below w0.heap.size w0 w' ∧ KeepBut w w' g none := by
 have hu33 := Try.underlying33
 have HI0 := Aside0.mk hI
 have HK := Aside0.mk (KeepBut.refl w g none)
 have HL := Aside0.mk hB.size
 clear hI
 have HW0 := Aside0.mk hB.size
 have HB := Aside0.mk hB
 clear hB
 have H : ((spec_l3Tree.f k s0_0 s0_1 s0_2 a1).bind fun bt357 => ((spec_l3Tree.f k s0_0 bt357.2.1 bt357.2.2 a1).bind fun bt362 => ((spec_l1Once.f s0_0 bt362.2.1 bt362.2.2 2).bind fun bt367 => (if bt367.1 = true then ((spec_l3Near.f k s0_0 bt367.2.1 bt367.2.2 bt357.1).bind fun bt370 => (spec_l8Draw.j0 k a1 bt357.1 bt370.1 s0_0 bt370.2.1 bt370.2.2)) else (spec_l8Draw.j0 k a1 bt357.1 bt362.1 s0_0 bt367.2.1 bt367.2.2))))) = some (r1, r2, r3, r4, r5, r6, r7) := h
 clear h
 replace H := Option.bind_eq_some_iff.mp H
 obtain ⟨⟨t357, t360, t361⟩, A30, H⟩ := H
 try dsimp only at H
 have A3 := Aside0.mk A30
 clear A30
 replace H := Option.bind_eq_some_iff.mp H
 obtain ⟨⟨t362, t365, t366⟩, A40, H⟩ := H
 try dsimp only at H
 have A4 := Aside0.mk A40
 clear A40
 replace H := Option.bind_eq_some_iff.mp H
 obtain ⟨⟨t367, t368, t369⟩, A50, H⟩ := H
 try dsimp only at H
 have A5 := Aside0.mk A50
 clear A50
 have HC6 := Aside0.mk H
 clear H
 go_enter Try.func73, Try.ntmps73
 go_upto_if 17 with (first | ((with_reducible refine gate_dst (N := 6) rfl ?_); refine box_event ?hg (N := 6) ?hd (cs := #[.slice none 0 0, .slice none 0 0, .slice none 0 0]) (t := 33) ?hr ?_; (case hd => rfl); (case hg => rfl); (case hr => exact z26_); intro gb356 hg w7 hbox hb; replace HB := Aside0.mk (below_step z3_ hb); have BK356 := Aside0.mk (hbox); have GW356 := Aside0.mk ((by rw [hg]; exact (keep_size (w := w) (g := g) (row := none) z1_) : w.heap.size ≤ gb356)); have GE356 := Aside0.mk ((Nat.le_trans HW0.out (by rw [hg]; exact (keep_size (w := w) (g := g) (row := none) z1_) : w.heap.size ≤ gb356) : w0.heap.size ≤ gb356)); replace HK := Aside0.mk (KeepBut.trans z1_ (KeepBut.of_below hb g none) (.inl rfl)); have NB0_356 := Aside0.mk ((by rw [hg]; exact Nat.ne_of_lt (IsS115.lt (show IsS115 w0 _ g s0_0 s0_1 s0_2 from by repeat (first | (with_reducible first | exact HI0.out | apply IsS115.alloc | apply IsS115.drewN | apply IsS115.drew | apply IsS115.set_1 | apply IsS115.set_2) | exact HI0.out))) : g ≠ gb356)); have NB356_0 := Aside0.mk ((by rw [hg]; exact Nat.ne_of_gt (IsS115.lt (show IsS115 w0 _ g s0_0 s0_1 s0_2 from by repeat (first | (with_reducible first | exact HI0.out | apply IsS115.alloc | apply IsS115.drewN | apply IsS115.drew | apply IsS115.set_1 | apply IsS115.set_2) | exact HI0.out))) : gb356 ≠ g)); replace HI0 := Aside0.mk (IsS115.below z2_ hb); clear hb hbox hg) | ((with_reducible refine gate_callee (f := 83) rfl ?_); refine goesL_ (some 12) rfl rfl Try.func83 (by kernel_rfl) rfl #[.pointer (some ⟨g, 0, none⟩), .int .i64 a1] rfl z4_ ?_; (with_reducible refine (spec_l3Tree.calls k g s0_0 s0_1 s0_2 a1 t357 t360 t361 w0 _ ?side1 ?side2 A3.out).mono ?_); (case side1 => exact z36_); (case side2 => exact z37_); rintro e w8 ⟨v358, rfl, ho0, hi, hb, hk⟩; refine ⟨_, rfl, ?_⟩; replace BK356 := Aside0.mk (KeepBut.blk hk (g' := gb356) (o := .cells #[.slice none 0 0, .slice none 0 0, .slice none 0 0] 33 (0, 0)) z42_ NB356_0.out (by simp)); have HO359 := Aside0.mk (Kd.R_lower ho0 (keep_size (w := w) (g := g) (row := none) z10_)); replace HK := Aside0.mk (KeepBut.trans z10_ hk (.inl rfl)); replace HB := Aside0.mk (hb); replace HI0 := Aside0.mk (hi); (try clear hb hk hi ho0)) | ((with_reducible refine gate_callee (f := 83) rfl ?_); refine goesL_ (some 15) rfl rfl Try.func83 (by kernel_rfl) rfl #[.pointer (some ⟨g, 0, none⟩), .int .i64 a1] rfl z4_ ?_; (with_reducible refine (spec_l3Tree.calls k g s0_0 t360 t361 a1 t362 t365 t366 w0 _ ?side1 ?side2 A4.out).mono ?_); (case side1 => exact z36_); (case side2 => exact z37_); rintro e w9 ⟨v363, rfl, ho0, hi, hb, hk⟩; refine ⟨_, rfl, ?_⟩; replace BK356 := Aside0.mk (KeepBut.blk hk (g' := gb356) (o := .cells #[.slice none 0 0, .slice none 0 0, .slice none 0 0] 33 (0, 0)) z42_ NB356_0.out (by simp)); have HO364 := Aside0.mk (Kd.R_lower (Kd.R_new' ho0 (Kd.R_lt z120_)) (keep_size (w := w) (g := g) (row := none) z10_)); replace HO359 := Aside0.mk (Kd.R_mono (Kd.R_told (Kd.R_oldK (IsS115.apart (show IsS115 w0 _ g s0_0 t360 t361 from by repeat (first | (with_reducible first | exact HI0.out | apply IsS115.alloc | apply IsS115.drewN | apply IsS115.drew | apply IsS115.set_1 | apply IsS115.set_2 | refine IsS115.far ?_ NB0_356.out _) | exact HI0.out)) z120_ (by decide)) hk) (Kd.R_base ho0)) (fun _ h_ => h_.1)); replace HK := Aside0.mk (KeepBut.trans z10_ hk (.inl rfl)); replace HB := Aside0.mk (hb); replace HI0 := Aside0.mk (hi); (try clear hb hk hi ho0)) | ((with_reducible refine gate_callee (f := 97) rfl ?_); refine goesL_ (some 17) rfl rfl Try.func97 (by kernel_rfl) rfl #[.pointer (some ⟨g, 0, none⟩), .int .i64 2] rfl z4_ ?_; (with_reducible refine (spec_l1Once.calls g s0_0 t365 t366 2 t367 t368 t369 w0 _ ?side1 ?side2 A5.out).mono ?_); (case side1 => exact z36_); (case side2 => exact z37_); rintro e w10 ⟨rfl, hi, hb, hk⟩; refine ⟨_, rfl, ?_⟩; replace BK356 := Aside0.mk (KeepBut.blk hk (g' := gb356) (o := .cells #[.slice none 0 0, .slice none 0 0, .slice none 0 0] 33 (0, 0)) z42_ NB356_0.out (by simp)); replace HO359 := Aside0.mk (Kd.R_mono (Kd.R_keep (IsS115.apart (show IsS115 w0 _ g s0_0 t365 t366 from by repeat (first | (with_reducible first | exact HI0.out | apply IsS115.alloc | apply IsS115.drewN | apply IsS115.drew | apply IsS115.set_1 | apply IsS115.set_2 | refine IsS115.far ?_ NB0_356.out _) | exact HI0.out)) z120_ (by decide)) hk (fun _ h => h.2)) (fun _ h => h.1)); replace HO364 := Aside0.mk (Kd.R_mono (Kd.R_keep (IsS115.apart (show IsS115 w0 _ g s0_0 t365 t366 from by repeat (first | (with_reducible first | exact HI0.out | apply IsS115.alloc | apply IsS115.drewN | apply IsS115.drew | apply IsS115.set_1 | apply IsS115.set_2 | refine IsS115.far ?_ NB0_356.out _) | exact HI0.out)) z170_ (by decide)) hk (fun _ h => h.2)) (fun _ h => h.1)); replace HK := Aside0.mk (KeepBut.trans z10_ hk (.inl rfl)); replace HB := Aside0.mk (hb); replace HI0 := Aside0.mk (hi); (try clear hb hk hi)))
 (try simp only [Act.put, List.setIfInBounds_toArray, List.set_cons_zero, List.set_cons_succ])
 go_cut [8] (fun v8 wc => ∃ (kq : Nat) (x8_5 : List (S45)) (x1001_5 : Int) (x1002_5 : Int), Aside0 (spec_l8Draw.j0 kq a1 t357 x8_5 s0_0 x1001_5 x1002_5 = some (r1, r2, r3, r4, r5, r6, r7)) ∧ Aside0 (kq ≤ k) ∧ Aside0 (Kd.Q k45 45 wc w.heap.size (fun k_ => some k_ ≠ (v8 : Value).ownBlock) v358 t357) ∧ Aside0 (Kd.R k45 45 wc w.heap.size (fun k_ => some k_ ≠ (v358 : Value).ownBlock) v8 x8_5) ∧ Aside0 (wc.heap[gb356]? = some (.cells #[(.slice none 0 0), (.slice none 0 0), (.slice none 0 0)] 33 (0, 0))) ∧ Aside0 (IsS115 w0 wc g s0_0 x1001_5 x1002_5) ∧ Aside0 (KeepBut w wc g none) ∧ Aside0 (Below w0.heap.size w0 wc))
 case first =>
  have H := HC6.out
  clear HC6
  by_cases c11 : t367 = true
  ·subst c11
   replace H := ift_ H
   replace H := Option.bind_eq_some_iff.mp H
   obtain ⟨⟨t370, t373, t374⟩, A120, H⟩ := H
   try dsimp only at H
   have A12 := Aside0.mk A120
   clear A120
   have H' := Aside0.mk H
   clear H
   obtain ⟨Ao13, co13, eo13⟩ := Kd.R_slice HO359.out
   subst eo13
   go_wp2_with (first | ((with_reducible refine gate_callee (f := 98) rfl ?_); refine goesL_ (some 20) rfl rfl Try.func98 (by kernel_rfl) rfl #[.pointer (some ⟨g, 0, none⟩), .slice Ao13 t357.length co13] rfl z4_ ?_; (with_reducible refine (spec_l3Near.calls k g s0_0 t368 t369 _ _ t357 t370 t373 t374 w0 _ ?side1 ?side2 ?side3 ?side4 A12.out).mono ?_); (case side1 => exact z36_); (case side2 => exact z37_); (case side3 => exact Kd.C_foot_own (IsS115.apart (show IsS115 w0 _ g s0_0 t368 t369 from by repeat (first | (with_reducible first | exact HI0.out | apply IsS115.alloc | apply IsS115.drewN | apply IsS115.drew | apply IsS115.set_1 | apply IsS115.set_2 | refine IsS115.far ?_ NB0_356.out _) | exact HI0.out)) z120_ (by decide)) (fun _ h_ => h_.2)); (case side4 => exact (Kd.R_reads' HO359.out).2.1); rintro e w14 ⟨v371, rfl, ho0, hi, hb, hk⟩; refine ⟨_, rfl, ?_⟩; replace BK356 := Aside0.mk (KeepBut.blk hk (g' := gb356) (o := .cells #[.slice none 0 0, .slice none 0 0, .slice none 0 0] 33 (0, 0)) z42_ NB356_0.out (by simp)); have HO372 := Aside0.mk (Kd.R_lower (Kd.R_new' (Kd.R_new' ho0 (Kd.R_lt z120_)) (Kd.R_lt z170_)) (keep_size (w := w) (g := g) (row := none) z10_)); replace HO359 := Aside0.mk (Kd.R_mono (Kd.R_told (Kd.R_oldK (IsS115.apart (show IsS115 w0 _ g s0_0 t368 t369 from by repeat (first | (with_reducible first | exact HI0.out | apply IsS115.alloc | apply IsS115.drewN | apply IsS115.drew | apply IsS115.set_1 | apply IsS115.set_2 | refine IsS115.far ?_ NB0_356.out _) | exact HI0.out)) z120_ (by decide)) hk) (Kd.R_base ho0)) (fun _ h_ => h_.1)); replace HO364 := Aside0.mk (Kd.R_mono (Kd.R_told (Kd.R_oldK (IsS115.apart (show IsS115 w0 _ g s0_0 t368 t369 from by repeat (first | (with_reducible first | exact HI0.out | apply IsS115.alloc | apply IsS115.drewN | apply IsS115.drew | apply IsS115.set_1 | apply IsS115.set_2 | refine IsS115.far ?_ NB0_356.out _) | exact HI0.out)) z170_ (by decide)) hk) (Kd.R_base ho0)) (fun _ h_ => h_.1)); replace HK := Aside0.mk (KeepBut.trans z10_ hk (.inl rfl)); replace HB := Aside0.mk (hb); replace HI0 := Aside0.mk (hi); (try clear hb hk hi ho0)))
   go_meet
   case rel => exact ⟨_, (t370), (t373), (t374), H', ⟨z185_⟩, ⟨Kd.Q_of_R z188_⟩, ⟨by (with_reducible repeat (first | apply Kd.R_alloc | apply Kd.R_drewN | apply Kd.R_drew)); exact Kd.R_mono HO372.out (fun _ hk => hk.1.2)⟩, ⟨z42_⟩, ⟨z36_⟩, ⟨z10_⟩, ⟨z37_⟩⟩
  ·replace c11 := Bool.eq_false_iff.mpr c11
   subst c11
   replace H := iff_ H
   have H' := Aside0.mk H
   clear H
   go_wp2
   go_meet
   case rel => exact ⟨_, (t362), (t368), (t369), H', ⟨z185_⟩, ⟨Kd.Q_of_R z188_⟩, ⟨by (with_reducible repeat (first | apply Kd.R_alloc | apply Kd.R_drewN | apply Kd.R_drew)); exact Kd.R_mono HO364.out (fun _ hk => hk.2)⟩, ⟨z42_⟩, ⟨z36_⟩, ⟨z10_⟩, ⟨z37_⟩⟩
 case rest =>
  clear HC6
  try clear c1
  try clear p2
  try clear c7
  try clear c8
  try clear c9
  try clear c11
  obtain ⟨kq, x8_5, x1001_5, x1002_5, HA, HJ5, HO_7, HO_8, BK356, HI0, HK, HB⟩ := hcut
  cases kq with
  | zero => exact absurd HA.out (by simp [spec_l8Draw.j0])
  | succ kj5 =>
   have H := HA.out
   clear HA
   simp only [spec_l8Draw.j0] at H
   replace H := Option.bind_eq_some_iff.mp H
   obtain ⟨⟨t375, t378, t381, t384, t385⟩, A150, H⟩ := H
   try dsimp only at H
   have A15 := Aside0.mk A150
   clear A150
   replace H := Option.bind_eq_some_iff.mp H
   obtain ⟨⟨t387, t388, t389⟩, A160, H⟩ := H
   try dsimp only at H
   have A16 := Aside0.mk A160
   clear A160
   by_cases c17 : t387 = 0
   ·rw [if_pos c17] at H
    have c17b0 : (t387 == 0) = true := beq_iff_eq.mpr c17
    have c17b1 : (t387 != 0) = false := bne_eq_false_iff_eq.mpr c17
    clear c17
    replace H := Option.bind_eq_some_iff.mp H
    obtain ⟨⟨t390, t393, t394⟩, A180, H⟩ := H
    try dsimp only at H
    have A18 := Aside0.mk A180
    clear A180
    simp only [Option.some.injEq, Prod.mk.injEq] at H
    obtain ⟨rfl, rfl, rfl, rfl, rfl, rfl, rfl⟩ := H
    try go_wp2_with (first | ((with_reducible refine gate_callee (f := 99) rfl ?_); refine goesL_ (some 22) rfl rfl Try.func99 (by kernel_rfl) rfl #[.pointer (some ⟨g, 0, none⟩)] rfl z4_ ?_; (with_reducible refine (spec_l7Cost.calls kj5 g s0_0 x1001_5 x1002_5 t375 t378 t381 t384 t385 w0 _ ?side1 ?side2 A15.out).mono ?_); (case side1 => exact z36_); (case side2 => exact z37_); rintro e w19 ⟨v376, v379, v382, rfl, ho0, ho1, ho2, hi, hb, hk⟩; refine ⟨_, rfl, ?_⟩; replace HO_7 := Aside0.mk (Kd.Q_mono (Kd.Q_keep (IsS115.apartQ (show IsS115 w0 _ g s0_0 x1001_5 x1002_5 from by repeat (first | (with_reducible first | exact HI0.out | apply IsS115.alloc | apply IsS115.drewN | apply IsS115.drew | apply IsS115.set_1 | apply IsS115.set_2 | refine IsS115.far ?_ NB0_356.out _) | exact HI0.out)) z92_ (by decide)) hk (fun _ h => h.2)) (fun _ h => h.1)); replace HO_8 := Aside0.mk (Kd.R_mono (Kd.R_keep (IsS115.apart (show IsS115 w0 _ g s0_0 x1001_5 x1002_5 from by repeat (first | (with_reducible first | exact HI0.out | apply IsS115.alloc | apply IsS115.drewN | apply IsS115.drew | apply IsS115.set_1 | apply IsS115.set_2 | refine IsS115.far ?_ NB0_356.out _) | exact HI0.out)) z21_ (by decide)) hk (fun _ h => h.2)) (fun _ h => h.1)); replace BK356 := Aside0.mk (KeepBut.blk hk (g' := gb356) (o := .cells #[.slice none 0 0, .slice none 0 0, .slice none 0 0] 33 (0, 0)) z42_ NB356_0.out (by simp)); have HO377 := Aside0.mk (Kd.R_lower ho0 (keep_size (w := w) (g := g) (row := none) z10_)); have HO380 := Aside0.mk (Kd.R_lower ho1 (keep_size (w := w) (g := g) (row := none) z10_)); have HO383 := Aside0.mk (Kd.R_lower ho2 (keep_size (w := w) (g := g) (row := none) z10_)); replace HK := Aside0.mk (KeepBut.trans z10_ hk (.inl rfl)); replace HB := Aside0.mk (hb); replace HI0 := Aside0.mk (hi); (try clear hb hk hi ho0 ho1 ho2)) | ((with_reducible refine gate_dst (N := 9) rfl ?_); refine box_event ?hg (N := 9) ?hd (cs := #[.slice none 0 0, .slice none 0 0, .slice none 0 0]) (t := 33) ?hr ?_; (case hd => rfl); (case hg => rfl); (case hr => exact z26_); intro gb386 hg w20 hbox hb; replace HO_7 := Aside0.mk (Kd.Q_below z92_ hb); replace HO_8 := Aside0.mk (Kd.R_below z21_ hb); replace HO377 := Aside0.mk (Kd.R_below z97_ hb); replace HO380 := Aside0.mk (Kd.R_below z98_ hb); replace HO383 := Aside0.mk (Kd.R_below z99_ hb); replace HB := Aside0.mk (below_step z37_ hb); have BK386 := Aside0.mk (hbox); have GW386 := Aside0.mk ((by rw [hg]; exact (keep_size (w := w) (g := g) (row := none) z10_) : w.heap.size ≤ gb386)); have GE386 := Aside0.mk ((Nat.le_trans HW0.out (by rw [hg]; exact (keep_size (w := w) (g := g) (row := none) z10_) : w.heap.size ≤ gb386) : w0.heap.size ≤ gb386)); replace HK := Aside0.mk (KeepBut.trans z10_ (KeepBut.of_below hb g none) (.inl rfl)); have NB356_386 := Aside0.mk ((by rw [hg]; exact Nat.ne_of_lt (blk_lt (g := gb356) (o := .cells #[.slice none 0 0, .slice none 0 0, .slice none 0 0] 33 (0, 0)) z42_) : gb356 ≠ gb386)); have NB386_356 := Aside0.mk ((by rw [hg]; exact Nat.ne_of_gt (blk_lt (g := gb356) (o := .cells #[.slice none 0 0, .slice none 0 0, .slice none 0 0] 33 (0, 0)) z42_) : gb386 ≠ gb356)); replace BK356 := Aside0.mk (blk_below (g := gb356) (o := .cells #[.slice none 0 0, .slice none 0 0, .slice none 0 0] 33 (0, 0)) z42_ hb); have NB0_386 := Aside0.mk ((by rw [hg]; exact Nat.ne_of_lt (IsS115.lt (show IsS115 w0 _ g s0_0 t384 t385 from by repeat (first | (with_reducible first | exact HI0.out | apply IsS115.alloc | apply IsS115.drewN | apply IsS115.drew | apply IsS115.set_1 | apply IsS115.set_2 | refine IsS115.far ?_ NB0_356.out _) | exact HI0.out))) : g ≠ gb386)); have NB386_0 := Aside0.mk ((by rw [hg]; exact Nat.ne_of_gt (IsS115.lt (show IsS115 w0 _ g s0_0 t384 t385 from by repeat (first | (with_reducible first | exact HI0.out | apply IsS115.alloc | apply IsS115.drewN | apply IsS115.drew | apply IsS115.set_1 | apply IsS115.set_2 | refine IsS115.far ?_ NB0_356.out _) | exact HI0.out))) : gb386 ≠ g)); replace HI0 := Aside0.mk (IsS115.below z36_ hb); clear hb hbox hg; obtain ⟨Ao21, co21, eo21⟩ := Kd.R_slice HO377.out; subst eo21; have hnb22 := NB386_356.out; have hnc22 := NB356_386.out; have hnb23 := NB386_0.out; have hnc23 := NB0_386.out; obtain ⟨hcz24_0, hcz24_1, hcz24_2, hfz24_0, hfz24_1, hfz24_2⟩ := bx3_ BK386.out; obtain ⟨Ao25, co25, eo25⟩ := Kd.R_slice HO380.out; subst eo25; obtain ⟨Ao26, co26, eo26⟩ := Kd.R_slice HO383.out; subst eo26) | ((with_reducible refine gate_callee (f := 84) rfl ?_); refine goesL_ (some 24) rfl rfl Try.func84 (by kernel_rfl) rfl #[.pointer (some ⟨g, 0, none⟩), .int .i64 24] rfl z4_ ?_; (with_reducible refine (spec_l1Below.calls g s0_0 t384 t385 24 t387 t388 t389 w0 _ ?side1 ?side2 A16.out).mono ?_); (case side1 => exact z43_); (case side2 => exact z46_); rintro e w27 ⟨rfl, hi, hb, hk⟩; refine ⟨_, rfl, ?_⟩; replace HO_7 := Aside0.mk (Kd.Q_mono (Kd.Q_keep (IsS115.apartQ (show IsS115 w0 _ g s0_0 t384 t385 from by repeat (first | (with_reducible first | exact HI0.out | apply IsS115.alloc | apply IsS115.drewN | apply IsS115.drew | apply IsS115.set_1 | apply IsS115.set_2 | refine IsS115.far ?_ NB0_356.out _ | refine IsS115.far ?_ NB0_386.out _) | exact HI0.out)) (by (with_reducible repeat (first | apply Kd.Q_alloc | apply Kd.Q_drewN | apply Kd.Q_drew)); exact (Kd.Q_mono (Kd.Q_far (p := ⟨gb386, 2, none⟩) (Kd.Q_far (p := ⟨gb386, 1, none⟩) (Kd.Q_far (p := ⟨gb386, 0, none⟩) (Kd.Q_types HO_7.out BK386.out (by decide)) (fun _ hk => hk.2) (.slice Ao21 t375.length co21)) (fun _ hk => hk.2) (.slice Ao25 t378.length co25)) (fun _ hk => hk.2) (.slice Ao26 t381.length co26)) (fun _ h_ => h_.1))) (by decide)) hk (fun _ h => h.2)) (fun _ h => h.1)); replace HO_8 := Aside0.mk (Kd.R_mono (Kd.R_keep (IsS115.apart (show IsS115 w0 _ g s0_0 t384 t385 from by repeat (first | (with_reducible first | exact HI0.out | apply IsS115.alloc | apply IsS115.drewN | apply IsS115.drew | apply IsS115.set_1 | apply IsS115.set_2 | refine IsS115.far ?_ NB0_356.out _ | refine IsS115.far ?_ NB0_386.out _) | exact HI0.out)) (by (with_reducible repeat (first | apply Kd.R_alloc | apply Kd.R_drewN | apply Kd.R_drew)); exact (Kd.R_mono (Kd.R_far (p := ⟨gb386, 2, none⟩) (Kd.R_far (p := ⟨gb386, 1, none⟩) (Kd.R_far (p := ⟨gb386, 0, none⟩) (Kd.R_types HO_8.out BK386.out (by decide)) (fun _ hk => hk.2) (.slice Ao21 t375.length co21)) (fun _ hk => hk.2) (.slice Ao25 t378.length co25)) (fun _ hk => hk.2) (.slice Ao26 t381.length co26)) (fun _ h_ => h_.1))) (by decide)) hk (fun _ h => h.2)) (fun _ h => h.1)); replace BK356 := Aside0.mk (KeepBut.blk hk (g' := gb356) (o := .cells #[.slice none 0 0, .slice none 0 0, .slice none 0 0] 33 (0, 0)) z48_ NB356_0.out (by simp)); replace HO377 := Aside0.mk (Kd.R_mono (Kd.R_keep (IsS115.apart (show IsS115 w0 _ g s0_0 t384 t385 from by repeat (first | (with_reducible first | exact HI0.out | apply IsS115.alloc | apply IsS115.drewN | apply IsS115.drew | apply IsS115.set_1 | apply IsS115.set_2 | refine IsS115.far ?_ NB0_356.out _ | refine IsS115.far ?_ NB0_386.out _) | exact HI0.out)) (by (with_reducible repeat (first | apply Kd.R_alloc | apply Kd.R_drewN | apply Kd.R_drew)); exact (Kd.R_mono (Kd.R_far (p := ⟨gb386, 2, none⟩) (Kd.R_far (p := ⟨gb386, 1, none⟩) (Kd.R_far (p := ⟨gb386, 0, none⟩) (Kd.R_types HO377.out BK386.out (by decide)) (fun _ hk => hk.2) (.slice Ao21 t375.length co21)) (fun _ hk => hk.2) (.slice Ao25 t378.length co25)) (fun _ hk => hk.2) (.slice Ao26 t381.length co26)) (fun _ h_ => h_.1))) (by decide)) hk (fun _ h => h.2)) (fun _ h => h.1)); replace HO380 := Aside0.mk (Kd.R_mono (Kd.R_keep (IsS115.apart (show IsS115 w0 _ g s0_0 t384 t385 from by repeat (first | (with_reducible first | exact HI0.out | apply IsS115.alloc | apply IsS115.drewN | apply IsS115.drew | apply IsS115.set_1 | apply IsS115.set_2 | refine IsS115.far ?_ NB0_356.out _ | refine IsS115.far ?_ NB0_386.out _) | exact HI0.out)) (by (with_reducible repeat (first | apply Kd.R_alloc | apply Kd.R_drewN | apply Kd.R_drew)); exact (Kd.R_mono (Kd.R_far (p := ⟨gb386, 2, none⟩) (Kd.R_far (p := ⟨gb386, 1, none⟩) (Kd.R_far (p := ⟨gb386, 0, none⟩) (Kd.R_types HO380.out BK386.out (by decide)) (fun _ hk => hk.2) (.slice Ao21 t375.length co21)) (fun _ hk => hk.2) (.slice Ao25 t378.length co25)) (fun _ hk => hk.2) (.slice Ao26 t381.length co26)) (fun _ h_ => h_.1))) (by decide)) hk (fun _ h => h.2)) (fun _ h => h.1)); replace HO383 := Aside0.mk (Kd.R_mono (Kd.R_keep (IsS115.apart (show IsS115 w0 _ g s0_0 t384 t385 from by repeat (first | (with_reducible first | exact HI0.out | apply IsS115.alloc | apply IsS115.drewN | apply IsS115.drew | apply IsS115.set_1 | apply IsS115.set_2 | refine IsS115.far ?_ NB0_356.out _ | refine IsS115.far ?_ NB0_386.out _) | exact HI0.out)) (by (with_reducible repeat (first | apply Kd.R_alloc | apply Kd.R_drewN | apply Kd.R_drew)); exact (Kd.R_mono (Kd.R_far (p := ⟨gb386, 2, none⟩) (Kd.R_far (p := ⟨gb386, 1, none⟩) (Kd.R_far (p := ⟨gb386, 0, none⟩) (Kd.R_types HO383.out BK386.out (by decide)) (fun _ hk => hk.2) (.slice Ao21 t375.length co21)) (fun _ hk => hk.2) (.slice Ao25 t378.length co25)) (fun _ hk => hk.2) (.slice Ao26 t381.length co26)) (fun _ h_ => h_.1))) (by decide)) hk (fun _ h => h.2)) (fun _ h => h.1)); replace BK386 := Aside0.mk (KeepBut.blk hk (g' := gb386) (o := .cells #[.slice Ao21 t375.length co21, .slice Ao25 t378.length co25, .slice Ao26 t381.length co26] 33 (0, 0)) (by (with_reducible repeat (first | refine blk_drewN ?_ _ | refine blk_drew ?_ | refine blk_alloc ?_ _)); refine blk_put (cs := #[.slice Ao21 t375.length co21, .slice Ao25 t378.length co25, .slice none 0 0]) ?_ 2 _ rfl; (with_reducible repeat (first | refine blk_drewN ?_ _ | refine blk_drew ?_ | refine blk_alloc ?_ _)); refine blk_put (cs := #[.slice Ao21 t375.length co21, .slice none 0 0, .slice none 0 0]) ?_ 1 _ rfl; (with_reducible repeat (first | refine blk_drewN ?_ _ | refine blk_drew ?_ | refine blk_alloc ?_ _)); refine blk_put (cs := #[.slice none 0 0, .slice none 0 0, .slice none 0 0]) ?_ 0 _ rfl; (with_reducible repeat (first | refine blk_drewN ?_ _ | refine blk_drew ?_ | refine blk_alloc ?_ _)); exact BK386.out) NB386_0.out (by simp)); replace HK := Aside0.mk (KeepBut.trans z31_ hk (.inl rfl)); replace HB := Aside0.mk (hb); replace HI0 := Aside0.mk (hi); (try clear hb hk hi)) | ((with_reducible refine gate_callee (f := 50) rfl ?_); refine goesL_ (some 29) rfl rfl Try.func50 (by kernel_rfl) rfl #[.pointer (some ⟨g, 0, none⟩), .int .i64 a1] rfl z4_ ?_; (with_reducible refine (spec_l3Any.calls kj5 g s0_0 t388 t389 a1 t390 t393 t394 w0 _ ?side1 ?side2 A18.out).mono ?_); (case side1 => exact z43_); (case side2 => exact z46_); rintro e w28 ⟨v391, rfl, ho0, hi, hb, hk⟩; refine ⟨_, rfl, ?_⟩; replace BK356 := Aside0.mk (KeepBut.blk hk (g' := gb356) (o := .cells #[.slice none 0 0, .slice none 0 0, .slice none 0 0] 33 (0, 0)) z42_ NB356_0.out (by simp)); replace HO377 := Aside0.mk (Kd.R_mono (Kd.R_keep (IsS115.apart (show IsS115 w0 _ g s0_0 t388 t389 from by repeat (first | (with_reducible first | exact HI0.out | apply IsS115.alloc | apply IsS115.drewN | apply IsS115.drew | apply IsS115.set_1 | apply IsS115.set_2 | refine IsS115.far ?_ NB0_356.out _ | refine IsS115.far ?_ NB0_386.out _) | exact HI0.out)) z97_ (by decide)) hk (fun _ h => h.2)) (fun _ h => h.1)); replace HO380 := Aside0.mk (Kd.R_mono (Kd.R_keep (IsS115.apart (show IsS115 w0 _ g s0_0 t388 t389 from by repeat (first | (with_reducible first | exact HI0.out | apply IsS115.alloc | apply IsS115.drewN | apply IsS115.drew | apply IsS115.set_1 | apply IsS115.set_2 | refine IsS115.far ?_ NB0_356.out _ | refine IsS115.far ?_ NB0_386.out _) | exact HI0.out)) z98_ (by decide)) hk (fun _ h => h.2)) (fun _ h => h.1)); replace HO383 := Aside0.mk (Kd.R_mono (Kd.R_keep (IsS115.apart (show IsS115 w0 _ g s0_0 t388 t389 from by repeat (first | (with_reducible first | exact HI0.out | apply IsS115.alloc | apply IsS115.drewN | apply IsS115.drew | apply IsS115.set_1 | apply IsS115.set_2 | refine IsS115.far ?_ NB0_356.out _ | refine IsS115.far ?_ NB0_386.out _) | exact HI0.out)) z99_ (by decide)) hk (fun _ h => h.2)) (fun _ h => h.1)); replace BK386 := Aside0.mk (KeepBut.blk hk (g' := gb386) (o := .cells #[.slice Ao21 t375.length co21, .slice Ao25 t378.length co25, .slice Ao26 t381.length co26] 33 (0, 0)) z192_ NB386_0.out (by simp)); have HO392 := Aside0.mk (Kd.Q_lower (Kd.Q_new' (Kd.Q_new' ho0 (Kd.Q_lt z92_)) (Kd.R_lt z21_)) (keep_size (w := w) (g := g) (row := none) z31_)); replace HO_7 := Aside0.mk (Kd.Q_mono (Kd.Q_told (Kd.Q_oldK (IsS115.apartQ (show IsS115 w0 _ g s0_0 t388 t389 from by repeat (first | (with_reducible first | exact HI0.out | apply IsS115.alloc | apply IsS115.drewN | apply IsS115.drew | apply IsS115.set_1 | apply IsS115.set_2 | refine IsS115.far ?_ NB0_356.out _ | refine IsS115.far ?_ NB0_386.out _) | exact HI0.out)) z92_ (by decide)) hk) (Kd.Q_base ho0)) (fun _ h_ => h_.1)); replace HO_8 := Aside0.mk (Kd.R_mono (Kd.R_told (Kd.R_oldK (IsS115.apart (show IsS115 w0 _ g s0_0 t388 t389 from by repeat (first | (with_reducible first | exact HI0.out | apply IsS115.alloc | apply IsS115.drewN | apply IsS115.drew | apply IsS115.set_1 | apply IsS115.set_2 | refine IsS115.far ?_ NB0_356.out _ | refine IsS115.far ?_ NB0_386.out _) | exact HI0.out)) z21_ (by decide)) hk) (Kd.Q_base ho0)) (fun _ h_ => h_.1)); replace HK := Aside0.mk (KeepBut.trans z31_ hk (.inl rfl)); replace HB := Aside0.mk (hb); replace HI0 := Aside0.mk (hi); (try clear hb hk hi ho0)))
    have n0_ := Aside0.mk (Kd.Q_drew HO_7.out)
    have n1_ := Aside0.mk (Kd.R_drew HO_8.out)
    have n2_ := Aside0.mk (Kd.R_drew HO377.out)
    have n3_ := Aside0.mk (Kd.R_drew HO380.out)
    have n4_ := Aside0.mk (Kd.R_drew HO383.out)
    have n5_ := Aside0.mk (Kd.Q_drew HO392.out)
    have n6_ := Aside0.mk (blk_drew BK356.out)
    have n7_ := Aside0.mk (blk_drew BK386.out)
    have n8_ := Aside0.mk (IsS115.drew HI0.out)
    have n9_ := Aside0.mk (keep_drew HK.out)
    have n10_ := Aside0.mk (below_drew1 HB.out)
    clear HO_7
    clear HO_8
    clear HO377
    clear HO380
    clear HO383
    clear HO392
    clear BK356
    clear BK386
    clear HI0
    clear HK
    clear HB
    have HO_7 := n0_
    have HO_8 := n1_
    have HO377 := n2_
    have HO380 := n3_
    have HO383 := n4_
    have HO392 := n5_
    have BK356 := n6_
    have BK386 := n7_
    have HI0 := n8_
    have HK := n9_
    have HB := n10_
    clear n0_ n1_ n2_ n3_ n4_ n5_ n6_ n7_ n8_ n9_ n10_
    refine start_ (n := 6) (S := fun w' => w'.cell? ⟨gb386, 0, none⟩ = some (.slice Ao21 t375.length co21) ∧ w'.cell? ⟨gb386, 1, none⟩ = some (.slice Ao25 t378.length co25) ∧ w'.cell? ⟨gb386, 2, none⟩ = some (.slice Ao26 t381.length co26)) (ds := []) (fl_ 6 0) (by kernel_rfl) rfl (fl_zero _) ⟨(blk_cell BK386.out 0).trans rfl, (blk_cell BK386.out 1).trans rfl, (blk_cell BK386.out 2).trans rfl⟩ (fun hHeld => ?_)
    generalize w28.drew = w29 at HO_7 HO_8 HO377 HO380 HO383 HO392 BK356 BK386 HI0 HK HB hHeld ⊢
    refine pure_ (i := 0) (N := some 34) (v := ?_) (a' := ?_) #[true, false, false, false, false, false] rfl rfl (by kernel_rfl) (fun _ _ _ h => h) (Or.inl ⟨by rfl, ?_⟩) ?_ ?_
    rotate_left
    ·intro w'
     go_simp
     with_reducible rfl
    rotate_left
    ·simp only [Act.put, List.setIfInBounds_toArray, List.set_cons_zero, List.set_cons_succ, i64_w, i32_w]
     rfl
    refine pure_ (i := 1) (N := some 35) (v := ?_) (a' := ?_) #[true, true, false, false, false, false] rfl rfl (by kernel_rfl) (fun _ _ _ h => h) (Or.inl ⟨by rfl, ?_⟩) ?_ ?_
    rotate_left
    ·intro w'
     go_simp
     with_reducible rfl
    rotate_left
    ·simp only [Act.put, List.setIfInBounds_toArray, List.set_cons_zero, List.set_cons_succ, i64_w, i32_w]
     rfl
    refine pure_ (i := 3) (N := some 4) (v := ?_) (a' := ?_) #[true, true, false, true, false, false] rfl rfl (by kernel_rfl) (fun _ _ _ h => h) (Or.inl ⟨by rfl, ?_⟩) ?_ ?_
    rotate_left
    ·intro w'
     go_simp
     with_reducible rfl
    rotate_left
    ·simp only [Act.put, List.setIfInBounds_toArray, List.set_cons_zero, List.set_cons_succ, i64_w, i32_w]
     rfl
    refine pure_ (i := 4) (N := some 5) (v := ?_) (a' := ?_) #[true, true, false, true, true, false] rfl rfl (by kernel_rfl) (fun _ _ _ h => h) (Or.inl ⟨by rfl, ?_⟩) ?_ ?_
    rotate_left
    ·intro w'
     go_simp
     with_reducible rfl
    rotate_left
    ·simp only [Act.put, List.setIfInBounds_toArray, List.set_cons_zero, List.set_cons_succ, i64_w, i32_w]
     rfl
    refine take_ (i := 2) (N := some 36) (v := ?_) (a' := ?_) #[true, true, true, true, true, false] rfl rfl (by kernel_rfl) (fun _ _ _ h => h) (Or.inl ⟨by rfl, ?_⟩) hHeld ?_ ?_
    rotate_left
    ·rintro w' ⟨s0, s1, s2⟩
     go_simp
     with_reducible rfl
    rotate_left
    ·simp only [Act.put, List.setIfInBounds_toArray, List.set_cons_zero, List.set_cons_succ, i64_w, i32_w]
     rfl
    refine one_ (i := 5) (N := none) (fl_ 6 6) rfl rfl (by kernel_rfl) (by decide) (fun K hK => ?_)
    have hs30 : w29.cell? ⟨gb356, 0, none⟩ = some (.slice none 0 0) := (blk_cell BK356.out 0).trans rfl
    have hfs30 := blk_frozen BK356.out 0
    have hns30_1 := NB386_356.out
    have hms30_1 := NB356_386.out
    have hs31 : w29.cell? ⟨gb356, 1, none⟩ = some (.slice none 0 0) := (blk_cell BK356.out 1).trans rfl
    have hfs31 := blk_frozen BK356.out 1
    have hns31_1 := NB386_356.out
    have hms31_1 := NB356_386.out
    have hs32 : w29.cell? ⟨gb356, 2, none⟩ = some (.slice none 0 0) := (blk_cell BK356.out 2).trans rfl
    have hfs32 := blk_frozen BK356.out 2
    have hns32_1 := NB386_356.out
    have hms32_1 := NB356_386.out
    refine skip_ (w1 := ?_) (by rfl) rfl ?_ ?_
    rotate_left
    ·go_simp
     rfl
    refine hK.out _ _ ⟨((cell_far (p := ⟨gb356, _, none⟩) NB386_356.out _).trans (((cell_far (p := ⟨gb356, _, none⟩) NB386_356.out _).trans (((cell_far (p := ⟨gb356, _, none⟩) NB386_356.out _).trans (hHeld.1)))))), ((cell_far (p := ⟨gb356, _, none⟩) NB386_356.out _).trans (((cell_far (p := ⟨gb356, _, none⟩) NB386_356.out _).trans (((cell_far (p := ⟨gb356, _, none⟩) NB386_356.out _).trans (hHeld.2.1)))))), ((cell_far (p := ⟨gb356, _, none⟩) NB386_356.out _).trans (((cell_far (p := ⟨gb356, _, none⟩) NB386_356.out _).trans (((cell_far (p := ⟨gb356, _, none⟩) NB386_356.out _).trans (hHeld.2.2))))))⟩ (fun hHeld => ?_)
    clear hK K
    refine done_ (by kernel_rfl) ?_
    try go_wp2
    refine bodyPost_ret (results_list (rs := [.tmp 4, .tmp 5, .cell 6 33]) rfl (by simp) (.tmp (.tmp (.cell gb356 33 #[.slice Ao21 t375.length co21, .slice Ao25 t378.length co25, .slice Ao26 t381.length co26] (0, 0) _ rfl (by (with_reducible repeat (first | refine blk_drewN ?_ _ | refine blk_drew ?_ | refine blk_alloc ?_ _)); refine blk_put (cs := #[.slice Ao21 t375.length co21, .slice Ao25 t378.length co25, .slice none 0 0]) ?_ 2 _ rfl; (with_reducible repeat (first | refine blk_drewN ?_ _ | refine blk_drew ?_ | refine blk_alloc ?_ _)); refine blk_put (cs := #[.slice Ao21 t375.length co21, .slice none 0 0, .slice none 0 0]) ?_ 1 _ rfl; (with_reducible repeat (first | refine blk_drewN ?_ _ | refine blk_drew ?_ | refine blk_alloc ?_ _)); refine blk_put (cs := #[.slice none 0 0, .slice none 0 0, .slice none 0 0]) ?_ 0 _ rfl; (with_reducible repeat (first | refine blk_drewN ?_ _ | refine blk_drew ?_ | refine blk_alloc ?_ _)); exact BK356.out) Try.underlying33 rfl (by kernel_rfl) .nil)))) rfl ?_
    exact ⟨_, _, _, _, _, z7_, by (with_reducible repeat (first | apply Kd.Q_alloc | apply Kd.Q_drewN | apply Kd.Q_drew)); exact Kd.Q_mono (Kd.Q_far (p := ⟨gb356, 2, none⟩) (Kd.Q_far (p := ⟨gb356, 1, none⟩) (Kd.Q_far (p := ⟨gb356, 0, none⟩) (Kd.Q_types HO392.out BK356.out (by decide)) (fun _ hk => hk.2) (.slice Ao21 t375.length co21)) (fun _ hk => hk.2) (.slice Ao25 t378.length co25)) (fun _ hk => hk.2) (.slice Ao26 t381.length co26)) (fun _ hk => hk.1.2), by (with_reducible repeat (first | apply Kd.R_alloc | apply Kd.R_drewN | apply Kd.R_drew)); exact Kd.R_mono (Kd.R_far (p := ⟨gb356, 2, none⟩) (Kd.R_far (p := ⟨gb356, 1, none⟩) (Kd.R_far (p := ⟨gb356, 0, none⟩) (Kd.R_types HO_8.out BK356.out (by decide)) (fun _ hk => hk.2) (.slice Ao21 t375.length co21)) (fun _ hk => hk.2) (.slice Ao25 t378.length co25)) (fun _ hk => hk.2) (.slice Ao26 t381.length co26)) (fun _ hk => hk.1.2), by (with_reducible repeat (first | apply Kd.R_alloc | apply Kd.R_drewN | apply Kd.R_drew)); exact Kd.R_mono (Kd.R_far (p := ⟨gb356, 2, none⟩) (Kd.R_far (p := ⟨gb356, 1, none⟩) (Kd.R_far (p := ⟨gb356, 0, none⟩) (Kd.R_types HO377.out BK356.out (by decide)) (fun _ hk => hk.2) (.slice Ao21 t375.length co21)) (fun _ hk => hk.2) (.slice Ao25 t378.length co25)) (fun _ hk => hk.2) (.slice Ao26 t381.length co26)) (fun _ hk => ⟨hk.1.1, hk.1.2⟩), Kd.Q_of_R (by (with_reducible repeat (first | apply Kd.R_alloc | apply Kd.R_drewN | apply Kd.R_drew)); exact Kd.R_mono (Kd.R_far (p := ⟨gb356, 2, none⟩) (Kd.R_far (p := ⟨gb356, 1, none⟩) (Kd.R_far (p := ⟨gb356, 0, none⟩) (Kd.R_types HO380.out BK356.out (by decide)) (fun _ hk => hk.2) (.slice Ao21 t375.length co21)) (fun _ hk => hk.2) (.slice Ao25 t378.length co25)) (fun _ hk => hk.2) (.slice Ao26 t381.length co26)) (fun _ hk => ⟨hk.1.1, hk.1.2⟩)), by (with_reducible repeat (first | apply Kd.R_alloc | apply Kd.R_drewN | apply Kd.R_drew)); exact Kd.R_mono (Kd.R_far (p := ⟨gb356, 2, none⟩) (Kd.R_far (p := ⟨gb356, 1, none⟩) (Kd.R_far (p := ⟨gb356, 0, none⟩) (Kd.R_types HO383.out BK356.out (by decide)) (fun _ hk => hk.2) (.slice Ao21 t375.length co21)) (fun _ hk => hk.2) (.slice Ao25 t378.length co25)) (fun _ hk => hk.2) (.slice Ao26 t381.length co26)) (fun _ hk => ⟨hk.1.1, hk.1.2⟩), z43_, z46_, z31_⟩
   ·rw [if_neg c17] at H
    have c17b0 : (t387 == 0) = false := beq_eq_false_iff_ne.mpr c17
    have c17b1 : (t387 != 0) = true := bne_iff_ne.mpr c17
    by_cases c33 : t387 = 1
    ·rw [if_pos c33] at H
     have c33b0 : (t387 == 1) = true := beq_iff_eq.mpr c33
     have c33b1 : (t387 != 1) = false := bne_eq_false_iff_eq.mpr c33
     clear c33
     replace H := Option.bind_eq_some_iff.mp H
     obtain ⟨⟨t395, t398, t401, t404, t405⟩, A340, H⟩ := H
     try dsimp only at H
     have A34 := Aside0.mk A340
     clear A340
     simp only [Option.some.injEq, Prod.mk.injEq] at H
     obtain ⟨rfl, rfl, rfl, rfl, rfl, rfl, rfl⟩ := H
     try go_wp2_with (first | ((with_reducible refine gate_callee (f := 99) rfl ?_); refine goesL_ (some 22) rfl rfl Try.func99 (by kernel_rfl) rfl #[.pointer (some ⟨g, 0, none⟩)] rfl z4_ ?_; (with_reducible refine (spec_l7Cost.calls kj5 g s0_0 x1001_5 x1002_5 t375 t378 t381 t384 t385 w0 _ ?side1 ?side2 A15.out).mono ?_); (case side1 => exact z36_); (case side2 => exact z37_); rintro e w35 ⟨v376, v379, v382, rfl, ho0, ho1, ho2, hi, hb, hk⟩; refine ⟨_, rfl, ?_⟩; replace HO_7 := Aside0.mk (Kd.Q_mono (Kd.Q_keep (IsS115.apartQ (show IsS115 w0 _ g s0_0 x1001_5 x1002_5 from by repeat (first | (with_reducible first | exact HI0.out | apply IsS115.alloc | apply IsS115.drewN | apply IsS115.drew | apply IsS115.set_1 | apply IsS115.set_2 | refine IsS115.far ?_ NB0_356.out _) | exact HI0.out)) z92_ (by decide)) hk (fun _ h => h.2)) (fun _ h => h.1)); replace HO_8 := Aside0.mk (Kd.R_mono (Kd.R_keep (IsS115.apart (show IsS115 w0 _ g s0_0 x1001_5 x1002_5 from by repeat (first | (with_reducible first | exact HI0.out | apply IsS115.alloc | apply IsS115.drewN | apply IsS115.drew | apply IsS115.set_1 | apply IsS115.set_2 | refine IsS115.far ?_ NB0_356.out _) | exact HI0.out)) z21_ (by decide)) hk (fun _ h => h.2)) (fun _ h => h.1)); replace BK356 := Aside0.mk (KeepBut.blk hk (g' := gb356) (o := .cells #[.slice none 0 0, .slice none 0 0, .slice none 0 0] 33 (0, 0)) z42_ NB356_0.out (by simp)); have HO377 := Aside0.mk (Kd.R_lower ho0 (keep_size (w := w) (g := g) (row := none) z10_)); have HO380 := Aside0.mk (Kd.R_lower ho1 (keep_size (w := w) (g := g) (row := none) z10_)); have HO383 := Aside0.mk (Kd.R_lower ho2 (keep_size (w := w) (g := g) (row := none) z10_)); replace HK := Aside0.mk (KeepBut.trans z10_ hk (.inl rfl)); replace HB := Aside0.mk (hb); replace HI0 := Aside0.mk (hi); (try clear hb hk hi ho0 ho1 ho2)) | ((with_reducible refine gate_dst (N := 9) rfl ?_); refine box_event ?hg (N := 9) ?hd (cs := #[.slice none 0 0, .slice none 0 0, .slice none 0 0]) (t := 33) ?hr ?_; (case hd => rfl); (case hg => rfl); (case hr => exact z26_); intro gb386 hg w36 hbox hb; replace HO_7 := Aside0.mk (Kd.Q_below z92_ hb); replace HO_8 := Aside0.mk (Kd.R_below z21_ hb); replace HO377 := Aside0.mk (Kd.R_below z97_ hb); replace HO380 := Aside0.mk (Kd.R_below z98_ hb); replace HO383 := Aside0.mk (Kd.R_below z99_ hb); replace HB := Aside0.mk (below_step z37_ hb); have BK386 := Aside0.mk (hbox); have GW386 := Aside0.mk ((by rw [hg]; exact (keep_size (w := w) (g := g) (row := none) z10_) : w.heap.size ≤ gb386)); have GE386 := Aside0.mk ((Nat.le_trans HW0.out (by rw [hg]; exact (keep_size (w := w) (g := g) (row := none) z10_) : w.heap.size ≤ gb386) : w0.heap.size ≤ gb386)); replace HK := Aside0.mk (KeepBut.trans z10_ (KeepBut.of_below hb g none) (.inl rfl)); have NB356_386 := Aside0.mk ((by rw [hg]; exact Nat.ne_of_lt (blk_lt (g := gb356) (o := .cells #[.slice none 0 0, .slice none 0 0, .slice none 0 0] 33 (0, 0)) z42_) : gb356 ≠ gb386)); have NB386_356 := Aside0.mk ((by rw [hg]; exact Nat.ne_of_gt (blk_lt (g := gb356) (o := .cells #[.slice none 0 0, .slice none 0 0, .slice none 0 0] 33 (0, 0)) z42_) : gb386 ≠ gb356)); replace BK356 := Aside0.mk (blk_below (g := gb356) (o := .cells #[.slice none 0 0, .slice none 0 0, .slice none 0 0] 33 (0, 0)) z42_ hb); have NB0_386 := Aside0.mk ((by rw [hg]; exact Nat.ne_of_lt (IsS115.lt (show IsS115 w0 _ g s0_0 t384 t385 from by repeat (first | (with_reducible first | exact HI0.out | apply IsS115.alloc | apply IsS115.drewN | apply IsS115.drew | apply IsS115.set_1 | apply IsS115.set_2 | refine IsS115.far ?_ NB0_356.out _) | exact HI0.out))) : g ≠ gb386)); have NB386_0 := Aside0.mk ((by rw [hg]; exact Nat.ne_of_gt (IsS115.lt (show IsS115 w0 _ g s0_0 t384 t385 from by repeat (first | (with_reducible first | exact HI0.out | apply IsS115.alloc | apply IsS115.drewN | apply IsS115.drew | apply IsS115.set_1 | apply IsS115.set_2 | refine IsS115.far ?_ NB0_356.out _) | exact HI0.out))) : gb386 ≠ g)); replace HI0 := Aside0.mk (IsS115.below z36_ hb); clear hb hbox hg; obtain ⟨Ao37, co37, eo37⟩ := Kd.R_slice HO377.out; subst eo37; have hnb38 := NB386_356.out; have hnc38 := NB356_386.out; have hnb39 := NB386_0.out; have hnc39 := NB0_386.out; obtain ⟨hcz40_0, hcz40_1, hcz40_2, hfz40_0, hfz40_1, hfz40_2⟩ := bx3_ BK386.out; obtain ⟨Ao41, co41, eo41⟩ := Kd.R_slice HO380.out; subst eo41; obtain ⟨Ao42, co42, eo42⟩ := Kd.R_slice HO383.out; subst eo42) | ((with_reducible refine gate_callee (f := 84) rfl ?_); refine goesL_ (some 24) rfl rfl Try.func84 (by kernel_rfl) rfl #[.pointer (some ⟨g, 0, none⟩), .int .i64 24] rfl z4_ ?_; (with_reducible refine (spec_l1Below.calls g s0_0 t384 t385 24 t387 t388 t389 w0 _ ?side1 ?side2 A16.out).mono ?_); (case side1 => exact z43_); (case side2 => exact z46_); rintro e w43 ⟨rfl, hi, hb, hk⟩; refine ⟨_, rfl, ?_⟩; replace HO_7 := Aside0.mk (Kd.Q_mono (Kd.Q_keep (IsS115.apartQ (show IsS115 w0 _ g s0_0 t384 t385 from by repeat (first | (with_reducible first | exact HI0.out | apply IsS115.alloc | apply IsS115.drewN | apply IsS115.drew | apply IsS115.set_1 | apply IsS115.set_2 | refine IsS115.far ?_ NB0_356.out _ | refine IsS115.far ?_ NB0_386.out _) | exact HI0.out)) (by (with_reducible repeat (first | apply Kd.Q_alloc | apply Kd.Q_drewN | apply Kd.Q_drew)); exact (Kd.Q_mono (Kd.Q_far (p := ⟨gb386, 2, none⟩) (Kd.Q_far (p := ⟨gb386, 1, none⟩) (Kd.Q_far (p := ⟨gb386, 0, none⟩) (Kd.Q_types HO_7.out BK386.out (by decide)) (fun _ hk => hk.2) (.slice Ao37 t375.length co37)) (fun _ hk => hk.2) (.slice Ao41 t378.length co41)) (fun _ hk => hk.2) (.slice Ao42 t381.length co42)) (fun _ h_ => h_.1))) (by decide)) hk (fun _ h => h.2)) (fun _ h => h.1)); replace HO_8 := Aside0.mk (Kd.R_mono (Kd.R_keep (IsS115.apart (show IsS115 w0 _ g s0_0 t384 t385 from by repeat (first | (with_reducible first | exact HI0.out | apply IsS115.alloc | apply IsS115.drewN | apply IsS115.drew | apply IsS115.set_1 | apply IsS115.set_2 | refine IsS115.far ?_ NB0_356.out _ | refine IsS115.far ?_ NB0_386.out _) | exact HI0.out)) (by (with_reducible repeat (first | apply Kd.R_alloc | apply Kd.R_drewN | apply Kd.R_drew)); exact (Kd.R_mono (Kd.R_far (p := ⟨gb386, 2, none⟩) (Kd.R_far (p := ⟨gb386, 1, none⟩) (Kd.R_far (p := ⟨gb386, 0, none⟩) (Kd.R_types HO_8.out BK386.out (by decide)) (fun _ hk => hk.2) (.slice Ao37 t375.length co37)) (fun _ hk => hk.2) (.slice Ao41 t378.length co41)) (fun _ hk => hk.2) (.slice Ao42 t381.length co42)) (fun _ h_ => h_.1))) (by decide)) hk (fun _ h => h.2)) (fun _ h => h.1)); replace BK356 := Aside0.mk (KeepBut.blk hk (g' := gb356) (o := .cells #[.slice none 0 0, .slice none 0 0, .slice none 0 0] 33 (0, 0)) z48_ NB356_0.out (by simp)); replace HO377 := Aside0.mk (Kd.R_mono (Kd.R_keep (IsS115.apart (show IsS115 w0 _ g s0_0 t384 t385 from by repeat (first | (with_reducible first | exact HI0.out | apply IsS115.alloc | apply IsS115.drewN | apply IsS115.drew | apply IsS115.set_1 | apply IsS115.set_2 | refine IsS115.far ?_ NB0_356.out _ | refine IsS115.far ?_ NB0_386.out _) | exact HI0.out)) (by (with_reducible repeat (first | apply Kd.R_alloc | apply Kd.R_drewN | apply Kd.R_drew)); exact (Kd.R_mono (Kd.R_far (p := ⟨gb386, 2, none⟩) (Kd.R_far (p := ⟨gb386, 1, none⟩) (Kd.R_far (p := ⟨gb386, 0, none⟩) (Kd.R_types HO377.out BK386.out (by decide)) (fun _ hk => hk.2) (.slice Ao37 t375.length co37)) (fun _ hk => hk.2) (.slice Ao41 t378.length co41)) (fun _ hk => hk.2) (.slice Ao42 t381.length co42)) (fun _ h_ => h_.1))) (by decide)) hk (fun _ h => h.2)) (fun _ h => h.1)); replace HO380 := Aside0.mk (Kd.R_mono (Kd.R_keep (IsS115.apart (show IsS115 w0 _ g s0_0 t384 t385 from by repeat (first | (with_reducible first | exact HI0.out | apply IsS115.alloc | apply IsS115.drewN | apply IsS115.drew | apply IsS115.set_1 | apply IsS115.set_2 | refine IsS115.far ?_ NB0_356.out _ | refine IsS115.far ?_ NB0_386.out _) | exact HI0.out)) (by (with_reducible repeat (first | apply Kd.R_alloc | apply Kd.R_drewN | apply Kd.R_drew)); exact (Kd.R_mono (Kd.R_far (p := ⟨gb386, 2, none⟩) (Kd.R_far (p := ⟨gb386, 1, none⟩) (Kd.R_far (p := ⟨gb386, 0, none⟩) (Kd.R_types HO380.out BK386.out (by decide)) (fun _ hk => hk.2) (.slice Ao37 t375.length co37)) (fun _ hk => hk.2) (.slice Ao41 t378.length co41)) (fun _ hk => hk.2) (.slice Ao42 t381.length co42)) (fun _ h_ => h_.1))) (by decide)) hk (fun _ h => h.2)) (fun _ h => h.1)); replace HO383 := Aside0.mk (Kd.R_mono (Kd.R_keep (IsS115.apart (show IsS115 w0 _ g s0_0 t384 t385 from by repeat (first | (with_reducible first | exact HI0.out | apply IsS115.alloc | apply IsS115.drewN | apply IsS115.drew | apply IsS115.set_1 | apply IsS115.set_2 | refine IsS115.far ?_ NB0_356.out _ | refine IsS115.far ?_ NB0_386.out _) | exact HI0.out)) (by (with_reducible repeat (first | apply Kd.R_alloc | apply Kd.R_drewN | apply Kd.R_drew)); exact (Kd.R_mono (Kd.R_far (p := ⟨gb386, 2, none⟩) (Kd.R_far (p := ⟨gb386, 1, none⟩) (Kd.R_far (p := ⟨gb386, 0, none⟩) (Kd.R_types HO383.out BK386.out (by decide)) (fun _ hk => hk.2) (.slice Ao37 t375.length co37)) (fun _ hk => hk.2) (.slice Ao41 t378.length co41)) (fun _ hk => hk.2) (.slice Ao42 t381.length co42)) (fun _ h_ => h_.1))) (by decide)) hk (fun _ h => h.2)) (fun _ h => h.1)); replace BK386 := Aside0.mk (KeepBut.blk hk (g' := gb386) (o := .cells #[.slice Ao37 t375.length co37, .slice Ao41 t378.length co41, .slice Ao42 t381.length co42] 33 (0, 0)) (by (with_reducible repeat (first | refine blk_drewN ?_ _ | refine blk_drew ?_ | refine blk_alloc ?_ _)); refine blk_put (cs := #[.slice Ao37 t375.length co37, .slice Ao41 t378.length co41, .slice none 0 0]) ?_ 2 _ rfl; (with_reducible repeat (first | refine blk_drewN ?_ _ | refine blk_drew ?_ | refine blk_alloc ?_ _)); refine blk_put (cs := #[.slice Ao37 t375.length co37, .slice none 0 0, .slice none 0 0]) ?_ 1 _ rfl; (with_reducible repeat (first | refine blk_drewN ?_ _ | refine blk_drew ?_ | refine blk_alloc ?_ _)); refine blk_put (cs := #[.slice none 0 0, .slice none 0 0, .slice none 0 0]) ?_ 0 _ rfl; (with_reducible repeat (first | refine blk_drewN ?_ _ | refine blk_drew ?_ | refine blk_alloc ?_ _)); exact BK386.out) NB386_0.out (by simp)); replace HK := Aside0.mk (KeepBut.trans z31_ hk (.inl rfl)); replace HB := Aside0.mk (hb); replace HI0 := Aside0.mk (hi); (try clear hb hk hi)) | ((with_reducible refine gate_callee (f := 100) rfl ?_); refine goesL_ (some 33) rfl rfl Try.func100 (by kernel_rfl) rfl #[.pointer (some ⟨g, 0, none⟩)] rfl z4_ ?_; (with_reducible refine (spec_l7Any.calls kj5 g s0_0 t388 t389 t395 t398 t401 t404 t405 w0 _ ?side1 ?side2 A34.out).mono ?_); (case side1 => exact z43_); (case side2 => exact z46_); rintro e w44 ⟨v396, v399, v402, rfl, ho0, ho1, ho2, hi, hb, hk⟩; refine ⟨_, rfl, ?_⟩; replace HO_7 := Aside0.mk (Kd.Q_mono (Kd.Q_keep (IsS115.apartQ (show IsS115 w0 _ g s0_0 t388 t389 from by repeat (first | (with_reducible first | exact HI0.out | apply IsS115.alloc | apply IsS115.drewN | apply IsS115.drew | apply IsS115.set_1 | apply IsS115.set_2 | refine IsS115.far ?_ NB0_356.out _ | refine IsS115.far ?_ NB0_386.out _) | exact HI0.out)) z92_ (by decide)) hk (fun _ h => h.2)) (fun _ h => h.1)); replace HO_8 := Aside0.mk (Kd.R_mono (Kd.R_keep (IsS115.apart (show IsS115 w0 _ g s0_0 t388 t389 from by repeat (first | (with_reducible first | exact HI0.out | apply IsS115.alloc | apply IsS115.drewN | apply IsS115.drew | apply IsS115.set_1 | apply IsS115.set_2 | refine IsS115.far ?_ NB0_356.out _ | refine IsS115.far ?_ NB0_386.out _) | exact HI0.out)) z21_ (by decide)) hk (fun _ h => h.2)) (fun _ h => h.1)); replace BK356 := Aside0.mk (KeepBut.blk hk (g' := gb356) (o := .cells #[.slice none 0 0, .slice none 0 0, .slice none 0 0] 33 (0, 0)) z42_ NB356_0.out (by simp)); replace BK386 := Aside0.mk (KeepBut.blk hk (g' := gb386) (o := .cells #[.slice Ao37 t375.length co37, .slice Ao41 t378.length co41, .slice Ao42 t381.length co42] 33 (0, 0)) z192_ NB386_0.out (by simp)); have HO397 := Aside0.mk (Kd.R_lower (Kd.R_new' (Kd.R_new' (Kd.R_new' ho0 (Kd.R_lt z97_)) (Kd.R_lt z98_)) (Kd.R_lt z99_)) (keep_size (w := w) (g := g) (row := none) z31_)); have HO400 := Aside0.mk (Kd.Q_lower (Kd.Q_new' (Kd.Q_new' (Kd.Q_new' ho1 (Kd.R_lt z97_)) (Kd.R_lt z98_)) (Kd.R_lt z99_)) (keep_size (w := w) (g := g) (row := none) z31_)); have HO403 := Aside0.mk (Kd.R_lower (Kd.R_new' (Kd.R_new' (Kd.R_new' ho2 (Kd.R_lt z97_)) (Kd.R_lt z98_)) (Kd.R_lt z99_)) (keep_size (w := w) (g := g) (row := none) z31_)); replace HO377 := Aside0.mk (Kd.R_mono (Kd.R_told (Kd.R_told (Kd.R_told (Kd.R_oldK (IsS115.apart (show IsS115 w0 _ g s0_0 t388 t389 from by repeat (first | (with_reducible first | exact HI0.out | apply IsS115.alloc | apply IsS115.drewN | apply IsS115.drew | apply IsS115.set_1 | apply IsS115.set_2 | refine IsS115.far ?_ NB0_356.out _ | refine IsS115.far ?_ NB0_386.out _) | exact HI0.out)) z97_ (by decide)) hk) (Kd.R_base ho0)) (Kd.Q_base ho1)) (Kd.R_base ho2)) (fun _ h_ => h_.1)); replace HO380 := Aside0.mk (Kd.R_mono (Kd.R_told (Kd.R_told (Kd.R_told (Kd.R_oldK (IsS115.apart (show IsS115 w0 _ g s0_0 t388 t389 from by repeat (first | (with_reducible first | exact HI0.out | apply IsS115.alloc | apply IsS115.drewN | apply IsS115.drew | apply IsS115.set_1 | apply IsS115.set_2 | refine IsS115.far ?_ NB0_356.out _ | refine IsS115.far ?_ NB0_386.out _) | exact HI0.out)) z98_ (by decide)) hk) (Kd.R_base ho0)) (Kd.Q_base ho1)) (Kd.R_base ho2)) (fun _ h_ => h_.1)); replace HO383 := Aside0.mk (Kd.R_mono (Kd.R_told (Kd.R_told (Kd.R_told (Kd.R_oldK (IsS115.apart (show IsS115 w0 _ g s0_0 t388 t389 from by repeat (first | (with_reducible first | exact HI0.out | apply IsS115.alloc | apply IsS115.drewN | apply IsS115.drew | apply IsS115.set_1 | apply IsS115.set_2 | refine IsS115.far ?_ NB0_356.out _ | refine IsS115.far ?_ NB0_386.out _) | exact HI0.out)) z99_ (by decide)) hk) (Kd.R_base ho0)) (Kd.Q_base ho1)) (Kd.R_base ho2)) (fun _ h_ => h_.1)); replace HK := Aside0.mk (KeepBut.trans z31_ hk (.inl rfl)); replace HB := Aside0.mk (hb); replace HI0 := Aside0.mk (hi); (try clear hb hk hi ho0 ho1 ho2); obtain ⟨Ao45, co45, eo45⟩ := Kd.R_slice HO397.out; subst eo45; obtain ⟨hcz46_0, hcz46_1, hcz46_2, hfz46_0, hfz46_1, hfz46_2⟩ := bx3_ BK386.out; obtain ⟨Ao47, co47, eo47, _⟩ := Kd.Q_slice HO400.out; subst eo47; obtain ⟨Ao48, co48, eo48⟩ := Kd.R_slice HO403.out; subst eo48))
     have n0_ : Aside0 (Kd.Q k45 45 (((w44.setCell ⟨gb386, 0, none⟩ (.slice Ao45 t395.length co45)).setCell ⟨gb386, 1, none⟩ (.slice Ao47 t398.length co47)).setCell ⟨gb386, 2, none⟩ (.slice Ao48 t401.length co48)) w.heap.size (fun k_ => some k_ ≠ (u8 : Value).ownBlock) v358 t357) := ⟨by (with_reducible repeat (first | apply Kd.Q_alloc | apply Kd.Q_drewN | apply Kd.Q_drew)); exact Kd.Q_mono (Kd.Q_far (p := ⟨gb386, 2, none⟩) (Kd.Q_far (p := ⟨gb386, 1, none⟩) (Kd.Q_far (p := ⟨gb386, 0, none⟩) (Kd.Q_types HO_7.out BK386.out (by decide)) (fun _ hk => hk.2) (.slice Ao45 t395.length co45)) (fun _ hk => hk.2) (.slice Ao47 t398.length co47)) (fun _ hk => hk.2) (.slice Ao48 t401.length co48)) (fun _ hk => hk.1)⟩
     have n1_ : Aside0 (Kd.R k45 45 (((w44.setCell ⟨gb386, 0, none⟩ (.slice Ao45 t395.length co45)).setCell ⟨gb386, 1, none⟩ (.slice Ao47 t398.length co47)).setCell ⟨gb386, 2, none⟩ (.slice Ao48 t401.length co48)) w.heap.size (fun k_ => some k_ ≠ (v358 : Value).ownBlock) u8 x8_5) := ⟨by (with_reducible repeat (first | apply Kd.R_alloc | apply Kd.R_drewN | apply Kd.R_drew)); exact Kd.R_mono (Kd.R_far (p := ⟨gb386, 2, none⟩) (Kd.R_far (p := ⟨gb386, 1, none⟩) (Kd.R_far (p := ⟨gb386, 0, none⟩) (Kd.R_types HO_8.out BK386.out (by decide)) (fun _ hk => hk.2) (.slice Ao45 t395.length co45)) (fun _ hk => hk.2) (.slice Ao47 t398.length co47)) (fun _ hk => hk.2) (.slice Ao48 t401.length co48)) (fun _ hk => hk.1)⟩
     have n2_ : Aside0 (Kd.R (Kd.int .i64) 3 (((w44.setCell ⟨gb386, 0, none⟩ (.slice Ao45 t395.length co45)).setCell ⟨gb386, 1, none⟩ (.slice Ao47 t398.length co47)).setCell ⟨gb386, 2, none⟩ (.slice Ao48 t401.length co48)) w.heap.size (fun k_ => some k_ ≠ (.slice Ao41 t378.length co41 : Value).ownBlock ∧ some k_ ≠ (.slice Ao42 t381.length co42 : Value).ownBlock ∧ some k_ ≠ (.slice Ao45 t395.length co45 : Value).ownBlock ∧ some k_ ≠ (.slice Ao47 t398.length co47 : Value).ownBlock ∧ some k_ ≠ (.slice Ao48 t401.length co48 : Value).ownBlock) (.slice Ao37 t375.length co37) t375) := ⟨by (with_reducible repeat (first | apply Kd.R_alloc | apply Kd.R_drewN | apply Kd.R_drew)); exact Kd.R_mono (Kd.R_far (p := ⟨gb386, 2, none⟩) (Kd.R_far (p := ⟨gb386, 1, none⟩) (Kd.R_far (p := ⟨gb386, 0, none⟩) (Kd.R_types HO377.out BK386.out (by decide)) (fun _ hk => hk.2) (.slice Ao45 t395.length co45)) (fun _ hk => hk.2) (.slice Ao47 t398.length co47)) (fun _ hk => hk.2) (.slice Ao48 t401.length co48)) (fun _ hk => ⟨hk.1.1.1.1.1, ⟨hk.1.1.1.1.2, ⟨hk.1.1.1.2, ⟨hk.1.1.2, hk.1.2⟩⟩⟩⟩)⟩
     have n3_ : Aside0 (Kd.R (Kd.int .i64) 3 (((w44.setCell ⟨gb386, 0, none⟩ (.slice Ao45 t395.length co45)).setCell ⟨gb386, 1, none⟩ (.slice Ao47 t398.length co47)).setCell ⟨gb386, 2, none⟩ (.slice Ao48 t401.length co48)) w.heap.size (fun k_ => some k_ ≠ (.slice Ao37 t375.length co37 : Value).ownBlock ∧ some k_ ≠ (.slice Ao42 t381.length co42 : Value).ownBlock ∧ some k_ ≠ (.slice Ao45 t395.length co45 : Value).ownBlock ∧ some k_ ≠ (.slice Ao47 t398.length co47 : Value).ownBlock ∧ some k_ ≠ (.slice Ao48 t401.length co48 : Value).ownBlock) (.slice Ao41 t378.length co41) t378) := ⟨by (with_reducible repeat (first | apply Kd.R_alloc | apply Kd.R_drewN | apply Kd.R_drew)); exact Kd.R_mono (Kd.R_far (p := ⟨gb386, 2, none⟩) (Kd.R_far (p := ⟨gb386, 1, none⟩) (Kd.R_far (p := ⟨gb386, 0, none⟩) (Kd.R_types HO380.out BK386.out (by decide)) (fun _ hk => hk.2) (.slice Ao45 t395.length co45)) (fun _ hk => hk.2) (.slice Ao47 t398.length co47)) (fun _ hk => hk.2) (.slice Ao48 t401.length co48)) (fun _ hk => ⟨hk.1.1.1.1.1, ⟨hk.1.1.1.1.2, ⟨hk.1.1.1.2, ⟨hk.1.1.2, hk.1.2⟩⟩⟩⟩)⟩
     have n4_ : Aside0 (Kd.R (Kd.int .i64) 3 (((w44.setCell ⟨gb386, 0, none⟩ (.slice Ao45 t395.length co45)).setCell ⟨gb386, 1, none⟩ (.slice Ao47 t398.length co47)).setCell ⟨gb386, 2, none⟩ (.slice Ao48 t401.length co48)) w.heap.size (fun k_ => some k_ ≠ (.slice Ao37 t375.length co37 : Value).ownBlock ∧ some k_ ≠ (.slice Ao41 t378.length co41 : Value).ownBlock ∧ some k_ ≠ (.slice Ao45 t395.length co45 : Value).ownBlock ∧ some k_ ≠ (.slice Ao47 t398.length co47 : Value).ownBlock ∧ some k_ ≠ (.slice Ao48 t401.length co48 : Value).ownBlock) (.slice Ao42 t381.length co42) t381) := ⟨by (with_reducible repeat (first | apply Kd.R_alloc | apply Kd.R_drewN | apply Kd.R_drew)); exact Kd.R_mono (Kd.R_far (p := ⟨gb386, 2, none⟩) (Kd.R_far (p := ⟨gb386, 1, none⟩) (Kd.R_far (p := ⟨gb386, 0, none⟩) (Kd.R_types HO383.out BK386.out (by decide)) (fun _ hk => hk.2) (.slice Ao45 t395.length co45)) (fun _ hk => hk.2) (.slice Ao47 t398.length co47)) (fun _ hk => hk.2) (.slice Ao48 t401.length co48)) (fun _ hk => ⟨hk.1.1.1.1.1, ⟨hk.1.1.1.1.2, ⟨hk.1.1.1.2, ⟨hk.1.1.2, hk.1.2⟩⟩⟩⟩)⟩
     have n5_ : Aside0 (Kd.R (Kd.int .i64) 3 (((w44.setCell ⟨gb386, 0, none⟩ (.slice Ao45 t395.length co45)).setCell ⟨gb386, 1, none⟩ (.slice Ao47 t398.length co47)).setCell ⟨gb386, 2, none⟩ (.slice Ao48 t401.length co48)) w.heap.size (fun k_ => some k_ ≠ (.slice Ao37 t375.length co37 : Value).ownBlock ∧ some k_ ≠ (.slice Ao41 t378.length co41 : Value).ownBlock ∧ some k_ ≠ (.slice Ao42 t381.length co42 : Value).ownBlock ∧ some k_ ≠ (.slice Ao47 t398.length co47 : Value).ownBlock ∧ some k_ ≠ (.slice Ao48 t401.length co48 : Value).ownBlock) (.slice Ao45 t395.length co45) t395) := ⟨by (with_reducible repeat (first | apply Kd.R_alloc | apply Kd.R_drewN | apply Kd.R_drew)); exact Kd.R_mono (Kd.R_far (p := ⟨gb386, 2, none⟩) (Kd.R_far (p := ⟨gb386, 1, none⟩) (Kd.R_far (p := ⟨gb386, 0, none⟩) (Kd.R_types HO397.out BK386.out (by decide)) (fun _ hk => hk.2) (.slice Ao45 t395.length co45)) (fun _ hk => hk.2) (.slice Ao47 t398.length co47)) (fun _ hk => hk.2) (.slice Ao48 t401.length co48)) (fun _ hk => ⟨hk.1.1.1.2, ⟨hk.1.1.2, ⟨hk.1.2, ⟨hk.1.1.1.1.1, hk.1.1.1.1.2⟩⟩⟩⟩)⟩
     have n6_ : Aside0 (Kd.Q (Kd.int .i64) 3 (((w44.setCell ⟨gb386, 0, none⟩ (.slice Ao45 t395.length co45)).setCell ⟨gb386, 1, none⟩ (.slice Ao47 t398.length co47)).setCell ⟨gb386, 2, none⟩ (.slice Ao48 t401.length co48)) w.heap.size (fun k_ => some k_ ≠ (.slice Ao37 t375.length co37 : Value).ownBlock ∧ some k_ ≠ (.slice Ao41 t378.length co41 : Value).ownBlock ∧ some k_ ≠ (.slice Ao42 t381.length co42 : Value).ownBlock ∧ some k_ ≠ (.slice Ao45 t395.length co45 : Value).ownBlock ∧ some k_ ≠ (.slice Ao48 t401.length co48 : Value).ownBlock) (.slice Ao47 t398.length co47) t398) := ⟨by (with_reducible repeat (first | apply Kd.Q_alloc | apply Kd.Q_drewN | apply Kd.Q_drew)); exact Kd.Q_mono (Kd.Q_far (p := ⟨gb386, 2, none⟩) (Kd.Q_far (p := ⟨gb386, 1, none⟩) (Kd.Q_far (p := ⟨gb386, 0, none⟩) (Kd.Q_types HO400.out BK386.out (by decide)) (fun _ hk => hk.2) (.slice Ao45 t395.length co45)) (fun _ hk => hk.2) (.slice Ao47 t398.length co47)) (fun _ hk => hk.2) (.slice Ao48 t401.length co48)) (fun _ hk => ⟨hk.1.1.1.2, ⟨hk.1.1.2, ⟨hk.1.2, ⟨hk.1.1.1.1.1, hk.1.1.1.1.2⟩⟩⟩⟩)⟩
     have n7_ : Aside0 (Kd.R (Kd.int .i64) 3 (((w44.setCell ⟨gb386, 0, none⟩ (.slice Ao45 t395.length co45)).setCell ⟨gb386, 1, none⟩ (.slice Ao47 t398.length co47)).setCell ⟨gb386, 2, none⟩ (.slice Ao48 t401.length co48)) w.heap.size (fun k_ => some k_ ≠ (.slice Ao37 t375.length co37 : Value).ownBlock ∧ some k_ ≠ (.slice Ao41 t378.length co41 : Value).ownBlock ∧ some k_ ≠ (.slice Ao42 t381.length co42 : Value).ownBlock ∧ some k_ ≠ (.slice Ao45 t395.length co45 : Value).ownBlock ∧ some k_ ≠ (.slice Ao47 t398.length co47 : Value).ownBlock) (.slice Ao48 t401.length co48) t401) := ⟨by (with_reducible repeat (first | apply Kd.R_alloc | apply Kd.R_drewN | apply Kd.R_drew)); exact Kd.R_mono (Kd.R_far (p := ⟨gb386, 2, none⟩) (Kd.R_far (p := ⟨gb386, 1, none⟩) (Kd.R_far (p := ⟨gb386, 0, none⟩) (Kd.R_types HO403.out BK386.out (by decide)) (fun _ hk => hk.2) (.slice Ao45 t395.length co45)) (fun _ hk => hk.2) (.slice Ao47 t398.length co47)) (fun _ hk => hk.2) (.slice Ao48 t401.length co48)) (fun _ hk => ⟨hk.1.1.1.2, ⟨hk.1.1.2, ⟨hk.1.2, ⟨hk.1.1.1.1.1, hk.1.1.1.1.2⟩⟩⟩⟩)⟩
     have n8_ : Aside0 ((((w44.setCell ⟨gb386, 0, none⟩ (.slice Ao45 t395.length co45)).setCell ⟨gb386, 1, none⟩ (.slice Ao47 t398.length co47)).setCell ⟨gb386, 2, none⟩ (.slice Ao48 t401.length co48)).heap[gb356]? = some (.cells #[.slice none 0 0, .slice none 0 0, .slice none 0 0] 33 (0, 0))) := ⟨z48_⟩
     have n9_ : Aside0 ((((w44.setCell ⟨gb386, 0, none⟩ (.slice Ao45 t395.length co45)).setCell ⟨gb386, 1, none⟩ (.slice Ao47 t398.length co47)).setCell ⟨gb386, 2, none⟩ (.slice Ao48 t401.length co48)).heap[gb386]? = some (.cells #[.slice Ao45 t395.length co45, .slice Ao47 t398.length co47, .slice Ao48 t401.length co48] 33 (0, 0))) := ⟨by (with_reducible repeat (first | refine blk_drewN ?_ _ | refine blk_drew ?_ | refine blk_alloc ?_ _)); refine blk_put (cs := #[.slice Ao45 t395.length co45, .slice Ao47 t398.length co47, .slice Ao42 t381.length co42]) ?_ 2 _ rfl; (with_reducible repeat (first | refine blk_drewN ?_ _ | refine blk_drew ?_ | refine blk_alloc ?_ _)); refine blk_put (cs := #[.slice Ao45 t395.length co45, .slice Ao41 t378.length co41, .slice Ao42 t381.length co42]) ?_ 1 _ rfl; (with_reducible repeat (first | refine blk_drewN ?_ _ | refine blk_drew ?_ | refine blk_alloc ?_ _)); refine blk_put (cs := #[.slice Ao37 t375.length co37, .slice Ao41 t378.length co41, .slice Ao42 t381.length co42]) ?_ 0 _ rfl; (with_reducible repeat (first | refine blk_drewN ?_ _ | refine blk_drew ?_ | refine blk_alloc ?_ _)); exact BK386.out⟩
     have n10_ : Aside0 (IsS115 w0 (((w44.setCell ⟨gb386, 0, none⟩ (.slice Ao45 t395.length co45)).setCell ⟨gb386, 1, none⟩ (.slice Ao47 t398.length co47)).setCell ⟨gb386, 2, none⟩ (.slice Ao48 t401.length co48)) g s0_0 t404 t405) := ⟨z43_⟩
     have n11_ : Aside0 (KeepBut w (((w44.setCell ⟨gb386, 0, none⟩ (.slice Ao45 t395.length co45)).setCell ⟨gb386, 1, none⟩ (.slice Ao47 t398.length co47)).setCell ⟨gb386, 2, none⟩ (.slice Ao48 t401.length co48)) g none) := ⟨z31_⟩
     have n12_ : Aside0 (Below w0.heap.size w0 (((w44.setCell ⟨gb386, 0, none⟩ (.slice Ao45 t395.length co45)).setCell ⟨gb386, 1, none⟩ (.slice Ao47 t398.length co47)).setCell ⟨gb386, 2, none⟩ (.slice Ao48 t401.length co48))) := ⟨z46_⟩
     (try clear HO_7)
     (try clear HO_8)
     (try clear HO377)
     (try clear HO380)
     (try clear HO383)
     (try clear HO397)
     (try clear HO400)
     (try clear HO403)
     (try clear BK356)
     (try clear BK386)
     (try clear HI0)
     (try clear HK)
     (try clear HB)
     generalize (((w44.setCell ⟨gb386, 0, none⟩ (.slice Ao45 t395.length co45)).setCell ⟨gb386, 1, none⟩ (.slice Ao47 t398.length co47)).setCell ⟨gb386, 2, none⟩ (.slice Ao48 t401.length co48)) = w49 at n0_ n1_ n2_ n3_ n4_ n5_ n6_ n7_ n8_ n9_ n10_ n11_ n12_ ⊢
     have HO_7 := n0_
     have HO_8 := n1_
     have HO377 := n2_
     have HO380 := n3_
     have HO383 := n4_
     have HO397 := n5_
     have HO400 := n6_
     have HO403 := n7_
     have BK356 := n8_
     have BK386 := n9_
     have HI0 := n10_
     have HK := n11_
     have HB := n12_
     clear n0_ n1_ n2_ n3_ n4_ n5_ n6_ n7_ n8_ n9_ n10_ n11_ n12_
     have n0_ := Aside0.mk (Kd.Q_drew HO_7.out)
     have n1_ := Aside0.mk (Kd.R_drew HO_8.out)
     have n2_ := Aside0.mk (Kd.R_drew HO377.out)
     have n3_ := Aside0.mk (Kd.R_drew HO380.out)
     have n4_ := Aside0.mk (Kd.R_drew HO383.out)
     have n5_ := Aside0.mk (Kd.R_drew HO397.out)
     have n6_ := Aside0.mk (Kd.Q_drew HO400.out)
     have n7_ := Aside0.mk (Kd.R_drew HO403.out)
     have n8_ := Aside0.mk (blk_drew BK356.out)
     have n9_ := Aside0.mk (blk_drew BK386.out)
     have n10_ := Aside0.mk (IsS115.drew HI0.out)
     have n11_ := Aside0.mk (keep_drew HK.out)
     have n12_ := Aside0.mk (below_drew1 HB.out)
     clear HO_7
     clear HO_8
     clear HO377
     clear HO380
     clear HO383
     clear HO397
     clear HO400
     clear HO403
     clear BK356
     clear BK386
     clear HI0
     clear HK
     clear HB
     have HO_7 := n0_
     have HO_8 := n1_
     have HO377 := n2_
     have HO380 := n3_
     have HO383 := n4_
     have HO397 := n5_
     have HO400 := n6_
     have HO403 := n7_
     have BK356 := n8_
     have BK386 := n9_
     have HI0 := n10_
     have HK := n11_
     have HB := n12_
     clear n0_ n1_ n2_ n3_ n4_ n5_ n6_ n7_ n8_ n9_ n10_ n11_ n12_
     refine start_ (n := 6) (S := fun w' => w'.cell? ⟨gb386, 0, none⟩ = some (.slice Ao45 t395.length co45) ∧ w'.cell? ⟨gb386, 1, none⟩ = some (.slice Ao47 t398.length co47) ∧ w'.cell? ⟨gb386, 2, none⟩ = some (.slice Ao48 t401.length co48)) (ds := []) (fl_ 6 0) (by kernel_rfl) rfl (fl_zero _) ⟨(blk_cell BK386.out 0).trans rfl, (blk_cell BK386.out 1).trans rfl, (blk_cell BK386.out 2).trans rfl⟩ (fun hHeld => ?_)
     generalize w49.drew = w50 at HO_7 HO_8 HO377 HO380 HO383 HO397 HO400 HO403 BK356 BK386 HI0 HK HB hHeld ⊢
     refine pure_ (i := 0) (N := some 34) (v := ?_) (a' := ?_) #[true, false, false, false, false, false] rfl rfl (by kernel_rfl) (fun _ _ _ h => h) (Or.inl ⟨by rfl, ?_⟩) ?_ ?_
     rotate_left
     ·intro w'
      go_simp
      with_reducible rfl
     rotate_left
     ·simp only [Act.put, List.setIfInBounds_toArray, List.set_cons_zero, List.set_cons_succ, i64_w, i32_w]
      rfl
     refine pure_ (i := 1) (N := some 35) (v := ?_) (a' := ?_) #[true, true, false, false, false, false] rfl rfl (by kernel_rfl) (fun _ _ _ h => h) (Or.inl ⟨by rfl, ?_⟩) ?_ ?_
     rotate_left
     ·intro w'
      go_simp
      with_reducible rfl
     rotate_left
     ·simp only [Act.put, List.setIfInBounds_toArray, List.set_cons_zero, List.set_cons_succ, i64_w, i32_w]
      rfl
     refine pure_ (i := 3) (N := some 4) (v := ?_) (a' := ?_) #[true, true, false, true, false, false] rfl rfl (by kernel_rfl) (fun _ _ _ h => h) (Or.inl ⟨by rfl, ?_⟩) ?_ ?_
     rotate_left
     ·intro w'
      go_simp
      with_reducible rfl
     rotate_left
     ·simp only [Act.put, List.setIfInBounds_toArray, List.set_cons_zero, List.set_cons_succ, i64_w, i32_w]
      rfl
     refine pure_ (i := 4) (N := some 5) (v := ?_) (a' := ?_) #[true, true, false, true, true, false] rfl rfl (by kernel_rfl) (fun _ _ _ h => h) (Or.inl ⟨by rfl, ?_⟩) ?_ ?_
     rotate_left
     ·intro w'
      go_simp
      with_reducible rfl
     rotate_left
     ·simp only [Act.put, List.setIfInBounds_toArray, List.set_cons_zero, List.set_cons_succ, i64_w, i32_w]
      rfl
     refine take_ (i := 2) (N := some 36) (v := ?_) (a' := ?_) #[true, true, true, true, true, false] rfl rfl (by kernel_rfl) (fun _ _ _ h => h) (Or.inl ⟨by rfl, ?_⟩) hHeld ?_ ?_
     rotate_left
     ·rintro w' ⟨s0, s1, s2⟩
      go_simp
      with_reducible rfl
     rotate_left
     ·simp only [Act.put, List.setIfInBounds_toArray, List.set_cons_zero, List.set_cons_succ, i64_w, i32_w]
      rfl
     refine one_ (i := 5) (N := none) (fl_ 6 6) rfl rfl (by kernel_rfl) (by decide) (fun K hK => ?_)
     have hs51 : w50.cell? ⟨gb356, 0, none⟩ = some (.slice none 0 0) := (blk_cell BK356.out 0).trans rfl
     have hfs51 := blk_frozen BK356.out 0
     have hns51_1 := NB386_356.out
     have hms51_1 := NB356_386.out
     have hs52 : w50.cell? ⟨gb356, 1, none⟩ = some (.slice none 0 0) := (blk_cell BK356.out 1).trans rfl
     have hfs52 := blk_frozen BK356.out 1
     have hns52_1 := NB386_356.out
     have hms52_1 := NB356_386.out
     have hs53 : w50.cell? ⟨gb356, 2, none⟩ = some (.slice none 0 0) := (blk_cell BK356.out 2).trans rfl
     have hfs53 := blk_frozen BK356.out 2
     have hns53_1 := NB386_356.out
     have hms53_1 := NB356_386.out
     refine skip_ (w1 := ?_) (by rfl) rfl ?_ ?_
     rotate_left
     ·go_simp
      rfl
     refine hK.out _ _ ⟨((cell_far (p := ⟨gb356, _, none⟩) NB386_356.out _).trans (((cell_far (p := ⟨gb356, _, none⟩) NB386_356.out _).trans (((cell_far (p := ⟨gb356, _, none⟩) NB386_356.out _).trans (hHeld.1)))))), ((cell_far (p := ⟨gb356, _, none⟩) NB386_356.out _).trans (((cell_far (p := ⟨gb356, _, none⟩) NB386_356.out _).trans (((cell_far (p := ⟨gb356, _, none⟩) NB386_356.out _).trans (hHeld.2.1)))))), ((cell_far (p := ⟨gb356, _, none⟩) NB386_356.out _).trans (((cell_far (p := ⟨gb356, _, none⟩) NB386_356.out _).trans (((cell_far (p := ⟨gb356, _, none⟩) NB386_356.out _).trans (hHeld.2.2))))))⟩ (fun hHeld => ?_)
     clear hK K
     refine done_ (by kernel_rfl) ?_
     try go_wp2
     refine bodyPost_ret (results_list (rs := [.tmp 4, .tmp 5, .cell 6 33]) rfl (by simp) (.tmp (.tmp (.cell gb356 33 #[.slice Ao45 t395.length co45, .slice Ao47 t398.length co47, .slice Ao48 t401.length co48] (0, 0) _ rfl (by (with_reducible repeat (first | refine blk_drewN ?_ _ | refine blk_drew ?_ | refine blk_alloc ?_ _)); refine blk_put (cs := #[.slice Ao45 t395.length co45, .slice Ao47 t398.length co47, .slice none 0 0]) ?_ 2 _ rfl; (with_reducible repeat (first | refine blk_drewN ?_ _ | refine blk_drew ?_ | refine blk_alloc ?_ _)); refine blk_put (cs := #[.slice Ao45 t395.length co45, .slice none 0 0, .slice none 0 0]) ?_ 1 _ rfl; (with_reducible repeat (first | refine blk_drewN ?_ _ | refine blk_drew ?_ | refine blk_alloc ?_ _)); refine blk_put (cs := #[.slice none 0 0, .slice none 0 0, .slice none 0 0]) ?_ 0 _ rfl; (with_reducible repeat (first | refine blk_drewN ?_ _ | refine blk_drew ?_ | refine blk_alloc ?_ _)); exact BK356.out) Try.underlying33 rfl (by kernel_rfl) .nil)))) rfl ?_
     exact ⟨_, _, _, _, _, z7_, by (with_reducible repeat (first | apply Kd.Q_alloc | apply Kd.Q_drewN | apply Kd.Q_drew)); exact Kd.Q_mono (Kd.Q_far (p := ⟨gb356, 2, none⟩) (Kd.Q_far (p := ⟨gb356, 1, none⟩) (Kd.Q_far (p := ⟨gb356, 0, none⟩) (Kd.Q_types HO_7.out BK356.out (by decide)) (fun _ hk => hk.2) (.slice Ao45 t395.length co45)) (fun _ hk => hk.2) (.slice Ao47 t398.length co47)) (fun _ hk => hk.2) (.slice Ao48 t401.length co48)) (fun _ hk => hk.1), by (with_reducible repeat (first | apply Kd.R_alloc | apply Kd.R_drewN | apply Kd.R_drew)); exact Kd.R_mono (Kd.R_far (p := ⟨gb356, 2, none⟩) (Kd.R_far (p := ⟨gb356, 1, none⟩) (Kd.R_far (p := ⟨gb356, 0, none⟩) (Kd.R_types HO_8.out BK356.out (by decide)) (fun _ hk => hk.2) (.slice Ao45 t395.length co45)) (fun _ hk => hk.2) (.slice Ao47 t398.length co47)) (fun _ hk => hk.2) (.slice Ao48 t401.length co48)) (fun _ hk => hk.1), by (with_reducible repeat (first | apply Kd.R_alloc | apply Kd.R_drewN | apply Kd.R_drew)); exact Kd.R_mono (Kd.R_far (p := ⟨gb356, 2, none⟩) (Kd.R_far (p := ⟨gb356, 1, none⟩) (Kd.R_far (p := ⟨gb356, 0, none⟩) (Kd.R_types HO397.out BK356.out (by decide)) (fun _ hk => hk.2) (.slice Ao45 t395.length co45)) (fun _ hk => hk.2) (.slice Ao47 t398.length co47)) (fun _ hk => hk.2) (.slice Ao48 t401.length co48)) (fun _ hk => ⟨hk.1.2.2.2.1, hk.1.2.2.2.2⟩), by (with_reducible repeat (first | apply Kd.Q_alloc | apply Kd.Q_drewN | apply Kd.Q_drew)); exact Kd.Q_mono (Kd.Q_far (p := ⟨gb356, 2, none⟩) (Kd.Q_far (p := ⟨gb356, 1, none⟩) (Kd.Q_far (p := ⟨gb356, 0, none⟩) (Kd.Q_types HO400.out BK356.out (by decide)) (fun _ hk => hk.2) (.slice Ao45 t395.length co45)) (fun _ hk => hk.2) (.slice Ao47 t398.length co47)) (fun _ hk => hk.2) (.slice Ao48 t401.length co48)) (fun _ hk => ⟨hk.1.2.2.2.1, hk.1.2.2.2.2⟩), by (with_reducible repeat (first | apply Kd.R_alloc | apply Kd.R_drewN | apply Kd.R_drew)); exact Kd.R_mono (Kd.R_far (p := ⟨gb356, 2, none⟩) (Kd.R_far (p := ⟨gb356, 1, none⟩) (Kd.R_far (p := ⟨gb356, 0, none⟩) (Kd.R_types HO403.out BK356.out (by decide)) (fun _ hk => hk.2) (.slice Ao45 t395.length co45)) (fun _ hk => hk.2) (.slice Ao47 t398.length co47)) (fun _ hk => hk.2) (.slice Ao48 t401.length co48)) (fun _ hk => ⟨hk.1.2.2.2.1, hk.1.2.2.2.2⟩), z43_, z46_, z31_⟩
    ·rw [if_neg c33] at H
     have c33b0 : (t387 == 1) = false := beq_eq_false_iff_ne.mpr c33
     have c33b1 : (t387 != 1) = true := bne_iff_ne.mpr c33
     simp only [Option.some.injEq, Prod.mk.injEq] at H
     obtain ⟨rfl, rfl, rfl, rfl, rfl, rfl, rfl⟩ := H
     try go_wp2_with (first | ((with_reducible refine gate_callee (f := 99) rfl ?_); refine goesL_ (some 22) rfl rfl Try.func99 (by kernel_rfl) rfl #[.pointer (some ⟨g, 0, none⟩)] rfl z4_ ?_; (with_reducible refine (spec_l7Cost.calls kj5 g s0_0 x1001_5 x1002_5 t375 t378 t381 t384 t385 w0 _ ?side1 ?side2 A15.out).mono ?_); (case side1 => exact z36_); (case side2 => exact z37_); rintro e w54 ⟨v376, v379, v382, rfl, ho0, ho1, ho2, hi, hb, hk⟩; refine ⟨_, rfl, ?_⟩; replace HO_7 := Aside0.mk (Kd.Q_mono (Kd.Q_keep (IsS115.apartQ (show IsS115 w0 _ g s0_0 x1001_5 x1002_5 from by repeat (first | (with_reducible first | exact HI0.out | apply IsS115.alloc | apply IsS115.drewN | apply IsS115.drew | apply IsS115.set_1 | apply IsS115.set_2 | refine IsS115.far ?_ NB0_356.out _) | exact HI0.out)) z92_ (by decide)) hk (fun _ h => h.2)) (fun _ h => h.1)); replace HO_8 := Aside0.mk (Kd.R_mono (Kd.R_keep (IsS115.apart (show IsS115 w0 _ g s0_0 x1001_5 x1002_5 from by repeat (first | (with_reducible first | exact HI0.out | apply IsS115.alloc | apply IsS115.drewN | apply IsS115.drew | apply IsS115.set_1 | apply IsS115.set_2 | refine IsS115.far ?_ NB0_356.out _) | exact HI0.out)) z21_ (by decide)) hk (fun _ h => h.2)) (fun _ h => h.1)); replace BK356 := Aside0.mk (KeepBut.blk hk (g' := gb356) (o := .cells #[.slice none 0 0, .slice none 0 0, .slice none 0 0] 33 (0, 0)) z42_ NB356_0.out (by simp)); have HO377 := Aside0.mk (Kd.R_lower ho0 (keep_size (w := w) (g := g) (row := none) z10_)); have HO380 := Aside0.mk (Kd.R_lower ho1 (keep_size (w := w) (g := g) (row := none) z10_)); have HO383 := Aside0.mk (Kd.R_lower ho2 (keep_size (w := w) (g := g) (row := none) z10_)); replace HK := Aside0.mk (KeepBut.trans z10_ hk (.inl rfl)); replace HB := Aside0.mk (hb); replace HI0 := Aside0.mk (hi); (try clear hb hk hi ho0 ho1 ho2)) | ((with_reducible refine gate_dst (N := 9) rfl ?_); refine box_event ?hg (N := 9) ?hd (cs := #[.slice none 0 0, .slice none 0 0, .slice none 0 0]) (t := 33) ?hr ?_; (case hd => rfl); (case hg => rfl); (case hr => exact z26_); intro gb386 hg w55 hbox hb; replace HO_7 := Aside0.mk (Kd.Q_below z92_ hb); replace HO_8 := Aside0.mk (Kd.R_below z21_ hb); replace HO377 := Aside0.mk (Kd.R_below z97_ hb); replace HO380 := Aside0.mk (Kd.R_below z98_ hb); replace HO383 := Aside0.mk (Kd.R_below z99_ hb); replace HB := Aside0.mk (below_step z37_ hb); have BK386 := Aside0.mk (hbox); have GW386 := Aside0.mk ((by rw [hg]; exact (keep_size (w := w) (g := g) (row := none) z10_) : w.heap.size ≤ gb386)); have GE386 := Aside0.mk ((Nat.le_trans HW0.out (by rw [hg]; exact (keep_size (w := w) (g := g) (row := none) z10_) : w.heap.size ≤ gb386) : w0.heap.size ≤ gb386)); replace HK := Aside0.mk (KeepBut.trans z10_ (KeepBut.of_below hb g none) (.inl rfl)); have NB356_386 := Aside0.mk ((by rw [hg]; exact Nat.ne_of_lt (blk_lt (g := gb356) (o := .cells #[.slice none 0 0, .slice none 0 0, .slice none 0 0] 33 (0, 0)) z42_) : gb356 ≠ gb386)); have NB386_356 := Aside0.mk ((by rw [hg]; exact Nat.ne_of_gt (blk_lt (g := gb356) (o := .cells #[.slice none 0 0, .slice none 0 0, .slice none 0 0] 33 (0, 0)) z42_) : gb386 ≠ gb356)); replace BK356 := Aside0.mk (blk_below (g := gb356) (o := .cells #[.slice none 0 0, .slice none 0 0, .slice none 0 0] 33 (0, 0)) z42_ hb); have NB0_386 := Aside0.mk ((by rw [hg]; exact Nat.ne_of_lt (IsS115.lt (show IsS115 w0 _ g s0_0 t384 t385 from by repeat (first | (with_reducible first | exact HI0.out | apply IsS115.alloc | apply IsS115.drewN | apply IsS115.drew | apply IsS115.set_1 | apply IsS115.set_2 | refine IsS115.far ?_ NB0_356.out _) | exact HI0.out))) : g ≠ gb386)); have NB386_0 := Aside0.mk ((by rw [hg]; exact Nat.ne_of_gt (IsS115.lt (show IsS115 w0 _ g s0_0 t384 t385 from by repeat (first | (with_reducible first | exact HI0.out | apply IsS115.alloc | apply IsS115.drewN | apply IsS115.drew | apply IsS115.set_1 | apply IsS115.set_2 | refine IsS115.far ?_ NB0_356.out _) | exact HI0.out))) : gb386 ≠ g)); replace HI0 := Aside0.mk (IsS115.below z36_ hb); clear hb hbox hg; obtain ⟨Ao56, co56, eo56⟩ := Kd.R_slice HO377.out; subst eo56; have hnb57 := NB386_356.out; have hnc57 := NB356_386.out; have hnb58 := NB386_0.out; have hnc58 := NB0_386.out; obtain ⟨hcz59_0, hcz59_1, hcz59_2, hfz59_0, hfz59_1, hfz59_2⟩ := bx3_ BK386.out; obtain ⟨Ao60, co60, eo60⟩ := Kd.R_slice HO380.out; subst eo60; obtain ⟨Ao61, co61, eo61⟩ := Kd.R_slice HO383.out; subst eo61) | ((with_reducible refine gate_callee (f := 84) rfl ?_); refine goesL_ (some 24) rfl rfl Try.func84 (by kernel_rfl) rfl #[.pointer (some ⟨g, 0, none⟩), .int .i64 24] rfl z4_ ?_; (with_reducible refine (spec_l1Below.calls g s0_0 t384 t385 24 t387 t388 t389 w0 _ ?side1 ?side2 A16.out).mono ?_); (case side1 => exact z43_); (case side2 => exact z46_); rintro e w62 ⟨rfl, hi, hb, hk⟩; refine ⟨_, rfl, ?_⟩; replace HO_7 := Aside0.mk (Kd.Q_mono (Kd.Q_keep (IsS115.apartQ (show IsS115 w0 _ g s0_0 t384 t385 from by repeat (first | (with_reducible first | exact HI0.out | apply IsS115.alloc | apply IsS115.drewN | apply IsS115.drew | apply IsS115.set_1 | apply IsS115.set_2 | refine IsS115.far ?_ NB0_356.out _ | refine IsS115.far ?_ NB0_386.out _) | exact HI0.out)) (by (with_reducible repeat (first | apply Kd.Q_alloc | apply Kd.Q_drewN | apply Kd.Q_drew)); exact (Kd.Q_mono (Kd.Q_far (p := ⟨gb386, 2, none⟩) (Kd.Q_far (p := ⟨gb386, 1, none⟩) (Kd.Q_far (p := ⟨gb386, 0, none⟩) (Kd.Q_types HO_7.out BK386.out (by decide)) (fun _ hk => hk.2) (.slice Ao56 t375.length co56)) (fun _ hk => hk.2) (.slice Ao60 t378.length co60)) (fun _ hk => hk.2) (.slice Ao61 t381.length co61)) (fun _ h_ => h_.1))) (by decide)) hk (fun _ h => h.2)) (fun _ h => h.1)); replace HO_8 := Aside0.mk (Kd.R_mono (Kd.R_keep (IsS115.apart (show IsS115 w0 _ g s0_0 t384 t385 from by repeat (first | (with_reducible first | exact HI0.out | apply IsS115.alloc | apply IsS115.drewN | apply IsS115.drew | apply IsS115.set_1 | apply IsS115.set_2 | refine IsS115.far ?_ NB0_356.out _ | refine IsS115.far ?_ NB0_386.out _) | exact HI0.out)) (by (with_reducible repeat (first | apply Kd.R_alloc | apply Kd.R_drewN | apply Kd.R_drew)); exact (Kd.R_mono (Kd.R_far (p := ⟨gb386, 2, none⟩) (Kd.R_far (p := ⟨gb386, 1, none⟩) (Kd.R_far (p := ⟨gb386, 0, none⟩) (Kd.R_types HO_8.out BK386.out (by decide)) (fun _ hk => hk.2) (.slice Ao56 t375.length co56)) (fun _ hk => hk.2) (.slice Ao60 t378.length co60)) (fun _ hk => hk.2) (.slice Ao61 t381.length co61)) (fun _ h_ => h_.1))) (by decide)) hk (fun _ h => h.2)) (fun _ h => h.1)); replace BK356 := Aside0.mk (KeepBut.blk hk (g' := gb356) (o := .cells #[.slice none 0 0, .slice none 0 0, .slice none 0 0] 33 (0, 0)) z48_ NB356_0.out (by simp)); replace HO377 := Aside0.mk (Kd.R_mono (Kd.R_keep (IsS115.apart (show IsS115 w0 _ g s0_0 t384 t385 from by repeat (first | (with_reducible first | exact HI0.out | apply IsS115.alloc | apply IsS115.drewN | apply IsS115.drew | apply IsS115.set_1 | apply IsS115.set_2 | refine IsS115.far ?_ NB0_356.out _ | refine IsS115.far ?_ NB0_386.out _) | exact HI0.out)) (by (with_reducible repeat (first | apply Kd.R_alloc | apply Kd.R_drewN | apply Kd.R_drew)); exact (Kd.R_mono (Kd.R_far (p := ⟨gb386, 2, none⟩) (Kd.R_far (p := ⟨gb386, 1, none⟩) (Kd.R_far (p := ⟨gb386, 0, none⟩) (Kd.R_types HO377.out BK386.out (by decide)) (fun _ hk => hk.2) (.slice Ao56 t375.length co56)) (fun _ hk => hk.2) (.slice Ao60 t378.length co60)) (fun _ hk => hk.2) (.slice Ao61 t381.length co61)) (fun _ h_ => h_.1))) (by decide)) hk (fun _ h => h.2)) (fun _ h => h.1)); replace HO380 := Aside0.mk (Kd.R_mono (Kd.R_keep (IsS115.apart (show IsS115 w0 _ g s0_0 t384 t385 from by repeat (first | (with_reducible first | exact HI0.out | apply IsS115.alloc | apply IsS115.drewN | apply IsS115.drew | apply IsS115.set_1 | apply IsS115.set_2 | refine IsS115.far ?_ NB0_356.out _ | refine IsS115.far ?_ NB0_386.out _) | exact HI0.out)) (by (with_reducible repeat (first | apply Kd.R_alloc | apply Kd.R_drewN | apply Kd.R_drew)); exact (Kd.R_mono (Kd.R_far (p := ⟨gb386, 2, none⟩) (Kd.R_far (p := ⟨gb386, 1, none⟩) (Kd.R_far (p := ⟨gb386, 0, none⟩) (Kd.R_types HO380.out BK386.out (by decide)) (fun _ hk => hk.2) (.slice Ao56 t375.length co56)) (fun _ hk => hk.2) (.slice Ao60 t378.length co60)) (fun _ hk => hk.2) (.slice Ao61 t381.length co61)) (fun _ h_ => h_.1))) (by decide)) hk (fun _ h => h.2)) (fun _ h => h.1)); replace HO383 := Aside0.mk (Kd.R_mono (Kd.R_keep (IsS115.apart (show IsS115 w0 _ g s0_0 t384 t385 from by repeat (first | (with_reducible first | exact HI0.out | apply IsS115.alloc | apply IsS115.drewN | apply IsS115.drew | apply IsS115.set_1 | apply IsS115.set_2 | refine IsS115.far ?_ NB0_356.out _ | refine IsS115.far ?_ NB0_386.out _) | exact HI0.out)) (by (with_reducible repeat (first | apply Kd.R_alloc | apply Kd.R_drewN | apply Kd.R_drew)); exact (Kd.R_mono (Kd.R_far (p := ⟨gb386, 2, none⟩) (Kd.R_far (p := ⟨gb386, 1, none⟩) (Kd.R_far (p := ⟨gb386, 0, none⟩) (Kd.R_types HO383.out BK386.out (by decide)) (fun _ hk => hk.2) (.slice Ao56 t375.length co56)) (fun _ hk => hk.2) (.slice Ao60 t378.length co60)) (fun _ hk => hk.2) (.slice Ao61 t381.length co61)) (fun _ h_ => h_.1))) (by decide)) hk (fun _ h => h.2)) (fun _ h => h.1)); replace BK386 := Aside0.mk (KeepBut.blk hk (g' := gb386) (o := .cells #[.slice Ao56 t375.length co56, .slice Ao60 t378.length co60, .slice Ao61 t381.length co61] 33 (0, 0)) (by (with_reducible repeat (first | refine blk_drewN ?_ _ | refine blk_drew ?_ | refine blk_alloc ?_ _)); refine blk_put (cs := #[.slice Ao56 t375.length co56, .slice Ao60 t378.length co60, .slice none 0 0]) ?_ 2 _ rfl; (with_reducible repeat (first | refine blk_drewN ?_ _ | refine blk_drew ?_ | refine blk_alloc ?_ _)); refine blk_put (cs := #[.slice Ao56 t375.length co56, .slice none 0 0, .slice none 0 0]) ?_ 1 _ rfl; (with_reducible repeat (first | refine blk_drewN ?_ _ | refine blk_drew ?_ | refine blk_alloc ?_ _)); refine blk_put (cs := #[.slice none 0 0, .slice none 0 0, .slice none 0 0]) ?_ 0 _ rfl; (with_reducible repeat (first | refine blk_drewN ?_ _ | refine blk_drew ?_ | refine blk_alloc ?_ _)); exact BK386.out) NB386_0.out (by simp)); replace HK := Aside0.mk (KeepBut.trans z31_ hk (.inl rfl)); replace HB := Aside0.mk (hb); replace HI0 := Aside0.mk (hi); (try clear hb hk hi)))
     have n0_ := Aside0.mk (Kd.Q_drew HO_7.out)
     have n1_ := Aside0.mk (Kd.R_drew HO_8.out)
     have n2_ := Aside0.mk (Kd.R_drew HO377.out)
     have n3_ := Aside0.mk (Kd.R_drew HO380.out)
     have n4_ := Aside0.mk (Kd.R_drew HO383.out)
     have n5_ := Aside0.mk (blk_drew BK356.out)
     have n6_ := Aside0.mk (blk_drew BK386.out)
     have n7_ := Aside0.mk (IsS115.drew HI0.out)
     have n8_ := Aside0.mk (keep_drew HK.out)
     have n9_ := Aside0.mk (below_drew1 HB.out)
     clear HO_7
     clear HO_8
     clear HO377
     clear HO380
     clear HO383
     clear BK356
     clear BK386
     clear HI0
     clear HK
     clear HB
     have HO_7 := n0_
     have HO_8 := n1_
     have HO377 := n2_
     have HO380 := n3_
     have HO383 := n4_
     have BK356 := n5_
     have BK386 := n6_
     have HI0 := n7_
     have HK := n8_
     have HB := n9_
     clear n0_ n1_ n2_ n3_ n4_ n5_ n6_ n7_ n8_ n9_
     refine start_ (n := 6) (S := fun w' => w'.cell? ⟨gb386, 0, none⟩ = some (.slice Ao56 t375.length co56) ∧ w'.cell? ⟨gb386, 1, none⟩ = some (.slice Ao60 t378.length co60) ∧ w'.cell? ⟨gb386, 2, none⟩ = some (.slice Ao61 t381.length co61)) (ds := []) (fl_ 6 0) (by kernel_rfl) rfl (fl_zero _) ⟨(blk_cell BK386.out 0).trans rfl, (blk_cell BK386.out 1).trans rfl, (blk_cell BK386.out 2).trans rfl⟩ (fun hHeld => ?_)
     generalize w62.drew = w63 at HO_7 HO_8 HO377 HO380 HO383 BK356 BK386 HI0 HK HB hHeld ⊢
     refine pure_ (i := 0) (N := some 34) (v := ?_) (a' := ?_) #[true, false, false, false, false, false] rfl rfl (by kernel_rfl) (fun _ _ _ h => h) (Or.inl ⟨by rfl, ?_⟩) ?_ ?_
     rotate_left
     ·intro w'
      go_simp
      with_reducible rfl
     rotate_left
     ·simp only [Act.put, List.setIfInBounds_toArray, List.set_cons_zero, List.set_cons_succ, i64_w, i32_w]
      rfl
     refine pure_ (i := 1) (N := some 35) (v := ?_) (a' := ?_) #[true, true, false, false, false, false] rfl rfl (by kernel_rfl) (fun _ _ _ h => h) (Or.inl ⟨by rfl, ?_⟩) ?_ ?_
     rotate_left
     ·intro w'
      go_simp
      with_reducible rfl
     rotate_left
     ·simp only [Act.put, List.setIfInBounds_toArray, List.set_cons_zero, List.set_cons_succ, i64_w, i32_w]
      rfl
     refine pure_ (i := 3) (N := some 4) (v := ?_) (a' := ?_) #[true, true, false, true, false, false] rfl rfl (by kernel_rfl) (fun _ _ _ h => h) (Or.inl ⟨by rfl, ?_⟩) ?_ ?_
     rotate_left
     ·intro w'
      go_simp
      with_reducible rfl
     rotate_left
     ·simp only [Act.put, List.setIfInBounds_toArray, List.set_cons_zero, List.set_cons_succ, i64_w, i32_w]
      rfl
     refine pure_ (i := 4) (N := some 5) (v := ?_) (a' := ?_) #[true, true, false, true, true, false] rfl rfl (by kernel_rfl) (fun _ _ _ h => h) (Or.inl ⟨by rfl, ?_⟩) ?_ ?_
     rotate_left
     ·intro w'
      go_simp
      with_reducible rfl
     rotate_left
     ·simp only [Act.put, List.setIfInBounds_toArray, List.set_cons_zero, List.set_cons_succ, i64_w, i32_w]
      rfl
     refine take_ (i := 2) (N := some 36) (v := ?_) (a' := ?_) #[true, true, true, true, true, false] rfl rfl (by kernel_rfl) (fun _ _ _ h => h) (Or.inl ⟨by rfl, ?_⟩) hHeld ?_ ?_
     rotate_left
     ·rintro w' ⟨s0, s1, s2⟩
      go_simp
      with_reducible rfl
     rotate_left
     ·simp only [Act.put, List.setIfInBounds_toArray, List.set_cons_zero, List.set_cons_succ, i64_w, i32_w]
      rfl
     refine one_ (i := 5) (N := none) (fl_ 6 6) rfl rfl (by kernel_rfl) (by decide) (fun K hK => ?_)
     have hs64 : w63.cell? ⟨gb356, 0, none⟩ = some (.slice none 0 0) := (blk_cell BK356.out 0).trans rfl
     have hfs64 := blk_frozen BK356.out 0
     have hns64_1 := NB386_356.out
     have hms64_1 := NB356_386.out
     have hs65 : w63.cell? ⟨gb356, 1, none⟩ = some (.slice none 0 0) := (blk_cell BK356.out 1).trans rfl
     have hfs65 := blk_frozen BK356.out 1
     have hns65_1 := NB386_356.out
     have hms65_1 := NB356_386.out
     have hs66 : w63.cell? ⟨gb356, 2, none⟩ = some (.slice none 0 0) := (blk_cell BK356.out 2).trans rfl
     have hfs66 := blk_frozen BK356.out 2
     have hns66_1 := NB386_356.out
     have hms66_1 := NB356_386.out
     refine skip_ (w1 := ?_) (by rfl) rfl ?_ ?_
     rotate_left
     ·go_simp
      rfl
     refine hK.out _ _ ⟨((cell_far (p := ⟨gb356, _, none⟩) NB386_356.out _).trans (((cell_far (p := ⟨gb356, _, none⟩) NB386_356.out _).trans (((cell_far (p := ⟨gb356, _, none⟩) NB386_356.out _).trans (hHeld.1)))))), ((cell_far (p := ⟨gb356, _, none⟩) NB386_356.out _).trans (((cell_far (p := ⟨gb356, _, none⟩) NB386_356.out _).trans (((cell_far (p := ⟨gb356, _, none⟩) NB386_356.out _).trans (hHeld.2.1)))))), ((cell_far (p := ⟨gb356, _, none⟩) NB386_356.out _).trans (((cell_far (p := ⟨gb356, _, none⟩) NB386_356.out _).trans (((cell_far (p := ⟨gb356, _, none⟩) NB386_356.out _).trans (hHeld.2.2))))))⟩ (fun hHeld => ?_)
     clear hK K
     refine done_ (by kernel_rfl) ?_
     try go_wp2
     refine bodyPost_ret (results_list (rs := [.tmp 4, .tmp 5, .cell 6 33]) rfl (by simp) (.tmp (.tmp (.cell gb356 33 #[.slice Ao56 t375.length co56, .slice Ao60 t378.length co60, .slice Ao61 t381.length co61] (0, 0) _ rfl (by (with_reducible repeat (first | refine blk_drewN ?_ _ | refine blk_drew ?_ | refine blk_alloc ?_ _)); refine blk_put (cs := #[.slice Ao56 t375.length co56, .slice Ao60 t378.length co60, .slice none 0 0]) ?_ 2 _ rfl; (with_reducible repeat (first | refine blk_drewN ?_ _ | refine blk_drew ?_ | refine blk_alloc ?_ _)); refine blk_put (cs := #[.slice Ao56 t375.length co56, .slice none 0 0, .slice none 0 0]) ?_ 1 _ rfl; (with_reducible repeat (first | refine blk_drewN ?_ _ | refine blk_drew ?_ | refine blk_alloc ?_ _)); refine blk_put (cs := #[.slice none 0 0, .slice none 0 0, .slice none 0 0]) ?_ 0 _ rfl; (with_reducible repeat (first | refine blk_drewN ?_ _ | refine blk_drew ?_ | refine blk_alloc ?_ _)); exact BK356.out) Try.underlying33 rfl (by kernel_rfl) .nil)))) rfl ?_
     exact ⟨_, _, _, _, _, z7_, by (with_reducible repeat (first | apply Kd.Q_alloc | apply Kd.Q_drewN | apply Kd.Q_drew)); exact Kd.Q_mono (Kd.Q_far (p := ⟨gb356, 2, none⟩) (Kd.Q_far (p := ⟨gb356, 1, none⟩) (Kd.Q_far (p := ⟨gb356, 0, none⟩) (Kd.Q_types HO_7.out BK356.out (by decide)) (fun _ hk => hk.2) (.slice Ao56 t375.length co56)) (fun _ hk => hk.2) (.slice Ao60 t378.length co60)) (fun _ hk => hk.2) (.slice Ao61 t381.length co61)) (fun _ hk => hk.1), by (with_reducible repeat (first | apply Kd.R_alloc | apply Kd.R_drewN | apply Kd.R_drew)); exact Kd.R_mono (Kd.R_far (p := ⟨gb356, 2, none⟩) (Kd.R_far (p := ⟨gb356, 1, none⟩) (Kd.R_far (p := ⟨gb356, 0, none⟩) (Kd.R_types HO_8.out BK356.out (by decide)) (fun _ hk => hk.2) (.slice Ao56 t375.length co56)) (fun _ hk => hk.2) (.slice Ao60 t378.length co60)) (fun _ hk => hk.2) (.slice Ao61 t381.length co61)) (fun _ hk => hk.1), by (with_reducible repeat (first | apply Kd.R_alloc | apply Kd.R_drewN | apply Kd.R_drew)); exact Kd.R_mono (Kd.R_far (p := ⟨gb356, 2, none⟩) (Kd.R_far (p := ⟨gb356, 1, none⟩) (Kd.R_far (p := ⟨gb356, 0, none⟩) (Kd.R_types HO377.out BK356.out (by decide)) (fun _ hk => hk.2) (.slice Ao56 t375.length co56)) (fun _ hk => hk.2) (.slice Ao60 t378.length co60)) (fun _ hk => hk.2) (.slice Ao61 t381.length co61)) (fun _ hk => ⟨hk.1.1, hk.1.2⟩), Kd.Q_of_R (by (with_reducible repeat (first | apply Kd.R_alloc | apply Kd.R_drewN | apply Kd.R_drew)); exact Kd.R_mono (Kd.R_far (p := ⟨gb356, 2, none⟩) (Kd.R_far (p := ⟨gb356, 1, none⟩) (Kd.R_far (p := ⟨gb356, 0, none⟩) (Kd.R_types HO380.out BK356.out (by decide)) (fun _ hk => hk.2) (.slice Ao56 t375.length co56)) (fun _ hk => hk.2) (.slice Ao60 t378.length co60)) (fun _ hk => hk.2) (.slice Ao61 t381.length co61)) (fun _ hk => ⟨hk.1.1, hk.1.2⟩)), by (with_reducible repeat (first | apply Kd.R_alloc | apply Kd.R_drewN | apply Kd.R_drew)); exact Kd.R_mono (Kd.R_far (p := ⟨gb356, 2, none⟩) (Kd.R_far (p := ⟨gb356, 1, none⟩) (Kd.R_far (p := ⟨gb356, 0, none⟩) (Kd.R_types HO383.out BK356.out (by decide)) (fun _ hk => hk.2) (.slice Ao56 t375.length co56)) (fun _ hk => hk.2) (.slice Ao60 t378.length co60)) (fun _ hk => hk.2) (.slice Ao61 t381.length co61)) (fun _ hk => ⟨hk.1.1, hk.1.2⟩), z43_, z46_, z31_⟩

/-! ### spec_l3At: function 43 -/
def spec_l3At.f (k : Nat) (l0 : List (S45)) (a1 : Int) : Option (Bool) := (spec_TreeOk.f k l0).bind fun t406 => (if t406 = true then ((spec_l1In.f a1 0 (wrap64 ((l0.length : Int) - 1))).bind fun t407 => (some t407)) else (some false))
set_option maxHeartbeats 8000000 in
set_option maxRecDepth 100000 in
theorem spec_l3At.calls (k : Nat) (A0 : Option Addr) (c0 : Nat) (l0 : List (S45)) (a1 : Int) (r : Bool) (w : World) (hr0 : Kd.C k45 w A0 l0.length l0) (hc0 : l0.length ≤ c0) (h : spec_l3At.f k l0 a1 = some r) :
  Calls Try.prog 43 #[.slice A0 l0.length c0, .int .i64 a1] w fun e w' => e = .returned (.bool r) ∧ Below w.heap.size w w' := by
 have HR0 := Aside0.mk hr0
 have HC0 := Aside0.mk hc0
 clear hr0 hc0
 have HB := Aside0.mk (Below.refl w.heap.size w)
 have H : ((spec_TreeOk.f k l0).bind fun t406 => (if t406 = true then ((spec_l1In.f a1 0 (wrap64 ((l0.length : Int) - 1))).bind fun t407 => (some t407)) else (some false))) = some r := h
 clear h
 obtain ⟨t406, A3, H⟩ := bnd_ H
 by_cases c4 : t406 = true
 ·subst c4
  replace H := ift_ H
  obtain ⟨t407, A5, H⟩ := bnd_ H
  obtain rfl := Option.some.inj H
  go_enter Try.func43, Try.ntmps43
  go_wp2_with (first | ((with_reducible refine gate_callee (f := 16) rfl ?_); refine goesL_ (some 6) rfl rfl Try.func16 (by kernel_rfl) rfl #[.slice A0 l0.length c0] rfl z4_ ?_; (with_reducible refine (spec_TreeOk.calls k _ _ l0 true _ ?side1 ?side2 A3.out).mono ?_); (case side1 => exact z11_); (case side2 => exact HC0.out); rintro e w6 ⟨rfl, hb⟩; refine ⟨_, rfl, ?_⟩; replace HB := Aside0.mk (below_step z0_ hb); (try clear hb)) | (go_at_call 49; (with_reducible refine (spec_l1In.calls a1 0 (wrap64 ((l0.length : Int) - 1)) t407 _ A5.out).mono ?_); rintro e w' ⟨rfl, ⟨nd, rfl⟩⟩))
  go_ret
  exact ⟨z7_, z0_⟩
 ·replace c4 := Bool.eq_false_iff.mpr c4
  subst c4
  replace H := iff_ H
  obtain rfl := Option.some.inj H
  go_enter Try.func43, Try.ntmps43
  go_wp2_with (first | ((with_reducible refine gate_callee (f := 16) rfl ?_); refine goesL_ (some 6) rfl rfl Try.func16 (by kernel_rfl) rfl #[.slice A0 l0.length c0] rfl z4_ ?_; (with_reducible refine (spec_TreeOk.calls k _ _ l0 false _ ?side1 ?side2 A3.out).mono ?_); (case side1 => exact z11_); (case side2 => exact HC0.out); rintro e w7 ⟨rfl, hb⟩; refine ⟨_, rfl, ?_⟩; replace HB := Aside0.mk (below_step z0_ hb); (try clear hb)))
  go_ret
  exact ⟨z7_, z0_⟩

/-! ### spec_EndOf: function 81 -/
def spec_EndOf.l0 : Nat → List (S45) → Int → Int → Option (Int)
 | 0, _, _, _ => none
 | k + 1, x0, x1, x5 => if x5 < (x0.length : Int) then (if 0 ≤ x5 then (if 0 ≤ x1 then (if x1 < (x0.length : Int) then (if ((rd_T45 x0 x5).f1) > ((rd_T45 x0 x1).f1) then (spec_EndOf.l0 k x0 x1 (wrap64 (x5 + 1))) else (some x5)) else (none)) else (none)) else (none)) else (some x5)
def spec_EndOf.f (k : Nat) (l0 : List (S45)) (a1 : Int) : Option (Int) := (spec_l3At.f k l0 a1).bind fun t408 => (if t408 = true then (spec_EndOf.l0 k l0 a1 (wrap64 (a1 + 1))) else (some (-1)))
set_option maxHeartbeats 8000000 in
set_option maxRecDepth 100000 in
theorem spec_EndOf.calls (k : Nat) (A0 : Option Addr) (c0 : Nat) (l0 : List (S45)) (a1 : Int) (r : Int) (w : World) (hr0 : Kd.C k45 w A0 l0.length l0) (hc0 : l0.length ≤ c0) (h : spec_EndOf.f k l0 a1 = some r) :
  Calls Try.prog 81 #[.slice A0 l0.length c0, .int .i64 a1] w fun e w' => e = .returned (.int .i64 r) ∧ Below w.heap.size w w' := by
 have HR0 := Aside0.mk hr0
 have HC0 := Aside0.mk hc0
 clear hr0 hc0
 have HB := Aside0.mk (Below.refl w.heap.size w)
 have H : ((spec_l3At.f k l0 a1).bind fun t408 => (if t408 = true then (spec_EndOf.l0 k l0 a1 (wrap64 (a1 + 1))) else (some (-1)))) = some r := h
 clear h
 obtain ⟨t408, A3, H⟩ := bnd_ H
 by_cases c4 : t408 = true
 ·subst c4
  replace H := ift_ H
  have H' := Aside0.mk H
  clear H
  go_enter Try.func81, Try.ntmps81
  go_wp2_with (first | (go_at_call 43; (with_reducible refine (spec_l3At.calls k _ _ l0 a1 true _ ?side1 ?side2 A3.out).mono ?_); (case side1 => exact z11_); (case side2 => exact HC0.out); rintro e w5 ⟨rfl, hb⟩; replace HB := Aside0.mk (below_step z0_ hb); (try clear hb)))
  repeat (go_quiet (first | (go_at_call 43; (with_reducible refine (spec_l3At.calls k _ _ l0 a1 true _ ?side1 ?side2 A3.out).mono ?_); (case side1 => exact z11_); (case side2 => exact HC0.out); rintro e w5 ⟨rfl, hb⟩; replace HB := Aside0.mk (below_step z0_ hb); (try clear hb))); try go_wp2_with (first | (go_at_call 43; (with_reducible refine (spec_l3At.calls k _ _ l0 a1 true _ ?side1 ?side2 A3.out).mono ?_); (case side1 => exact z11_); (case side2 => exact HC0.out); rintro e w5 ⟨rfl, hb⟩; replace HB := Aside0.mk (below_step z0_ hb); (try clear hb))))
  go_loopg [5] k (fun kq v5 w' => ∃ (x5_1 : Int), v5 = .int .i64 x5_1 ∧ Aside0 (spec_EndOf.l0 kq l0 a1 x5_1 = some r) ∧ Aside0 (kq ≤ k) ∧ Aside0 (Below w.heap.size w w'))
  case atStart => exact ⟨(wrap64 (a1 + 1)), z9_, H', ⟨Nat.le_refl _⟩, ⟨z0_⟩⟩
  case round =>
   clear H'
   try clear p2
   try clear c4
   obtain ⟨x5_1, rfl, HA, HK1, HB⟩ := hrel
   cases gk with
   | zero => exact absurd HA.out (by simp [spec_EndOf.l0])
   | succ k1 =>
    have H := HA.out
    clear HA
    simp only [spec_EndOf.l0] at H
    by_cases c6 : x5_1 < (l0.length : Int)
    ·rw [if_pos c6] at H
     have c6b0 := decide_eq_true c6
     clear c6
     obtain ⟨c7b0, H⟩ := ifd_ H
     obtain ⟨c8b0, H⟩ := ifd_ H
     obtain ⟨c9b0, H⟩ := ifd_ H
     by_cases c10 : ((rd_T45 l0 x5_1).f1) > ((rd_T45 l0 a1).f1)
     ·rw [if_pos c10] at H
      have c10b0 := decide_eq_true c10
      clear c10
      have H' := Aside0.mk H
      clear H
      obtain ⟨p409, q409, ad409, e409, hx409_0, hx409_1⟩ := atb45_ HR0 HB x5_1
      cases e409
      obtain ⟨p410, q410, ad410, e410, hx410_0, hx410_1⟩ := atb45_ HR0 HB a1
      obtain rfl : ad409 = ad410 := (by injection e410)
      go_wp2
      repeat (go_quiet (fail); try go_wp2)
      go_roundg k1
      case measure => have := HK1.out; omega
      case rel => exact ⟨(wrap64 (x5_1 + 1)), z9_, H', ⟨z140_⟩, ⟨z0_⟩⟩
     ·rw [if_neg c10] at H
      have c10b0 := decide_eq_false c10
      clear c10
      obtain rfl := Option.some.inj H
      obtain ⟨p409, q409, ad409, e409, hx409_0, hx409_1⟩ := atb45_ HR0 HB x5_1
      cases e409
      obtain ⟨p410, q410, ad410, e410, hx410_0, hx410_1⟩ := atb45_ HR0 HB a1
      obtain rfl : ad409 = ad410 := (by injection e410)
      go_wp2
      repeat (go_quiet (fail); try go_wp2)
      go_ret
      exact ⟨z7_, z0_⟩
    ·rw [if_neg c6] at H
     have c6b0 := decide_eq_false c6
     clear c6
     obtain rfl := Option.some.inj H
     go_wp2
     repeat (go_quiet (fail); try go_wp2)
     go_ret
     exact ⟨z7_, z0_⟩
 ·replace c4 := Bool.eq_false_iff.mpr c4
  subst c4
  replace H := iff_ H
  obtain rfl := Option.some.inj H
  go_enter Try.func81, Try.ntmps81
  go_wp2_with (first | (go_at_call 43; (with_reducible refine (spec_l3At.calls k _ _ l0 a1 false _ ?side1 ?side2 A3.out).mono ?_); (case side1 => exact z11_); (case side2 => exact HC0.out); rintro e w11 ⟨rfl, hb⟩; replace HB := Aside0.mk (below_step z0_ hb); (try clear hb)))
  repeat (go_quiet (first | (go_at_call 43; (with_reducible refine (spec_l3At.calls k _ _ l0 a1 false _ ?side1 ?side2 A3.out).mono ?_); (case side1 => exact z11_); (case side2 => exact HC0.out); rintro e w11 ⟨rfl, hb⟩; replace HB := Aside0.mk (below_step z0_ hb); (try clear hb))); try go_wp2_with (first | (go_at_call 43; (with_reducible refine (spec_l3At.calls k _ _ l0 a1 false _ ?side1 ?side2 A3.out).mono ?_); (case side1 => exact z11_); (case side2 => exact HC0.out); rintro e w11 ⟨rfl, hb⟩; replace HB := Aside0.mk (below_step z0_ hb); (try clear hb))))
  go_ret
  exact ⟨z7_, z0_⟩

/-! ### spec_Under: function 44 -/
def spec_Under.f (k : Nat) (l0 : List (S45)) (a1 : Int) (a2 : Int) : Option (Bool) := (spec_l3At.f k l0 a1).bind fun t411 => (if t411 = true then ((spec_l3At.f k l0 a2).bind fun t412 => (if t412 = true then (if a2 > a1 then ((spec_EndOf.f k l0 a1).bind fun t413 => (some (decide (a2 < t413)))) else (some false)) else (some false))) else (some false))
set_option maxHeartbeats 8000000 in
set_option maxRecDepth 100000 in
theorem spec_Under.calls (k : Nat) (A0 : Option Addr) (c0 : Nat) (l0 : List (S45)) (a1 : Int) (a2 : Int) (r : Bool) (w : World) (hr0 : Kd.C k45 w A0 l0.length l0) (hc0 : l0.length ≤ c0) (h : spec_Under.f k l0 a1 a2 = some r) :
  Calls Try.prog 44 #[.slice A0 l0.length c0, .int .i64 a1, .int .i64 a2] w fun e w' => e = .returned (.bool r) ∧ Below w.heap.size w w' := by
 have HR0 := Aside0.mk hr0
 have HC0 := Aside0.mk hc0
 clear hr0 hc0
 have HB := Aside0.mk (Below.refl w.heap.size w)
 have H : ((spec_l3At.f k l0 a1).bind fun t411 => (if t411 = true then ((spec_l3At.f k l0 a2).bind fun t412 => (if t412 = true then (if a2 > a1 then ((spec_EndOf.f k l0 a1).bind fun t413 => (some (decide (a2 < t413)))) else (some false)) else (some false))) else (some false))) = some r := h
 clear h
 obtain ⟨t411, A4, H⟩ := bnd_ H
 by_cases c5 : t411 = true
 ·subst c5
  replace H := ift_ H
  obtain ⟨t412, A6, H⟩ := bnd_ H
  by_cases c7 : t412 = true
  ·subst c7
   replace H := ift_ H
   by_cases c8 : a2 > a1
   ·rw [if_pos c8] at H
    have c8b0 := decide_eq_true c8
    clear c8
    obtain ⟨t413, A9, H⟩ := bnd_ H
    obtain rfl := Option.some.inj H
    go_enter Try.func44, Try.ntmps44
    go_wp2_with (first | ((with_reducible refine gate_callee (f := 43) rfl ?_); refine goesL_ (some 9) rfl rfl Try.func43 (by kernel_rfl) rfl #[.slice A0 l0.length c0, .int .i64 a1] rfl z4_ ?_; (with_reducible refine (spec_l3At.calls k _ _ l0 a1 true _ ?side1 ?side2 A4.out).mono ?_); (case side1 => exact z11_); (case side2 => exact HC0.out); rintro e w10 ⟨rfl, hb⟩; refine ⟨_, rfl, ?_⟩; replace HB := Aside0.mk (below_step z0_ hb); (try clear hb)) | (go_at_call 43; (with_reducible refine (spec_l3At.calls k _ _ l0 a2 true _ ?side1 ?side2 A6.out).mono ?_); (case side1 => exact z8_); (case side2 => exact HC0.out); rintro e w11 ⟨rfl, hb⟩; replace HB := Aside0.mk (below_step z0_ hb); (try clear hb)) | (go_at_call 81; (with_reducible refine (spec_EndOf.calls k _ _ l0 a1 t413 _ ?side1 ?side2 A9.out).mono ?_); (case side1 => exact z8_); (case side2 => exact HC0.out); rintro e w12 ⟨rfl, hb⟩; replace HB := Aside0.mk (below_step z0_ hb); (try clear hb)))
    go_ret
    exact ⟨z7_, z0_⟩
   ·rw [if_neg c8] at H
    have c8b0 := decide_eq_false c8
    clear c8
    obtain rfl := Option.some.inj H
    go_enter Try.func44, Try.ntmps44
    go_wp2_with (first | ((with_reducible refine gate_callee (f := 43) rfl ?_); refine goesL_ (some 9) rfl rfl Try.func43 (by kernel_rfl) rfl #[.slice A0 l0.length c0, .int .i64 a1] rfl z4_ ?_; (with_reducible refine (spec_l3At.calls k _ _ l0 a1 true _ ?side1 ?side2 A4.out).mono ?_); (case side1 => exact z11_); (case side2 => exact HC0.out); rintro e w13 ⟨rfl, hb⟩; refine ⟨_, rfl, ?_⟩; replace HB := Aside0.mk (below_step z0_ hb); (try clear hb)) | (go_at_call 43; (with_reducible refine (spec_l3At.calls k _ _ l0 a2 true _ ?side1 ?side2 A6.out).mono ?_); (case side1 => exact z8_); (case side2 => exact HC0.out); rintro e w14 ⟨rfl, hb⟩; replace HB := Aside0.mk (below_step z0_ hb); (try clear hb)))
    go_ret
    exact ⟨z7_, z0_⟩
  ·replace c7 := Bool.eq_false_iff.mpr c7
   subst c7
   replace H := iff_ H
   obtain rfl := Option.some.inj H
   go_enter Try.func44, Try.ntmps44
   go_wp2_with (first | ((with_reducible refine gate_callee (f := 43) rfl ?_); refine goesL_ (some 9) rfl rfl Try.func43 (by kernel_rfl) rfl #[.slice A0 l0.length c0, .int .i64 a1] rfl z4_ ?_; (with_reducible refine (spec_l3At.calls k _ _ l0 a1 true _ ?side1 ?side2 A4.out).mono ?_); (case side1 => exact z11_); (case side2 => exact HC0.out); rintro e w15 ⟨rfl, hb⟩; refine ⟨_, rfl, ?_⟩; replace HB := Aside0.mk (below_step z0_ hb); (try clear hb)) | (go_at_call 43; (with_reducible refine (spec_l3At.calls k _ _ l0 a2 false _ ?side1 ?side2 A6.out).mono ?_); (case side1 => exact z8_); (case side2 => exact HC0.out); rintro e w16 ⟨rfl, hb⟩; replace HB := Aside0.mk (below_step z0_ hb); (try clear hb)))
   go_ret
   exact ⟨z7_, z0_⟩
 ·replace c5 := Bool.eq_false_iff.mpr c5
  subst c5
  replace H := iff_ H
  obtain rfl := Option.some.inj H
  go_enter Try.func44, Try.ntmps44
  go_wp2_with (first | ((with_reducible refine gate_callee (f := 43) rfl ?_); refine goesL_ (some 9) rfl rfl Try.func43 (by kernel_rfl) rfl #[.slice A0 l0.length c0, .int .i64 a1] rfl z4_ ?_; (with_reducible refine (spec_l3At.calls k _ _ l0 a1 false _ ?side1 ?side2 A4.out).mono ?_); (case side1 => exact z11_); (case side2 => exact HC0.out); rintro e w17 ⟨rfl, hb⟩; refine ⟨_, rfl, ?_⟩; replace HB := Aside0.mk (below_step z0_ hb); (try clear hb)))
  go_ret
  exact ⟨z7_, z0_⟩

end Go.Proofs.Ytbiffnahknkoiaa.PFnKept
