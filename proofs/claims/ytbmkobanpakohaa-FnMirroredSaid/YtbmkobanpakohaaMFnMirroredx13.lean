/- Laid by a program of this session out of the kit's print for the law FnMirrored: what it says of the machine is proved here, function by function; each contract under the conditions that it names. -/
import Derived.Test.YtbmkobanpakohaaMFnMirroredx0
import Derived.Test.YtbmkobanpakohaaMFnMirroredx2
import Derived.Test.YtbmkobanpakohaaMFnMirroredx8
import Derived.Test.YtbmkobanpakohaaMFnMirroredx9
import Derived.Test.YtbmkobanpakohaaMFnMirroredx10
import Derived.Test.YtbmkobanpakohaaMFnMirroredx11
import Derived.Test.YtbmkobanpakohaaMFnMirroredx12
namespace Go.Proofs.Ytbmkobanpakohaa.PFnMirrored
open Go.RowKit Go.Proofs.YtbmkobanpakohaaW.PrintWords Go.Proofs.YtbmkobanpakohaaW.PrintLast Go.Proofs.YtbmkobanpakohaaW.PrintMore
attribute [local go_sem] max2_int min2_int max_two min_two max_three min_three max_four min_four   -- for this text's walks alone
set_option linter.unusedVariables false
set_option linter.unusedSimpArgs false

/-! ### spec_l8Draw: function 56 -/
def spec_l8Draw.j0 : Nat → Int → List (S61) → List (S61) → List Int → Int → Int → Option ((List (S61)) × (List (S61)) × List Int × List Int × List Int × Int × Int)
 | 0, _, _, _, _, _, _ => none
 | k + 1, x1, x7, x8, x1000, x1001, x1002 => (spec_l7Cost.f k x1000 x1001 x1002).bind fun bt514 => ((spec_l1Below.f x1000 bt514.2.2.2.1 bt514.2.2.2.2 24).bind fun bt526 => (if bt526.1 = 0 then ((spec_l3Any.f k x1000 bt526.2.1 bt526.2.2 x1).bind fun bt529 => (some (bt529.1, x8, bt514.1, bt514.2.1, bt514.2.2.1, bt529.2.1, bt529.2.2))) else (if bt526.1 = 1 then ((spec_l7Any.f k x1000 bt526.2.1 bt526.2.2).bind fun bt534 => (some (x7, x8, bt534.1, bt534.2.1, bt534.2.2.1, bt534.2.2.2.1, bt534.2.2.2.2))) else (some (x7, x8, bt514.1, bt514.2.1, bt514.2.2.1, bt526.2.1, bt526.2.2)))))
def spec_l8Draw.f (k : Nat) (s0_0 : List Int) (s0_1 : Int) (s0_2 : Int) (a1 : Int) : Option ((List (S61)) × (List (S61)) × List Int × List Int × List Int × Int × Int) := (spec_l3Tree.f k s0_0 s0_1 s0_2 a1).bind fun bt496 => ((spec_l3Tree.f k s0_0 bt496.2.1 bt496.2.2 a1).bind fun bt501 => ((spec_l1Once.f s0_0 bt501.2.1 bt501.2.2 2).bind fun bt506 => (if bt506.1 = true then ((spec_l3Near.f k s0_0 bt506.2.1 bt506.2.2 bt496.1).bind fun bt509 => (spec_l8Draw.j0 k a1 bt496.1 bt509.1 s0_0 bt509.2.1 bt509.2.2)) else (spec_l8Draw.j0 k a1 bt496.1 bt501.1 s0_0 bt506.2.1 bt506.2.2))))
set_option maxHeartbeats 8000000 in
set_option maxRecDepth 100000 in
theorem spec_l8Draw.calls (k : Nat) (g : Nat) (s0_0 : List Int) (s0_1 : Int) (s0_2 : Int) (a1 : Int) (r1 : List (S61)) (r2 : List (S61)) (r3 : List Int) (r4 : List Int) (r5 : List Int) (r6 : Int) (r7 : Int) (w0 w : World) (hI : IsS86 w0 w g s0_0 s0_1 s0_2) (hB : Below w0.heap.size w0 w) (h : spec_l8Draw.f k s0_0 s0_1 s0_2 a1 = some (r1, r2, r3, r4, r5, r6, r7)) :
  Calls Try.prog 56 #[.pointer (some ⟨g, 0, none⟩), .int .i64 a1] w fun e w' => ∃ v0_ v1_ v2_ v3_ v4_ : Value, e = .returned (.tuple #[v0_, v1_, .agg #[v2_, v3_, v4_]]) ∧ Kd.Q k61 61 w' w.heap.size (fun k_ => some k_ ≠ (v1_ : Value).ownBlock) v0_ r1 ∧ Kd.R k61 61 w' w.heap.size (fun k_ => some k_ ≠ (v0_ : Value).ownBlock) v1_ r2 ∧ Kd.R (Kd.int .i64) 3 w' w.heap.size (fun k_ => some k_ ≠ (v3_ : Value).ownBlock ∧ some k_ ≠ (v4_ : Value).ownBlock) v2_ r3 ∧ Kd.Q (Kd.int .i64) 3 w' w.heap.size (fun k_ => some k_ ≠ (v2_ : Value).ownBlock ∧ some k_ ≠ (v4_ : Value).ownBlock) v3_ r4 ∧ Kd.R (Kd.int .i64) 3 w' w.heap.size (fun k_ => some k_ ≠ (v2_ : Value).ownBlock ∧ some k_ ≠ (v3_ : Value).ownBlock) v4_ r5 ∧ IsS86 w0 w' g s0_0 r6 r7 ∧ Below w0.heap.size w0 w' ∧ KeepBut w w' g none := by
 have hu38 := Try.underlying38
 have HI0 := Aside0.mk hI
 have HK := Aside0.mk (KeepBut.refl w g none)
 have HL := Aside0.mk hB.size
 clear hI
 have HW0 := Aside0.mk hB.size
 have HB := Aside0.mk hB
 clear hB
 have H : ((spec_l3Tree.f k s0_0 s0_1 s0_2 a1).bind fun bt496 => ((spec_l3Tree.f k s0_0 bt496.2.1 bt496.2.2 a1).bind fun bt501 => ((spec_l1Once.f s0_0 bt501.2.1 bt501.2.2 2).bind fun bt506 => (if bt506.1 = true then ((spec_l3Near.f k s0_0 bt506.2.1 bt506.2.2 bt496.1).bind fun bt509 => (spec_l8Draw.j0 k a1 bt496.1 bt509.1 s0_0 bt509.2.1 bt509.2.2)) else (spec_l8Draw.j0 k a1 bt496.1 bt501.1 s0_0 bt506.2.1 bt506.2.2))))) = some (r1, r2, r3, r4, r5, r6, r7) := h
 clear h
 replace H := Option.bind_eq_some_iff.mp H
 obtain ⟨⟨t496, t499, t500⟩, A30, H⟩ := H
 try dsimp only at H
 have A3 := Aside0.mk A30
 clear A30
 replace H := Option.bind_eq_some_iff.mp H
 obtain ⟨⟨t501, t504, t505⟩, A40, H⟩ := H
 try dsimp only at H
 have A4 := Aside0.mk A40
 clear A40
 replace H := Option.bind_eq_some_iff.mp H
 obtain ⟨⟨t506, t507, t508⟩, A50, H⟩ := H
 try dsimp only at H
 have A5 := Aside0.mk A50
 clear A50
 have HC6 := Aside0.mk H
 clear H
 go_enter Try.func56, Try.ntmps56
 go_upto_if 17 with (first | ((with_reducible refine gate_dst (N := 6) rfl ?_); refine box_event ?hg (N := 6) ?hd (cs := #[.slice none 0 0, .slice none 0 0, .slice none 0 0]) (t := 38) ?hr ?_; (case hd => rfl); (case hg => rfl); (case hr => exact z19_); intro gb495 hg w7 hbox hb; replace HB := Aside0.mk (below_step z4_ hb); have BK495 := Aside0.mk (hbox); have GW495 := Aside0.mk ((by rw [hg]; exact (keep_size (w := w) (g := g) (row := none) z2_) : w.heap.size ≤ gb495)); have GE495 := Aside0.mk ((Nat.le_trans HW0.out (by rw [hg]; exact (keep_size (w := w) (g := g) (row := none) z2_) : w.heap.size ≤ gb495) : w0.heap.size ≤ gb495)); replace HK := Aside0.mk (KeepBut.trans z2_ (KeepBut.of_below hb g none) (.inl rfl)); have NB0_495 := Aside0.mk ((by rw [hg]; exact Nat.ne_of_lt (IsS86.lt (show IsS86 w0 _ g s0_0 s0_1 s0_2 from by repeat ((with_reducible exact HI0.out)))) : g ≠ gb495)); have NB495_0 := Aside0.mk ((by rw [hg]; exact Nat.ne_of_gt (IsS86.lt (show IsS86 w0 _ g s0_0 s0_1 s0_2 from by repeat ((with_reducible exact HI0.out)))) : gb495 ≠ g)); replace HI0 := Aside0.mk (IsS86.below z3_ hb); clear hb hbox hg) | ((with_reducible refine gate_callee (f := 53) rfl ?_); refine goesL_ (some 12) rfl rfl Try.func53 (by kernel_rfl) rfl #[.pointer (some ⟨g, 0, none⟩), .int .i64 a1] rfl z1_ ?_; (with_reducible refine (spec_l3Tree.calls k g s0_0 s0_1 s0_2 a1 t496 t499 t500 w0 _ ?side1 ?side2 A3.out).mono ?_); (case side1 => exact z39_); (case side2 => exact z40_); rintro e w8 ⟨v497, rfl, ho0, hi, hb, hk⟩; refine ⟨_, rfl, ?_⟩; replace BK495 := Aside0.mk (KeepBut.blk hk (g' := gb495) (o := .cells #[.slice none 0 0, .slice none 0 0, .slice none 0 0] 38 (0, 0)) z43_ NB495_0.out (by simp)); have HO498 := Aside0.mk (Kd.R_lower ho0 (keep_size (w := w) (g := g) (row := none) z11_)); replace HK := Aside0.mk (KeepBut.trans z11_ hk (.inl rfl)); replace HB := Aside0.mk (hb); replace HI0 := Aside0.mk (hi); (try clear hb hk hi ho0)) | ((with_reducible refine gate_callee (f := 53) rfl ?_); refine goesL_ (some 15) rfl rfl Try.func53 (by kernel_rfl) rfl #[.pointer (some ⟨g, 0, none⟩), .int .i64 a1] rfl z1_ ?_; (with_reducible refine (spec_l3Tree.calls k g s0_0 t499 t500 a1 t501 t504 t505 w0 _ ?side1 ?side2 A4.out).mono ?_); (case side1 => exact z39_); (case side2 => exact z40_); rintro e w9 ⟨v502, rfl, ho0, hi, hb, hk⟩; refine ⟨_, rfl, ?_⟩; replace BK495 := Aside0.mk (KeepBut.blk hk (g' := gb495) (o := .cells #[.slice none 0 0, .slice none 0 0, .slice none 0 0] 38 (0, 0)) z43_ NB495_0.out (by simp)); have HO503 := Aside0.mk (Kd.R_lower (Kd.R_new' ho0 (Kd.R_lt z138_)) (keep_size (w := w) (g := g) (row := none) z11_)); replace HO498 := Aside0.mk (Kd.R_mono (Kd.R_told (Kd.R_oldK (IsS86.apart (show IsS86 w0 _ g s0_0 t499 t500 from by repeat ((with_reducible exact HI0.out))) z138_ (by decide)) hk) (Kd.R_base ho0)) (fun _ h_ => h_.1)); replace HK := Aside0.mk (KeepBut.trans z11_ hk (.inl rfl)); replace HB := Aside0.mk (hb); replace HI0 := Aside0.mk (hi); (try clear hb hk hi ho0)) | ((with_reducible refine gate_callee (f := 51) rfl ?_); refine goesL_ (some 17) rfl rfl Try.func51 (by kernel_rfl) rfl #[.pointer (some ⟨g, 0, none⟩), .int .i64 2] rfl z1_ ?_; (with_reducible refine (spec_l1Once.calls g s0_0 t504 t505 2 t506 t507 t508 w0 _ ?side1 ?side2 A5.out).mono ?_); (case side1 => exact z39_); (case side2 => exact z40_); rintro e w10 ⟨rfl, hi, hb, hk⟩; refine ⟨_, rfl, ?_⟩; replace BK495 := Aside0.mk (KeepBut.blk hk (g' := gb495) (o := .cells #[.slice none 0 0, .slice none 0 0, .slice none 0 0] 38 (0, 0)) z43_ NB495_0.out (by simp)); replace HO498 := Aside0.mk (Kd.R_mono (Kd.R_keep (IsS86.apart (show IsS86 w0 _ g s0_0 t504 t505 from by repeat ((with_reducible exact HI0.out))) z138_ (by decide)) hk (fun _ h => h.2)) (fun _ h => h.1)); replace HO503 := Aside0.mk (Kd.R_mono (Kd.R_keep (IsS86.apart (show IsS86 w0 _ g s0_0 t504 t505 from by repeat ((with_reducible exact HI0.out))) z195_ (by decide)) hk (fun _ h => h.2)) (fun _ h => h.1)); replace HK := Aside0.mk (KeepBut.trans z11_ hk (.inl rfl)); replace HB := Aside0.mk (hb); replace HI0 := Aside0.mk (hi); (try clear hb hk hi)))
 (try simp only [Act.put, List.setIfInBounds_toArray, List.set_cons_zero, List.set_cons_succ])
 go_cut [8] (fun v8 wc => ∃ (kq : Nat) (x8_5 : List (S61)) (x1001_5 : Int) (x1002_5 : Int), Aside0 (spec_l8Draw.j0 kq a1 t496 x8_5 s0_0 x1001_5 x1002_5 = some (r1, r2, r3, r4, r5, r6, r7)) ∧ Aside0 (kq ≤ k) ∧ Aside0 (Kd.Q k61 61 wc w.heap.size (fun k_ => some k_ ≠ (v8 : Value).ownBlock) v497 t496) ∧ Aside0 (Kd.R k61 61 wc w.heap.size (fun k_ => some k_ ≠ (v497 : Value).ownBlock) v8 x8_5) ∧ Aside0 (wc.heap[gb495]? = some (.cells #[(.slice none 0 0), (.slice none 0 0), (.slice none 0 0)] 38 (0, 0))) ∧ Aside0 (IsS86 w0 wc g s0_0 x1001_5 x1002_5) ∧ Aside0 (KeepBut w wc g none) ∧ Aside0 (Below w0.heap.size w0 wc))
 case first =>
  have H := HC6.out
  clear HC6
  by_cases c11 : t506 = true
  ·subst c11
   replace H := ift_ H
   replace H := Option.bind_eq_some_iff.mp H
   obtain ⟨⟨t509, t512, t513⟩, A120, H⟩ := H
   try dsimp only at H
   have A12 := Aside0.mk A120
   clear A120
   have H' := Aside0.mk H
   clear H
   obtain ⟨Ao13, co13, eo13⟩ := Kd.R_slice HO498.out
   subst eo13
   go_wp2_with (((with_reducible refine gate_callee (f := 52) rfl ?_); refine goesL_ (some 20) rfl rfl Try.func52 (by kernel_rfl) rfl #[.pointer (some ⟨g, 0, none⟩), .slice Ao13 t496.length co13] rfl z1_ ?_; (with_reducible refine (spec_l3Near.calls k g s0_0 t507 t508 _ _ t496 t509 t512 t513 w0 _ ?side1 ?side2 ?side3 ?side4 A12.out).mono ?_); (case side1 => exact z39_); (case side2 => exact z40_); (case side3 => exact Kd.C_foot_own (IsS86.apart (show IsS86 w0 _ g s0_0 t507 t508 from by repeat ((with_reducible exact HI0.out))) z138_ (by decide)) (fun _ h_ => h_.2)); (case side4 => exact (Kd.R_reads' HO498.out).2.1); rintro e w14 ⟨v510, rfl, ho0, hi, hb, hk⟩; refine ⟨_, rfl, ?_⟩; replace BK495 := Aside0.mk (KeepBut.blk hk (g' := gb495) (o := .cells #[.slice none 0 0, .slice none 0 0, .slice none 0 0] 38 (0, 0)) z43_ NB495_0.out (by simp)); have HO511 := Aside0.mk (Kd.R_lower (Kd.R_new' (Kd.R_new' ho0 (Kd.R_lt z138_)) (Kd.R_lt z195_)) (keep_size (w := w) (g := g) (row := none) z11_)); replace HO498 := Aside0.mk (Kd.R_mono (Kd.R_told (Kd.R_oldK (IsS86.apart (show IsS86 w0 _ g s0_0 t507 t508 from by repeat ((with_reducible exact HI0.out))) z138_ (by decide)) hk) (Kd.R_base ho0)) (fun _ h_ => h_.1)); replace HO503 := Aside0.mk (Kd.R_mono (Kd.R_told (Kd.R_oldK (IsS86.apart (show IsS86 w0 _ g s0_0 t507 t508 from by repeat ((with_reducible exact HI0.out))) z195_ (by decide)) hk) (Kd.R_base ho0)) (fun _ h_ => h_.1)); replace HK := Aside0.mk (KeepBut.trans z11_ hk (.inl rfl)); replace HB := Aside0.mk (hb); replace HI0 := Aside0.mk (hi); (try clear hb hk hi ho0)))
   go_meet
   case rel => exact ⟨_, (t509), (t512), (t513), H', ⟨z152_⟩, ⟨Kd.Q_of_R z211_⟩, ⟨by exact Kd.R_mono HO511.out (fun _ hk => hk.1.2)⟩, ⟨z43_⟩, ⟨z39_⟩, ⟨z11_⟩, ⟨z40_⟩⟩
  ·replace c11 := Bool.eq_false_iff.mpr c11
   subst c11
   replace H := iff_ H
   have H' := Aside0.mk H
   clear H
   go_wp2
   go_meet
   case rel => exact ⟨_, (t501), (t507), (t508), H', ⟨z152_⟩, ⟨Kd.Q_of_R z211_⟩, ⟨by exact Kd.R_mono HO503.out (fun _ hk => hk.2)⟩, ⟨z43_⟩, ⟨z39_⟩, ⟨z11_⟩, ⟨z40_⟩⟩
 case rest =>
  clear HC6
  obtain ⟨kq, x8_5, x1001_5, x1002_5, HA, HJ5, HO_7, HO_8, BK495, HI0, HK, HB⟩ := hcut
  cases kq with
  | zero => exact absurd HA.out (by simp [spec_l8Draw.j0])
  | succ kj5 =>
   have H := HA.out
   clear HA
   simp only [spec_l8Draw.j0] at H
   replace H := Option.bind_eq_some_iff.mp H
   obtain ⟨⟨t514, t517, t520, t523, t524⟩, A150, H⟩ := H
   try dsimp only at H
   have A15 := Aside0.mk A150
   clear A150
   replace H := Option.bind_eq_some_iff.mp H
   obtain ⟨⟨t526, t527, t528⟩, A160, H⟩ := H
   try dsimp only at H
   have A16 := Aside0.mk A160
   clear A160
   by_cases c17 : t526 = 0
   ·rw [if_pos c17] at H
    have c17b0 : (t526 == 0) = true := beq_iff_eq.mpr c17
    have c17b1 : (t526 != 0) = false := bne_eq_false_iff_eq.mpr c17
    clear c17
    replace H := Option.bind_eq_some_iff.mp H
    obtain ⟨⟨t529, t532, t533⟩, A180, H⟩ := H
    try dsimp only at H
    have A18 := Aside0.mk A180
    clear A180
    simp only [Option.some.injEq, Prod.mk.injEq] at H
    obtain ⟨rfl, rfl, rfl, rfl, rfl, rfl, rfl⟩ := H
    try go_wp2_with (first | ((with_reducible refine gate_callee (f := 65) rfl ?_); refine goesL_ (some 22) rfl rfl Try.func65 (by kernel_rfl) rfl #[.pointer (some ⟨g, 0, none⟩)] rfl z1_ ?_; (with_reducible refine (spec_l7Cost.calls kj5 g s0_0 x1001_5 x1002_5 t514 t517 t520 t523 t524 w0 _ ?side1 ?side2 A15.out).mono ?_); (case side1 => exact z39_); (case side2 => exact z40_); rintro e w19 ⟨v515, v518, v521, rfl, ho0, ho1, ho2, hi, hb, hk⟩; refine ⟨_, rfl, ?_⟩; replace HO_7 := Aside0.mk (Kd.Q_mono (Kd.Q_keep (IsS86.apartQ (show IsS86 w0 _ g s0_0 x1001_5 x1002_5 from by repeat ((with_reducible exact HI0.out))) z90_ (by decide)) hk (fun _ h => h.2)) (fun _ h => h.1)); replace HO_8 := Aside0.mk (Kd.R_mono (Kd.R_keep (IsS86.apart (show IsS86 w0 _ g s0_0 x1001_5 x1002_5 from by repeat ((with_reducible exact HI0.out))) z91_ (by decide)) hk (fun _ h => h.2)) (fun _ h => h.1)); replace BK495 := Aside0.mk (KeepBut.blk hk (g' := gb495) (o := .cells #[.slice none 0 0, .slice none 0 0, .slice none 0 0] 38 (0, 0)) z43_ NB495_0.out (by simp)); have HO516 := Aside0.mk (Kd.R_lower ho0 (keep_size (w := w) (g := g) (row := none) z11_)); have HO519 := Aside0.mk (Kd.R_lower ho1 (keep_size (w := w) (g := g) (row := none) z11_)); have HO522 := Aside0.mk (Kd.R_lower ho2 (keep_size (w := w) (g := g) (row := none) z11_)); replace HK := Aside0.mk (KeepBut.trans z11_ hk (.inl rfl)); replace HB := Aside0.mk (hb); replace HI0 := Aside0.mk (hi); (try clear hb hk hi ho0 ho1 ho2)) | ((with_reducible refine gate_dst (N := 9) rfl ?_); refine box_event ?hg (N := 9) ?hd (cs := #[.slice none 0 0, .slice none 0 0, .slice none 0 0]) (t := 38) ?hr ?_; (case hd => rfl); (case hg => rfl); (case hr => exact z19_); intro gb525 hg w20 hbox hb; replace HO_7 := Aside0.mk (Kd.Q_below z90_ hb); replace HO_8 := Aside0.mk (Kd.R_below z91_ hb); replace HO516 := Aside0.mk (Kd.R_below z97_ hb); replace HO519 := Aside0.mk (Kd.R_below z98_ hb); replace HO522 := Aside0.mk (Kd.R_below z99_ hb); replace HB := Aside0.mk (below_step z40_ hb); have BK525 := Aside0.mk (hbox); have GW525 := Aside0.mk ((by rw [hg]; exact (keep_size (w := w) (g := g) (row := none) z11_) : w.heap.size ≤ gb525)); have GE525 := Aside0.mk ((Nat.le_trans HW0.out (by rw [hg]; exact (keep_size (w := w) (g := g) (row := none) z11_) : w.heap.size ≤ gb525) : w0.heap.size ≤ gb525)); replace HK := Aside0.mk (KeepBut.trans z11_ (KeepBut.of_below hb g none) (.inl rfl)); have NB495_525 := Aside0.mk ((by rw [hg]; exact Nat.ne_of_lt (blk_lt (g := gb495) (o := .cells #[.slice none 0 0, .slice none 0 0, .slice none 0 0] 38 (0, 0)) z43_) : gb495 ≠ gb525)); have NB525_495 := Aside0.mk ((by rw [hg]; exact Nat.ne_of_gt (blk_lt (g := gb495) (o := .cells #[.slice none 0 0, .slice none 0 0, .slice none 0 0] 38 (0, 0)) z43_) : gb525 ≠ gb495)); replace BK495 := Aside0.mk (blk_below z43_ hb); have NB0_525 := Aside0.mk ((by rw [hg]; exact Nat.ne_of_lt (IsS86.lt (show IsS86 w0 _ g s0_0 t523 t524 from by repeat ((with_reducible exact HI0.out)))) : g ≠ gb525)); have NB525_0 := Aside0.mk ((by rw [hg]; exact Nat.ne_of_gt (IsS86.lt (show IsS86 w0 _ g s0_0 t523 t524 from by repeat ((with_reducible exact HI0.out)))) : gb525 ≠ g)); replace HI0 := Aside0.mk (IsS86.below z39_ hb); clear hb hbox hg; obtain ⟨Ao21, co21, eo21⟩ := Kd.R_slice HO516.out; subst eo21; have hnb22 := NB525_495.out; have hnc22 := NB495_525.out; have hnb23 := NB525_0.out; have hnc23 := NB0_525.out; obtain ⟨hcz24_0, hcz24_1, hcz24_2, hfz24_0, hfz24_1, hfz24_2⟩ := bx3_ BK525.out; obtain ⟨Ao25, co25, eo25⟩ := Kd.R_slice HO519.out; subst eo25; obtain ⟨Ao26, co26, eo26⟩ := Kd.R_slice HO522.out; subst eo26) | ((with_reducible refine gate_callee (f := 64) rfl ?_); refine goesL_ (some 24) rfl rfl Try.func64 (by kernel_rfl) rfl #[.pointer (some ⟨g, 0, none⟩), .int .i64 24] rfl z1_ ?_; (with_reducible refine (spec_l1Below.calls g s0_0 t523 t524 24 t526 t527 t528 w0 _ ?side1 ?side2 A16.out).mono ?_); (case side1 => exact z45_); (case side2 => exact z46_); rintro e w27 ⟨rfl, hi, hb, hk⟩; refine ⟨_, rfl, ?_⟩; replace HO_7 := Aside0.mk (Kd.Q_mono (Kd.Q_keep (IsS86.apartQ (show IsS86 w0 _ g s0_0 t523 t524 from by repeat ((with_reducible first | exact HI0.out | refine IsS86.far ?_ NB0_525.out _))) (by exact (Kd.Q_mono (Kd.Q_far (p := ⟨gb525, 2, none⟩) (Kd.Q_far (p := ⟨gb525, 1, none⟩) (Kd.Q_far (p := ⟨gb525, 0, none⟩) (Kd.Q_types HO_7.out BK525.out (by decide)) (fun _ hk => hk.2) (.slice Ao21 t514.length co21)) (fun _ hk => hk.2) (.slice Ao25 t517.length co25)) (fun _ hk => hk.2) (.slice Ao26 t520.length co26)) (fun _ h_ => h_.1))) (by decide)) hk (fun _ h => h.2)) (fun _ h => h.1)); replace HO_8 := Aside0.mk (Kd.R_mono (Kd.R_keep (IsS86.apart (show IsS86 w0 _ g s0_0 t523 t524 from by repeat ((with_reducible first | exact HI0.out | refine IsS86.far ?_ NB0_525.out _))) (by exact (Kd.R_mono (Kd.R_far (p := ⟨gb525, 2, none⟩) (Kd.R_far (p := ⟨gb525, 1, none⟩) (Kd.R_far (p := ⟨gb525, 0, none⟩) (Kd.R_types HO_8.out BK525.out (by decide)) (fun _ hk => hk.2) (.slice Ao21 t514.length co21)) (fun _ hk => hk.2) (.slice Ao25 t517.length co25)) (fun _ hk => hk.2) (.slice Ao26 t520.length co26)) (fun _ h_ => h_.1))) (by decide)) hk (fun _ h => h.2)) (fun _ h => h.1)); replace BK495 := Aside0.mk (KeepBut.blk hk (g' := gb495) (o := .cells #[.slice none 0 0, .slice none 0 0, .slice none 0 0] 38 (0, 0)) z48_ NB495_0.out (by simp)); replace HO516 := Aside0.mk (Kd.R_mono (Kd.R_keep (IsS86.apart (show IsS86 w0 _ g s0_0 t523 t524 from by repeat ((with_reducible first | exact HI0.out | refine IsS86.far ?_ NB0_525.out _))) (by exact (Kd.R_mono (Kd.R_far (p := ⟨gb525, 2, none⟩) (Kd.R_far (p := ⟨gb525, 1, none⟩) (Kd.R_far (p := ⟨gb525, 0, none⟩) (Kd.R_types HO516.out BK525.out (by decide)) (fun _ hk => hk.2) (.slice Ao21 t514.length co21)) (fun _ hk => hk.2) (.slice Ao25 t517.length co25)) (fun _ hk => hk.2) (.slice Ao26 t520.length co26)) (fun _ h_ => h_.1))) (by decide)) hk (fun _ h => h.2)) (fun _ h => h.1)); replace HO519 := Aside0.mk (Kd.R_mono (Kd.R_keep (IsS86.apart (show IsS86 w0 _ g s0_0 t523 t524 from by repeat ((with_reducible first | exact HI0.out | refine IsS86.far ?_ NB0_525.out _))) (by exact (Kd.R_mono (Kd.R_far (p := ⟨gb525, 2, none⟩) (Kd.R_far (p := ⟨gb525, 1, none⟩) (Kd.R_far (p := ⟨gb525, 0, none⟩) (Kd.R_types HO519.out BK525.out (by decide)) (fun _ hk => hk.2) (.slice Ao21 t514.length co21)) (fun _ hk => hk.2) (.slice Ao25 t517.length co25)) (fun _ hk => hk.2) (.slice Ao26 t520.length co26)) (fun _ h_ => h_.1))) (by decide)) hk (fun _ h => h.2)) (fun _ h => h.1)); replace HO522 := Aside0.mk (Kd.R_mono (Kd.R_keep (IsS86.apart (show IsS86 w0 _ g s0_0 t523 t524 from by repeat ((with_reducible first | exact HI0.out | refine IsS86.far ?_ NB0_525.out _))) (by exact (Kd.R_mono (Kd.R_far (p := ⟨gb525, 2, none⟩) (Kd.R_far (p := ⟨gb525, 1, none⟩) (Kd.R_far (p := ⟨gb525, 0, none⟩) (Kd.R_types HO522.out BK525.out (by decide)) (fun _ hk => hk.2) (.slice Ao21 t514.length co21)) (fun _ hk => hk.2) (.slice Ao25 t517.length co25)) (fun _ hk => hk.2) (.slice Ao26 t520.length co26)) (fun _ h_ => h_.1))) (by decide)) hk (fun _ h => h.2)) (fun _ h => h.1)); replace BK525 := Aside0.mk (KeepBut.blk hk (g' := gb525) (o := .cells #[.slice Ao21 t514.length co21, .slice Ao25 t517.length co25, .slice Ao26 t520.length co26] 38 (0, 0)) (by refine blk_put (cs := #[.slice Ao21 t514.length co21, .slice Ao25 t517.length co25, .slice none 0 0]) ?_ 2 _ rfl; refine blk_put (cs := #[.slice Ao21 t514.length co21, .slice none 0 0, .slice none 0 0]) ?_ 1 _ rfl; refine blk_put (cs := #[.slice none 0 0, .slice none 0 0, .slice none 0 0]) ?_ 0 _ rfl; exact BK525.out) NB525_0.out (by simp)); replace HK := Aside0.mk (KeepBut.trans z32_ hk (.inl rfl)); replace HB := Aside0.mk (hb); replace HI0 := Aside0.mk (hi); (try clear hb hk hi)) | ((with_reducible refine gate_callee (f := 50) rfl ?_); refine goesL_ (some 29) rfl rfl Try.func50 (by kernel_rfl) rfl #[.pointer (some ⟨g, 0, none⟩), .int .i64 a1] rfl z1_ ?_; (with_reducible refine (spec_l3Any.calls kj5 g s0_0 t527 t528 a1 t529 t532 t533 w0 _ ?side1 ?side2 A18.out).mono ?_); (case side1 => exact z45_); (case side2 => exact z46_); rintro e w28 ⟨v530, rfl, ho0, hi, hb, hk⟩; refine ⟨_, rfl, ?_⟩; replace BK495 := Aside0.mk (KeepBut.blk hk (g' := gb495) (o := .cells #[.slice none 0 0, .slice none 0 0, .slice none 0 0] 38 (0, 0)) z43_ NB495_0.out (by simp)); replace HO516 := Aside0.mk (Kd.R_mono (Kd.R_keep (IsS86.apart (show IsS86 w0 _ g s0_0 t527 t528 from by repeat ((with_reducible exact HI0.out))) z97_ (by decide)) hk (fun _ h => h.2)) (fun _ h => h.1)); replace HO519 := Aside0.mk (Kd.R_mono (Kd.R_keep (IsS86.apart (show IsS86 w0 _ g s0_0 t527 t528 from by repeat ((with_reducible exact HI0.out))) z98_ (by decide)) hk (fun _ h => h.2)) (fun _ h => h.1)); replace HO522 := Aside0.mk (Kd.R_mono (Kd.R_keep (IsS86.apart (show IsS86 w0 _ g s0_0 t527 t528 from by repeat ((with_reducible exact HI0.out))) z99_ (by decide)) hk (fun _ h => h.2)) (fun _ h => h.1)); replace BK525 := Aside0.mk (KeepBut.blk hk (g' := gb525) (o := .cells #[.slice Ao21 t514.length co21, .slice Ao25 t517.length co25, .slice Ao26 t520.length co26] 38 (0, 0)) z216_ NB525_0.out (by simp)); have HO531 := Aside0.mk (Kd.Q_lower (Kd.Q_new' (Kd.Q_new' ho0 (Kd.Q_lt z90_)) (Kd.R_lt z91_)) (keep_size (w := w) (g := g) (row := none) z32_)); replace HO_7 := Aside0.mk (Kd.Q_mono (Kd.Q_told (Kd.Q_oldK (IsS86.apartQ (show IsS86 w0 _ g s0_0 t527 t528 from by repeat ((with_reducible exact HI0.out))) z90_ (by decide)) hk) (Kd.Q_base ho0)) (fun _ h_ => h_.1)); replace HO_8 := Aside0.mk (Kd.R_mono (Kd.R_told (Kd.R_oldK (IsS86.apart (show IsS86 w0 _ g s0_0 t527 t528 from by repeat ((with_reducible exact HI0.out))) z91_ (by decide)) hk) (Kd.Q_base ho0)) (fun _ h_ => h_.1)); replace HK := Aside0.mk (KeepBut.trans z32_ hk (.inl rfl)); replace HB := Aside0.mk (hb); replace HI0 := Aside0.mk (hi); (try clear hb hk hi ho0)))
    have n0_ := Aside0.mk (Kd.Q_drew HO_7.out)
    have n1_ := Aside0.mk (Kd.R_drew HO_8.out)
    have n2_ := Aside0.mk (Kd.R_drew HO516.out)
    have n3_ := Aside0.mk (Kd.R_drew HO519.out)
    have n4_ := Aside0.mk (Kd.R_drew HO522.out)
    have n5_ := Aside0.mk (Kd.Q_drew HO531.out)
    have n6_ := Aside0.mk (blk_drew BK495.out)
    have n7_ := Aside0.mk (blk_drew BK525.out)
    have n8_ := Aside0.mk (IsS86.drew HI0.out)
    have n9_ := Aside0.mk (keep_drew HK.out)
    have n10_ := Aside0.mk (below_drew1 HB.out)
    clear HO_7
    clear HO_8
    clear HO516
    clear HO519
    clear HO522
    clear HO531
    clear BK495
    clear BK525
    clear HI0
    clear HK
    clear HB
    have HO_7 := n0_
    have HO_8 := n1_
    have HO516 := n2_
    have HO519 := n3_
    have HO522 := n4_
    have HO531 := n5_
    have BK495 := n6_
    have BK525 := n7_
    have HI0 := n8_
    have HK := n9_
    have HB := n10_
    clear n0_ n1_ n2_ n3_ n4_ n5_ n6_ n7_ n8_ n9_ n10_
    refine start_ (n := 6) (S := fun w' => w'.cell? ⟨gb525, 0, none⟩ = some (.slice Ao21 t514.length co21) ∧ w'.cell? ⟨gb525, 1, none⟩ = some (.slice Ao25 t517.length co25) ∧ w'.cell? ⟨gb525, 2, none⟩ = some (.slice Ao26 t520.length co26)) (ds := []) (fl_ 6 0) (by kernel_rfl) rfl (fl_zero _) ⟨(blk_cell BK525.out 0).trans rfl, (blk_cell BK525.out 1).trans rfl, (blk_cell BK525.out 2).trans rfl⟩ (fun hHeld => ?_)
    generalize w28.drew = w29 at HO_7 HO_8 HO516 HO519 HO522 HO531 BK495 BK525 HI0 HK HB hHeld ⊢
    refine pure_ (i := 0) (N := some 34) (v := ?_) (a' := ?_) #[true, false, false, false, false, false] rfl rfl (by kernel_rfl) (fun _ _ _ h => h) (Or.inl ⟨by rfl, ?_⟩) ?_ ?_
    rotate_left
    ·intro w'
     go_simp
     with_reducible rfl
    rotate_left
    ·simp only [Act.put, List.setIfInBounds_toArray, List.set_cons_zero, List.set_cons_succ, i64_w, i32_w]
     rfl
    refine pure_ (i := 1) (N := some 35) (v := ?_) (a' := ?_) #[true, true, false, false, false, false] rfl rfl (by kernel_rfl) (fun _ _ _ h => h) (Or.inl ⟨by rfl, ?_⟩) ?_ ?_
    rotate_left
    ·intro w'
     go_simp
     with_reducible rfl
    rotate_left
    ·simp only [Act.put, List.setIfInBounds_toArray, List.set_cons_zero, List.set_cons_succ, i64_w, i32_w]
     rfl
    refine pure_ (i := 3) (N := some 4) (v := ?_) (a' := ?_) #[true, true, false, true, false, false] rfl rfl (by kernel_rfl) (fun _ _ _ h => h) (Or.inl ⟨by rfl, ?_⟩) ?_ ?_
    rotate_left
    ·intro w'
     go_simp
     with_reducible rfl
    rotate_left
    ·simp only [Act.put, List.setIfInBounds_toArray, List.set_cons_zero, List.set_cons_succ, i64_w, i32_w]
     rfl
    refine pure_ (i := 4) (N := some 5) (v := ?_) (a' := ?_) #[true, true, false, true, true, false] rfl rfl (by kernel_rfl) (fun _ _ _ h => h) (Or.inl ⟨by rfl, ?_⟩) ?_ ?_
    rotate_left
    ·intro w'
     go_simp
     with_reducible rfl
    rotate_left
    ·simp only [Act.put, List.setIfInBounds_toArray, List.set_cons_zero, List.set_cons_succ, i64_w, i32_w]
     rfl
    refine take_ (i := 2) (N := some 36) (v := ?_) (a' := ?_) #[true, true, true, true, true, false] rfl rfl (by kernel_rfl) (fun _ _ _ h => h) (Or.inl ⟨by rfl, ?_⟩) hHeld ?_ ?_
    rotate_left
    ·rintro w' ⟨s0, s1, s2⟩
     go_simp
     with_reducible rfl
    rotate_left
    ·simp only [Act.put, List.setIfInBounds_toArray, List.set_cons_zero, List.set_cons_succ, i64_w, i32_w]
     rfl
    refine one_ (i := 5) (N := none) (fl_ 6 6) rfl rfl (by kernel_rfl) (by decide) (fun K hK => ?_)
    have hs30 : w29.cell? ⟨gb495, 0, none⟩ = some (.slice none 0 0) := (blk_cell BK495.out 0).trans rfl
    have hfs30 := blk_frozen BK495.out 0
    have hns30_1 := NB525_495.out
    have hms30_1 := NB495_525.out
    have hs31 : w29.cell? ⟨gb495, 1, none⟩ = some (.slice none 0 0) := (blk_cell BK495.out 1).trans rfl
    have hfs31 := blk_frozen BK495.out 1
    have hns31_1 := NB525_495.out
    have hms31_1 := NB495_525.out
    have hs32 : w29.cell? ⟨gb495, 2, none⟩ = some (.slice none 0 0) := (blk_cell BK495.out 2).trans rfl
    have hfs32 := blk_frozen BK495.out 2
    have hns32_1 := NB525_495.out
    have hms32_1 := NB495_525.out
    refine skip_ (w1 := ?_) (by rfl) rfl ?_ ?_
    rotate_left
    ·go_simp
     rfl
    refine hK.out _ _ ⟨((cell_far (p := ⟨gb495, _, none⟩) NB525_495.out _).trans (((cell_far (p := ⟨gb495, _, none⟩) NB525_495.out _).trans (((cell_far (p := ⟨gb495, _, none⟩) NB525_495.out _).trans (hHeld.1)))))), ((cell_far (p := ⟨gb495, _, none⟩) NB525_495.out _).trans (((cell_far (p := ⟨gb495, _, none⟩) NB525_495.out _).trans (((cell_far (p := ⟨gb495, _, none⟩) NB525_495.out _).trans (hHeld.2.1)))))), ((cell_far (p := ⟨gb495, _, none⟩) NB525_495.out _).trans (((cell_far (p := ⟨gb495, _, none⟩) NB525_495.out _).trans (((cell_far (p := ⟨gb495, _, none⟩) NB525_495.out _).trans (hHeld.2.2))))))⟩ (fun hHeld => ?_)
    clear hK K
    refine done_ (by kernel_rfl) ?_
    try go_wp2
    refine bodyPost_ret (results_list (rs := [.tmp 4, .tmp 5, .cell 6 38]) rfl (by simp) (.tmp (.tmp (.cell gb495 38 #[.slice Ao21 t514.length co21, .slice Ao25 t517.length co25, .slice Ao26 t520.length co26] (0, 0) _ rfl (by refine blk_put (cs := #[.slice Ao21 t514.length co21, .slice Ao25 t517.length co25, .slice none 0 0]) ?_ 2 _ rfl; refine blk_put (cs := #[.slice Ao21 t514.length co21, .slice none 0 0, .slice none 0 0]) ?_ 1 _ rfl; refine blk_put (cs := #[.slice none 0 0, .slice none 0 0, .slice none 0 0]) ?_ 0 _ rfl; exact BK495.out) Try.underlying38 rfl (by kernel_rfl) .nil)))) rfl ?_
    exact ⟨_, _, _, _, _, z6_, by exact Kd.Q_mono (Kd.Q_far (p := ⟨gb495, 2, none⟩) (Kd.Q_far (p := ⟨gb495, 1, none⟩) (Kd.Q_far (p := ⟨gb495, 0, none⟩) (Kd.Q_types HO531.out BK495.out (by decide)) (fun _ hk => hk.2) (.slice Ao21 t514.length co21)) (fun _ hk => hk.2) (.slice Ao25 t517.length co25)) (fun _ hk => hk.2) (.slice Ao26 t520.length co26)) (fun _ hk => hk.1.2), by exact Kd.R_mono (Kd.R_far (p := ⟨gb495, 2, none⟩) (Kd.R_far (p := ⟨gb495, 1, none⟩) (Kd.R_far (p := ⟨gb495, 0, none⟩) (Kd.R_types HO_8.out BK495.out (by decide)) (fun _ hk => hk.2) (.slice Ao21 t514.length co21)) (fun _ hk => hk.2) (.slice Ao25 t517.length co25)) (fun _ hk => hk.2) (.slice Ao26 t520.length co26)) (fun _ hk => hk.1.2), by exact Kd.R_mono (Kd.R_far (p := ⟨gb495, 2, none⟩) (Kd.R_far (p := ⟨gb495, 1, none⟩) (Kd.R_far (p := ⟨gb495, 0, none⟩) (Kd.R_types HO516.out BK495.out (by decide)) (fun _ hk => hk.2) (.slice Ao21 t514.length co21)) (fun _ hk => hk.2) (.slice Ao25 t517.length co25)) (fun _ hk => hk.2) (.slice Ao26 t520.length co26)) (fun _ hk => ⟨hk.1.1, hk.1.2⟩), Kd.Q_of_R (by exact Kd.R_mono (Kd.R_far (p := ⟨gb495, 2, none⟩) (Kd.R_far (p := ⟨gb495, 1, none⟩) (Kd.R_far (p := ⟨gb495, 0, none⟩) (Kd.R_types HO519.out BK495.out (by decide)) (fun _ hk => hk.2) (.slice Ao21 t514.length co21)) (fun _ hk => hk.2) (.slice Ao25 t517.length co25)) (fun _ hk => hk.2) (.slice Ao26 t520.length co26)) (fun _ hk => ⟨hk.1.1, hk.1.2⟩)), by exact Kd.R_mono (Kd.R_far (p := ⟨gb495, 2, none⟩) (Kd.R_far (p := ⟨gb495, 1, none⟩) (Kd.R_far (p := ⟨gb495, 0, none⟩) (Kd.R_types HO522.out BK495.out (by decide)) (fun _ hk => hk.2) (.slice Ao21 t514.length co21)) (fun _ hk => hk.2) (.slice Ao25 t517.length co25)) (fun _ hk => hk.2) (.slice Ao26 t520.length co26)) (fun _ hk => ⟨hk.1.1, hk.1.2⟩), z45_, z46_, z32_⟩
   ·rw [if_neg c17] at H
    have c17b0 : (t526 == 0) = false := beq_eq_false_iff_ne.mpr c17
    have c17b1 : (t526 != 0) = true := bne_iff_ne.mpr c17
    by_cases c33 : t526 = 1
    ·rw [if_pos c33] at H
     have c33b0 : (t526 == 1) = true := beq_iff_eq.mpr c33
     have c33b1 : (t526 != 1) = false := bne_eq_false_iff_eq.mpr c33
     clear c33
     replace H := Option.bind_eq_some_iff.mp H
     obtain ⟨⟨t534, t537, t540, t543, t544⟩, A340, H⟩ := H
     try dsimp only at H
     have A34 := Aside0.mk A340
     clear A340
     simp only [Option.some.injEq, Prod.mk.injEq] at H
     obtain ⟨rfl, rfl, rfl, rfl, rfl, rfl, rfl⟩ := H
     try go_wp2_with (first | ((with_reducible refine gate_callee (f := 65) rfl ?_); refine goesL_ (some 22) rfl rfl Try.func65 (by kernel_rfl) rfl #[.pointer (some ⟨g, 0, none⟩)] rfl z1_ ?_; (with_reducible refine (spec_l7Cost.calls kj5 g s0_0 x1001_5 x1002_5 t514 t517 t520 t523 t524 w0 _ ?side1 ?side2 A15.out).mono ?_); (case side1 => exact z39_); (case side2 => exact z40_); rintro e w35 ⟨v515, v518, v521, rfl, ho0, ho1, ho2, hi, hb, hk⟩; refine ⟨_, rfl, ?_⟩; replace HO_7 := Aside0.mk (Kd.Q_mono (Kd.Q_keep (IsS86.apartQ (show IsS86 w0 _ g s0_0 x1001_5 x1002_5 from by repeat ((with_reducible exact HI0.out))) z90_ (by decide)) hk (fun _ h => h.2)) (fun _ h => h.1)); replace HO_8 := Aside0.mk (Kd.R_mono (Kd.R_keep (IsS86.apart (show IsS86 w0 _ g s0_0 x1001_5 x1002_5 from by repeat ((with_reducible exact HI0.out))) z91_ (by decide)) hk (fun _ h => h.2)) (fun _ h => h.1)); replace BK495 := Aside0.mk (KeepBut.blk hk (g' := gb495) (o := .cells #[.slice none 0 0, .slice none 0 0, .slice none 0 0] 38 (0, 0)) z43_ NB495_0.out (by simp)); have HO516 := Aside0.mk (Kd.R_lower ho0 (keep_size (w := w) (g := g) (row := none) z11_)); have HO519 := Aside0.mk (Kd.R_lower ho1 (keep_size (w := w) (g := g) (row := none) z11_)); have HO522 := Aside0.mk (Kd.R_lower ho2 (keep_size (w := w) (g := g) (row := none) z11_)); replace HK := Aside0.mk (KeepBut.trans z11_ hk (.inl rfl)); replace HB := Aside0.mk (hb); replace HI0 := Aside0.mk (hi); (try clear hb hk hi ho0 ho1 ho2)) | ((with_reducible refine gate_dst (N := 9) rfl ?_); refine box_event ?hg (N := 9) ?hd (cs := #[.slice none 0 0, .slice none 0 0, .slice none 0 0]) (t := 38) ?hr ?_; (case hd => rfl); (case hg => rfl); (case hr => exact z19_); intro gb525 hg w36 hbox hb; replace HO_7 := Aside0.mk (Kd.Q_below z90_ hb); replace HO_8 := Aside0.mk (Kd.R_below z91_ hb); replace HO516 := Aside0.mk (Kd.R_below z97_ hb); replace HO519 := Aside0.mk (Kd.R_below z98_ hb); replace HO522 := Aside0.mk (Kd.R_below z99_ hb); replace HB := Aside0.mk (below_step z40_ hb); have BK525 := Aside0.mk (hbox); have GW525 := Aside0.mk ((by rw [hg]; exact (keep_size (w := w) (g := g) (row := none) z11_) : w.heap.size ≤ gb525)); have GE525 := Aside0.mk ((Nat.le_trans HW0.out (by rw [hg]; exact (keep_size (w := w) (g := g) (row := none) z11_) : w.heap.size ≤ gb525) : w0.heap.size ≤ gb525)); replace HK := Aside0.mk (KeepBut.trans z11_ (KeepBut.of_below hb g none) (.inl rfl)); have NB495_525 := Aside0.mk ((by rw [hg]; exact Nat.ne_of_lt (blk_lt (g := gb495) (o := .cells #[.slice none 0 0, .slice none 0 0, .slice none 0 0] 38 (0, 0)) z43_) : gb495 ≠ gb525)); have NB525_495 := Aside0.mk ((by rw [hg]; exact Nat.ne_of_gt (blk_lt (g := gb495) (o := .cells #[.slice none 0 0, .slice none 0 0, .slice none 0 0] 38 (0, 0)) z43_) : gb525 ≠ gb495)); replace BK495 := Aside0.mk (blk_below z43_ hb); have NB0_525 := Aside0.mk ((by rw [hg]; exact Nat.ne_of_lt (IsS86.lt (show IsS86 w0 _ g s0_0 t523 t524 from by repeat ((with_reducible exact HI0.out)))) : g ≠ gb525)); have NB525_0 := Aside0.mk ((by rw [hg]; exact Nat.ne_of_gt (IsS86.lt (show IsS86 w0 _ g s0_0 t523 t524 from by repeat ((with_reducible exact HI0.out)))) : gb525 ≠ g)); replace HI0 := Aside0.mk (IsS86.below z39_ hb); clear hb hbox hg; obtain ⟨Ao37, co37, eo37⟩ := Kd.R_slice HO516.out; subst eo37; have hnb38 := NB525_495.out; have hnc38 := NB495_525.out; have hnb39 := NB525_0.out; have hnc39 := NB0_525.out; obtain ⟨hcz40_0, hcz40_1, hcz40_2, hfz40_0, hfz40_1, hfz40_2⟩ := bx3_ BK525.out; obtain ⟨Ao41, co41, eo41⟩ := Kd.R_slice HO519.out; subst eo41; obtain ⟨Ao42, co42, eo42⟩ := Kd.R_slice HO522.out; subst eo42) | ((with_reducible refine gate_callee (f := 64) rfl ?_); refine goesL_ (some 24) rfl rfl Try.func64 (by kernel_rfl) rfl #[.pointer (some ⟨g, 0, none⟩), .int .i64 24] rfl z1_ ?_; (with_reducible refine (spec_l1Below.calls g s0_0 t523 t524 24 t526 t527 t528 w0 _ ?side1 ?side2 A16.out).mono ?_); (case side1 => exact z45_); (case side2 => exact z46_); rintro e w43 ⟨rfl, hi, hb, hk⟩; refine ⟨_, rfl, ?_⟩; replace HO_7 := Aside0.mk (Kd.Q_mono (Kd.Q_keep (IsS86.apartQ (show IsS86 w0 _ g s0_0 t523 t524 from by repeat ((with_reducible first | exact HI0.out | refine IsS86.far ?_ NB0_525.out _))) (by exact (Kd.Q_mono (Kd.Q_far (p := ⟨gb525, 2, none⟩) (Kd.Q_far (p := ⟨gb525, 1, none⟩) (Kd.Q_far (p := ⟨gb525, 0, none⟩) (Kd.Q_types HO_7.out BK525.out (by decide)) (fun _ hk => hk.2) (.slice Ao37 t514.length co37)) (fun _ hk => hk.2) (.slice Ao41 t517.length co41)) (fun _ hk => hk.2) (.slice Ao42 t520.length co42)) (fun _ h_ => h_.1))) (by decide)) hk (fun _ h => h.2)) (fun _ h => h.1)); replace HO_8 := Aside0.mk (Kd.R_mono (Kd.R_keep (IsS86.apart (show IsS86 w0 _ g s0_0 t523 t524 from by repeat ((with_reducible first | exact HI0.out | refine IsS86.far ?_ NB0_525.out _))) (by exact (Kd.R_mono (Kd.R_far (p := ⟨gb525, 2, none⟩) (Kd.R_far (p := ⟨gb525, 1, none⟩) (Kd.R_far (p := ⟨gb525, 0, none⟩) (Kd.R_types HO_8.out BK525.out (by decide)) (fun _ hk => hk.2) (.slice Ao37 t514.length co37)) (fun _ hk => hk.2) (.slice Ao41 t517.length co41)) (fun _ hk => hk.2) (.slice Ao42 t520.length co42)) (fun _ h_ => h_.1))) (by decide)) hk (fun _ h => h.2)) (fun _ h => h.1)); replace BK495 := Aside0.mk (KeepBut.blk hk (g' := gb495) (o := .cells #[.slice none 0 0, .slice none 0 0, .slice none 0 0] 38 (0, 0)) z48_ NB495_0.out (by simp)); replace HO516 := Aside0.mk (Kd.R_mono (Kd.R_keep (IsS86.apart (show IsS86 w0 _ g s0_0 t523 t524 from by repeat ((with_reducible first | exact HI0.out | refine IsS86.far ?_ NB0_525.out _))) (by exact (Kd.R_mono (Kd.R_far (p := ⟨gb525, 2, none⟩) (Kd.R_far (p := ⟨gb525, 1, none⟩) (Kd.R_far (p := ⟨gb525, 0, none⟩) (Kd.R_types HO516.out BK525.out (by decide)) (fun _ hk => hk.2) (.slice Ao37 t514.length co37)) (fun _ hk => hk.2) (.slice Ao41 t517.length co41)) (fun _ hk => hk.2) (.slice Ao42 t520.length co42)) (fun _ h_ => h_.1))) (by decide)) hk (fun _ h => h.2)) (fun _ h => h.1)); replace HO519 := Aside0.mk (Kd.R_mono (Kd.R_keep (IsS86.apart (show IsS86 w0 _ g s0_0 t523 t524 from by repeat ((with_reducible first | exact HI0.out | refine IsS86.far ?_ NB0_525.out _))) (by exact (Kd.R_mono (Kd.R_far (p := ⟨gb525, 2, none⟩) (Kd.R_far (p := ⟨gb525, 1, none⟩) (Kd.R_far (p := ⟨gb525, 0, none⟩) (Kd.R_types HO519.out BK525.out (by decide)) (fun _ hk => hk.2) (.slice Ao37 t514.length co37)) (fun _ hk => hk.2) (.slice Ao41 t517.length co41)) (fun _ hk => hk.2) (.slice Ao42 t520.length co42)) (fun _ h_ => h_.1))) (by decide)) hk (fun _ h => h.2)) (fun _ h => h.1)); replace HO522 := Aside0.mk (Kd.R_mono (Kd.R_keep (IsS86.apart (show IsS86 w0 _ g s0_0 t523 t524 from by repeat ((with_reducible first | exact HI0.out | refine IsS86.far ?_ NB0_525.out _))) (by exact (Kd.R_mono (Kd.R_far (p := ⟨gb525, 2, none⟩) (Kd.R_far (p := ⟨gb525, 1, none⟩) (Kd.R_far (p := ⟨gb525, 0, none⟩) (Kd.R_types HO522.out BK525.out (by decide)) (fun _ hk => hk.2) (.slice Ao37 t514.length co37)) (fun _ hk => hk.2) (.slice Ao41 t517.length co41)) (fun _ hk => hk.2) (.slice Ao42 t520.length co42)) (fun _ h_ => h_.1))) (by decide)) hk (fun _ h => h.2)) (fun _ h => h.1)); replace BK525 := Aside0.mk (KeepBut.blk hk (g' := gb525) (o := .cells #[.slice Ao37 t514.length co37, .slice Ao41 t517.length co41, .slice Ao42 t520.length co42] 38 (0, 0)) (by refine blk_put (cs := #[.slice Ao37 t514.length co37, .slice Ao41 t517.length co41, .slice none 0 0]) ?_ 2 _ rfl; refine blk_put (cs := #[.slice Ao37 t514.length co37, .slice none 0 0, .slice none 0 0]) ?_ 1 _ rfl; refine blk_put (cs := #[.slice none 0 0, .slice none 0 0, .slice none 0 0]) ?_ 0 _ rfl; exact BK525.out) NB525_0.out (by simp)); replace HK := Aside0.mk (KeepBut.trans z32_ hk (.inl rfl)); replace HB := Aside0.mk (hb); replace HI0 := Aside0.mk (hi); (try clear hb hk hi)) | ((with_reducible refine gate_callee (f := 47) rfl ?_); refine goesL_ (some 33) rfl rfl Try.func47 (by kernel_rfl) rfl #[.pointer (some ⟨g, 0, none⟩)] rfl z1_ ?_; (with_reducible refine (spec_l7Any.calls kj5 g s0_0 t527 t528 t534 t537 t540 t543 t544 w0 _ ?side1 ?side2 A34.out).mono ?_); (case side1 => exact z45_); (case side2 => exact z46_); rintro e w44 ⟨v535, v538, v541, rfl, ho0, ho1, ho2, hi, hb, hk⟩; refine ⟨_, rfl, ?_⟩; replace HO_7 := Aside0.mk (Kd.Q_mono (Kd.Q_keep (IsS86.apartQ (show IsS86 w0 _ g s0_0 t527 t528 from by repeat ((with_reducible exact HI0.out))) z90_ (by decide)) hk (fun _ h => h.2)) (fun _ h => h.1)); replace HO_8 := Aside0.mk (Kd.R_mono (Kd.R_keep (IsS86.apart (show IsS86 w0 _ g s0_0 t527 t528 from by repeat ((with_reducible exact HI0.out))) z91_ (by decide)) hk (fun _ h => h.2)) (fun _ h => h.1)); replace BK495 := Aside0.mk (KeepBut.blk hk (g' := gb495) (o := .cells #[.slice none 0 0, .slice none 0 0, .slice none 0 0] 38 (0, 0)) z43_ NB495_0.out (by simp)); replace BK525 := Aside0.mk (KeepBut.blk hk (g' := gb525) (o := .cells #[.slice Ao37 t514.length co37, .slice Ao41 t517.length co41, .slice Ao42 t520.length co42] 38 (0, 0)) z216_ NB525_0.out (by simp)); have HO536 := Aside0.mk (Kd.R_lower (Kd.R_new' (Kd.R_new' (Kd.R_new' ho0 (Kd.R_lt z97_)) (Kd.R_lt z98_)) (Kd.R_lt z99_)) (keep_size (w := w) (g := g) (row := none) z32_)); have HO539 := Aside0.mk (Kd.Q_lower (Kd.Q_new' (Kd.Q_new' (Kd.Q_new' ho1 (Kd.R_lt z97_)) (Kd.R_lt z98_)) (Kd.R_lt z99_)) (keep_size (w := w) (g := g) (row := none) z32_)); have HO542 := Aside0.mk (Kd.R_lower (Kd.R_new' (Kd.R_new' (Kd.R_new' ho2 (Kd.R_lt z97_)) (Kd.R_lt z98_)) (Kd.R_lt z99_)) (keep_size (w := w) (g := g) (row := none) z32_)); replace HO516 := Aside0.mk (Kd.R_mono (Kd.R_told (Kd.R_told (Kd.R_told (Kd.R_oldK (IsS86.apart (show IsS86 w0 _ g s0_0 t527 t528 from by repeat ((with_reducible exact HI0.out))) z97_ (by decide)) hk) (Kd.R_base ho0)) (Kd.Q_base ho1)) (Kd.R_base ho2)) (fun _ h_ => h_.1)); replace HO519 := Aside0.mk (Kd.R_mono (Kd.R_told (Kd.R_told (Kd.R_told (Kd.R_oldK (IsS86.apart (show IsS86 w0 _ g s0_0 t527 t528 from by repeat ((with_reducible exact HI0.out))) z98_ (by decide)) hk) (Kd.R_base ho0)) (Kd.Q_base ho1)) (Kd.R_base ho2)) (fun _ h_ => h_.1)); replace HO522 := Aside0.mk (Kd.R_mono (Kd.R_told (Kd.R_told (Kd.R_told (Kd.R_oldK (IsS86.apart (show IsS86 w0 _ g s0_0 t527 t528 from by repeat ((with_reducible exact HI0.out))) z99_ (by decide)) hk) (Kd.R_base ho0)) (Kd.Q_base ho1)) (Kd.R_base ho2)) (fun _ h_ => h_.1)); replace HK := Aside0.mk (KeepBut.trans z32_ hk (.inl rfl)); replace HB := Aside0.mk (hb); replace HI0 := Aside0.mk (hi); (try clear hb hk hi ho0 ho1 ho2); obtain ⟨Ao45, co45, eo45⟩ := Kd.R_slice HO536.out; subst eo45; obtain ⟨hcz46_0, hcz46_1, hcz46_2, hfz46_0, hfz46_1, hfz46_2⟩ := bx3_ BK525.out; obtain ⟨Ao47, co47, eo47, _⟩ := Kd.Q_slice HO539.out; subst eo47; obtain ⟨Ao48, co48, eo48⟩ := Kd.R_slice HO542.out; subst eo48))
     have n0_ : Aside0 (Kd.Q k61 61 (((w44.setCell ⟨gb525, 0, none⟩ (.slice Ao45 t534.length co45)).setCell ⟨gb525, 1, none⟩ (.slice Ao47 t537.length co47)).setCell ⟨gb525, 2, none⟩ (.slice Ao48 t540.length co48)) w.heap.size (fun k_ => some k_ ≠ (u8 : Value).ownBlock) v497 t496) := ⟨by exact Kd.Q_mono (Kd.Q_far (p := ⟨gb525, 2, none⟩) (Kd.Q_far (p := ⟨gb525, 1, none⟩) (Kd.Q_far (p := ⟨gb525, 0, none⟩) (Kd.Q_types HO_7.out BK525.out (by decide)) (fun _ hk => hk.2) (.slice Ao45 t534.length co45)) (fun _ hk => hk.2) (.slice Ao47 t537.length co47)) (fun _ hk => hk.2) (.slice Ao48 t540.length co48)) (fun _ hk => hk.1)⟩
     have n1_ : Aside0 (Kd.R k61 61 (((w44.setCell ⟨gb525, 0, none⟩ (.slice Ao45 t534.length co45)).setCell ⟨gb525, 1, none⟩ (.slice Ao47 t537.length co47)).setCell ⟨gb525, 2, none⟩ (.slice Ao48 t540.length co48)) w.heap.size (fun k_ => some k_ ≠ (v497 : Value).ownBlock) u8 x8_5) := ⟨by exact Kd.R_mono (Kd.R_far (p := ⟨gb525, 2, none⟩) (Kd.R_far (p := ⟨gb525, 1, none⟩) (Kd.R_far (p := ⟨gb525, 0, none⟩) (Kd.R_types HO_8.out BK525.out (by decide)) (fun _ hk => hk.2) (.slice Ao45 t534.length co45)) (fun _ hk => hk.2) (.slice Ao47 t537.length co47)) (fun _ hk => hk.2) (.slice Ao48 t540.length co48)) (fun _ hk => hk.1)⟩
     have n2_ : Aside0 (Kd.R (Kd.int .i64) 3 (((w44.setCell ⟨gb525, 0, none⟩ (.slice Ao45 t534.length co45)).setCell ⟨gb525, 1, none⟩ (.slice Ao47 t537.length co47)).setCell ⟨gb525, 2, none⟩ (.slice Ao48 t540.length co48)) w.heap.size (fun k_ => some k_ ≠ (.slice Ao41 t517.length co41 : Value).ownBlock ∧ some k_ ≠ (.slice Ao42 t520.length co42 : Value).ownBlock ∧ some k_ ≠ (.slice Ao45 t534.length co45 : Value).ownBlock ∧ some k_ ≠ (.slice Ao47 t537.length co47 : Value).ownBlock ∧ some k_ ≠ (.slice Ao48 t540.length co48 : Value).ownBlock) (.slice Ao37 t514.length co37) t514) := ⟨by exact Kd.R_mono (Kd.R_far (p := ⟨gb525, 2, none⟩) (Kd.R_far (p := ⟨gb525, 1, none⟩) (Kd.R_far (p := ⟨gb525, 0, none⟩) (Kd.R_types HO516.out BK525.out (by decide)) (fun _ hk => hk.2) (.slice Ao45 t534.length co45)) (fun _ hk => hk.2) (.slice Ao47 t537.length co47)) (fun _ hk => hk.2) (.slice Ao48 t540.length co48)) (fun _ hk => ⟨hk.1.1.1.1.1, ⟨hk.1.1.1.1.2, ⟨hk.1.1.1.2, ⟨hk.1.1.2, hk.1.2⟩⟩⟩⟩)⟩
     have n3_ : Aside0 (Kd.R (Kd.int .i64) 3 (((w44.setCell ⟨gb525, 0, none⟩ (.slice Ao45 t534.length co45)).setCell ⟨gb525, 1, none⟩ (.slice Ao47 t537.length co47)).setCell ⟨gb525, 2, none⟩ (.slice Ao48 t540.length co48)) w.heap.size (fun k_ => some k_ ≠ (.slice Ao37 t514.length co37 : Value).ownBlock ∧ some k_ ≠ (.slice Ao42 t520.length co42 : Value).ownBlock ∧ some k_ ≠ (.slice Ao45 t534.length co45 : Value).ownBlock ∧ some k_ ≠ (.slice Ao47 t537.length co47 : Value).ownBlock ∧ some k_ ≠ (.slice Ao48 t540.length co48 : Value).ownBlock) (.slice Ao41 t517.length co41) t517) := ⟨by exact Kd.R_mono (Kd.R_far (p := ⟨gb525, 2, none⟩) (Kd.R_far (p := ⟨gb525, 1, none⟩) (Kd.R_far (p := ⟨gb525, 0, none⟩) (Kd.R_types HO519.out BK525.out (by decide)) (fun _ hk => hk.2) (.slice Ao45 t534.length co45)) (fun _ hk => hk.2) (.slice Ao47 t537.length co47)) (fun _ hk => hk.2) (.slice Ao48 t540.length co48)) (fun _ hk => ⟨hk.1.1.1.1.1, ⟨hk.1.1.1.1.2, ⟨hk.1.1.1.2, ⟨hk.1.1.2, hk.1.2⟩⟩⟩⟩)⟩
     have n4_ : Aside0 (Kd.R (Kd.int .i64) 3 (((w44.setCell ⟨gb525, 0, none⟩ (.slice Ao45 t534.length co45)).setCell ⟨gb525, 1, none⟩ (.slice Ao47 t537.length co47)).setCell ⟨gb525, 2, none⟩ (.slice Ao48 t540.length co48)) w.heap.size (fun k_ => some k_ ≠ (.slice Ao37 t514.length co37 : Value).ownBlock ∧ some k_ ≠ (.slice Ao41 t517.length co41 : Value).ownBlock ∧ some k_ ≠ (.slice Ao45 t534.length co45 : Value).ownBlock ∧ some k_ ≠ (.slice Ao47 t537.length co47 : Value).ownBlock ∧ some k_ ≠ (.slice Ao48 t540.length co48 : Value).ownBlock) (.slice Ao42 t520.length co42) t520) := ⟨by exact Kd.R_mono (Kd.R_far (p := ⟨gb525, 2, none⟩) (Kd.R_far (p := ⟨gb525, 1, none⟩) (Kd.R_far (p := ⟨gb525, 0, none⟩) (Kd.R_types HO522.out BK525.out (by decide)) (fun _ hk => hk.2) (.slice Ao45 t534.length co45)) (fun _ hk => hk.2) (.slice Ao47 t537.length co47)) (fun _ hk => hk.2) (.slice Ao48 t540.length co48)) (fun _ hk => ⟨hk.1.1.1.1.1, ⟨hk.1.1.1.1.2, ⟨hk.1.1.1.2, ⟨hk.1.1.2, hk.1.2⟩⟩⟩⟩)⟩
     have n5_ : Aside0 (Kd.R (Kd.int .i64) 3 (((w44.setCell ⟨gb525, 0, none⟩ (.slice Ao45 t534.length co45)).setCell ⟨gb525, 1, none⟩ (.slice Ao47 t537.length co47)).setCell ⟨gb525, 2, none⟩ (.slice Ao48 t540.length co48)) w.heap.size (fun k_ => some k_ ≠ (.slice Ao37 t514.length co37 : Value).ownBlock ∧ some k_ ≠ (.slice Ao41 t517.length co41 : Value).ownBlock ∧ some k_ ≠ (.slice Ao42 t520.length co42 : Value).ownBlock ∧ some k_ ≠ (.slice Ao47 t537.length co47 : Value).ownBlock ∧ some k_ ≠ (.slice Ao48 t540.length co48 : Value).ownBlock) (.slice Ao45 t534.length co45) t534) := ⟨by exact Kd.R_mono (Kd.R_far (p := ⟨gb525, 2, none⟩) (Kd.R_far (p := ⟨gb525, 1, none⟩) (Kd.R_far (p := ⟨gb525, 0, none⟩) (Kd.R_types HO536.out BK525.out (by decide)) (fun _ hk => hk.2) (.slice Ao45 t534.length co45)) (fun _ hk => hk.2) (.slice Ao47 t537.length co47)) (fun _ hk => hk.2) (.slice Ao48 t540.length co48)) (fun _ hk => ⟨hk.1.1.1.2, ⟨hk.1.1.2, ⟨hk.1.2, ⟨hk.1.1.1.1.1, hk.1.1.1.1.2⟩⟩⟩⟩)⟩
     have n6_ : Aside0 (Kd.Q (Kd.int .i64) 3 (((w44.setCell ⟨gb525, 0, none⟩ (.slice Ao45 t534.length co45)).setCell ⟨gb525, 1, none⟩ (.slice Ao47 t537.length co47)).setCell ⟨gb525, 2, none⟩ (.slice Ao48 t540.length co48)) w.heap.size (fun k_ => some k_ ≠ (.slice Ao37 t514.length co37 : Value).ownBlock ∧ some k_ ≠ (.slice Ao41 t517.length co41 : Value).ownBlock ∧ some k_ ≠ (.slice Ao42 t520.length co42 : Value).ownBlock ∧ some k_ ≠ (.slice Ao45 t534.length co45 : Value).ownBlock ∧ some k_ ≠ (.slice Ao48 t540.length co48 : Value).ownBlock) (.slice Ao47 t537.length co47) t537) := ⟨by exact Kd.Q_mono (Kd.Q_far (p := ⟨gb525, 2, none⟩) (Kd.Q_far (p := ⟨gb525, 1, none⟩) (Kd.Q_far (p := ⟨gb525, 0, none⟩) (Kd.Q_types HO539.out BK525.out (by decide)) (fun _ hk => hk.2) (.slice Ao45 t534.length co45)) (fun _ hk => hk.2) (.slice Ao47 t537.length co47)) (fun _ hk => hk.2) (.slice Ao48 t540.length co48)) (fun _ hk => ⟨hk.1.1.1.2, ⟨hk.1.1.2, ⟨hk.1.2, ⟨hk.1.1.1.1.1, hk.1.1.1.1.2⟩⟩⟩⟩)⟩
     have n7_ : Aside0 (Kd.R (Kd.int .i64) 3 (((w44.setCell ⟨gb525, 0, none⟩ (.slice Ao45 t534.length co45)).setCell ⟨gb525, 1, none⟩ (.slice Ao47 t537.length co47)).setCell ⟨gb525, 2, none⟩ (.slice Ao48 t540.length co48)) w.heap.size (fun k_ => some k_ ≠ (.slice Ao37 t514.length co37 : Value).ownBlock ∧ some k_ ≠ (.slice Ao41 t517.length co41 : Value).ownBlock ∧ some k_ ≠ (.slice Ao42 t520.length co42 : Value).ownBlock ∧ some k_ ≠ (.slice Ao45 t534.length co45 : Value).ownBlock ∧ some k_ ≠ (.slice Ao47 t537.length co47 : Value).ownBlock) (.slice Ao48 t540.length co48) t540) := ⟨by exact Kd.R_mono (Kd.R_far (p := ⟨gb525, 2, none⟩) (Kd.R_far (p := ⟨gb525, 1, none⟩) (Kd.R_far (p := ⟨gb525, 0, none⟩) (Kd.R_types HO542.out BK525.out (by decide)) (fun _ hk => hk.2) (.slice Ao45 t534.length co45)) (fun _ hk => hk.2) (.slice Ao47 t537.length co47)) (fun _ hk => hk.2) (.slice Ao48 t540.length co48)) (fun _ hk => ⟨hk.1.1.1.2, ⟨hk.1.1.2, ⟨hk.1.2, ⟨hk.1.1.1.1.1, hk.1.1.1.1.2⟩⟩⟩⟩)⟩
     have n8_ : Aside0 ((((w44.setCell ⟨gb525, 0, none⟩ (.slice Ao45 t534.length co45)).setCell ⟨gb525, 1, none⟩ (.slice Ao47 t537.length co47)).setCell ⟨gb525, 2, none⟩ (.slice Ao48 t540.length co48)).heap[gb495]? = some (.cells #[.slice none 0 0, .slice none 0 0, .slice none 0 0] 38 (0, 0))) := ⟨z48_⟩
     have n9_ : Aside0 ((((w44.setCell ⟨gb525, 0, none⟩ (.slice Ao45 t534.length co45)).setCell ⟨gb525, 1, none⟩ (.slice Ao47 t537.length co47)).setCell ⟨gb525, 2, none⟩ (.slice Ao48 t540.length co48)).heap[gb525]? = some (.cells #[.slice Ao45 t534.length co45, .slice Ao47 t537.length co47, .slice Ao48 t540.length co48] 38 (0, 0))) := ⟨by refine blk_put (cs := #[.slice Ao45 t534.length co45, .slice Ao47 t537.length co47, .slice Ao42 t520.length co42]) ?_ 2 _ rfl; refine blk_put (cs := #[.slice Ao45 t534.length co45, .slice Ao41 t517.length co41, .slice Ao42 t520.length co42]) ?_ 1 _ rfl; refine blk_put (cs := #[.slice Ao37 t514.length co37, .slice Ao41 t517.length co41, .slice Ao42 t520.length co42]) ?_ 0 _ rfl; exact BK525.out⟩
     have n10_ : Aside0 (IsS86 w0 (((w44.setCell ⟨gb525, 0, none⟩ (.slice Ao45 t534.length co45)).setCell ⟨gb525, 1, none⟩ (.slice Ao47 t537.length co47)).setCell ⟨gb525, 2, none⟩ (.slice Ao48 t540.length co48)) g s0_0 t543 t544) := ⟨z45_⟩
     have n11_ : Aside0 (KeepBut w (((w44.setCell ⟨gb525, 0, none⟩ (.slice Ao45 t534.length co45)).setCell ⟨gb525, 1, none⟩ (.slice Ao47 t537.length co47)).setCell ⟨gb525, 2, none⟩ (.slice Ao48 t540.length co48)) g none) := ⟨z32_⟩
     have n12_ : Aside0 (Below w0.heap.size w0 (((w44.setCell ⟨gb525, 0, none⟩ (.slice Ao45 t534.length co45)).setCell ⟨gb525, 1, none⟩ (.slice Ao47 t537.length co47)).setCell ⟨gb525, 2, none⟩ (.slice Ao48 t540.length co48))) := ⟨z46_⟩
     (try clear HO_7)
     (try clear HO_8)
     (try clear HO516)
     (try clear HO519)
     (try clear HO522)
     (try clear HO536)
     (try clear HO539)
     (try clear HO542)
     (try clear BK495)
     (try clear BK525)
     (try clear HI0)
     (try clear HK)
     (try clear HB)
     generalize (((w44.setCell ⟨gb525, 0, none⟩ (.slice Ao45 t534.length co45)).setCell ⟨gb525, 1, none⟩ (.slice Ao47 t537.length co47)).setCell ⟨gb525, 2, none⟩ (.slice Ao48 t540.length co48)) = w49 at n0_ n1_ n2_ n3_ n4_ n5_ n6_ n7_ n8_ n9_ n10_ n11_ n12_ ⊢
     have HO_7 := n0_
     have HO_8 := n1_
     have HO516 := n2_
     have HO519 := n3_
     have HO522 := n4_
     have HO536 := n5_
     have HO539 := n6_
     have HO542 := n7_
     have BK495 := n8_
     have BK525 := n9_
     have HI0 := n10_
     have HK := n11_
     have HB := n12_
     clear n0_ n1_ n2_ n3_ n4_ n5_ n6_ n7_ n8_ n9_ n10_ n11_ n12_
     have n0_ := Aside0.mk (Kd.Q_drew HO_7.out)
     have n1_ := Aside0.mk (Kd.R_drew HO_8.out)
     have n2_ := Aside0.mk (Kd.R_drew HO516.out)
     have n3_ := Aside0.mk (Kd.R_drew HO519.out)
     have n4_ := Aside0.mk (Kd.R_drew HO522.out)
     have n5_ := Aside0.mk (Kd.R_drew HO536.out)
     have n6_ := Aside0.mk (Kd.Q_drew HO539.out)
     have n7_ := Aside0.mk (Kd.R_drew HO542.out)
     have n8_ := Aside0.mk (blk_drew BK495.out)
     have n9_ := Aside0.mk (blk_drew BK525.out)
     have n10_ := Aside0.mk (IsS86.drew HI0.out)
     have n11_ := Aside0.mk (keep_drew HK.out)
     have n12_ := Aside0.mk (below_drew1 HB.out)
     clear HO_7
     clear HO_8
     clear HO516
     clear HO519
     clear HO522
     clear HO536
     clear HO539
     clear HO542
     clear BK495
     clear BK525
     clear HI0
     clear HK
     clear HB
     have HO_7 := n0_
     have HO_8 := n1_
     have HO516 := n2_
     have HO519 := n3_
     have HO522 := n4_
     have HO536 := n5_
     have HO539 := n6_
     have HO542 := n7_
     have BK495 := n8_
     have BK525 := n9_
     have HI0 := n10_
     have HK := n11_
     have HB := n12_
     clear n0_ n1_ n2_ n3_ n4_ n5_ n6_ n7_ n8_ n9_ n10_ n11_ n12_
     refine start_ (n := 6) (S := fun w' => w'.cell? ⟨gb525, 0, none⟩ = some (.slice Ao45 t534.length co45) ∧ w'.cell? ⟨gb525, 1, none⟩ = some (.slice Ao47 t537.length co47) ∧ w'.cell? ⟨gb525, 2, none⟩ = some (.slice Ao48 t540.length co48)) (ds := []) (fl_ 6 0) (by kernel_rfl) rfl (fl_zero _) ⟨(blk_cell BK525.out 0).trans rfl, (blk_cell BK525.out 1).trans rfl, (blk_cell BK525.out 2).trans rfl⟩ (fun hHeld => ?_)
     generalize w49.drew = w50 at HO_7 HO_8 HO516 HO519 HO522 HO536 HO539 HO542 BK495 BK525 HI0 HK HB hHeld ⊢
     refine pure_ (i := 0) (N := some 34) (v := ?_) (a' := ?_) #[true, false, false, false, false, false] rfl rfl (by kernel_rfl) (fun _ _ _ h => h) (Or.inl ⟨by rfl, ?_⟩) ?_ ?_
     rotate_left
     ·intro w'
      go_simp
      with_reducible rfl
     rotate_left
     ·simp only [Act.put, List.setIfInBounds_toArray, List.set_cons_zero, List.set_cons_succ, i64_w, i32_w]
      rfl
     refine pure_ (i := 1) (N := some 35) (v := ?_) (a' := ?_) #[true, true, false, false, false, false] rfl rfl (by kernel_rfl) (fun _ _ _ h => h) (Or.inl ⟨by rfl, ?_⟩) ?_ ?_
     rotate_left
     ·intro w'
      go_simp
      with_reducible rfl
     rotate_left
     ·simp only [Act.put, List.setIfInBounds_toArray, List.set_cons_zero, List.set_cons_succ, i64_w, i32_w]
      rfl
     refine pure_ (i := 3) (N := some 4) (v := ?_) (a' := ?_) #[true, true, false, true, false, false] rfl rfl (by kernel_rfl) (fun _ _ _ h => h) (Or.inl ⟨by rfl, ?_⟩) ?_ ?_
     rotate_left
     ·intro w'
      go_simp
      with_reducible rfl
     rotate_left
     ·simp only [Act.put, List.setIfInBounds_toArray, List.set_cons_zero, List.set_cons_succ, i64_w, i32_w]
      rfl
     refine pure_ (i := 4) (N := some 5) (v := ?_) (a' := ?_) #[true, true, false, true, true, false] rfl rfl (by kernel_rfl) (fun _ _ _ h => h) (Or.inl ⟨by rfl, ?_⟩) ?_ ?_
     rotate_left
     ·intro w'
      go_simp
      with_reducible rfl
     rotate_left
     ·simp only [Act.put, List.setIfInBounds_toArray, List.set_cons_zero, List.set_cons_succ, i64_w, i32_w]
      rfl
     refine take_ (i := 2) (N := some 36) (v := ?_) (a' := ?_) #[true, true, true, true, true, false] rfl rfl (by kernel_rfl) (fun _ _ _ h => h) (Or.inl ⟨by rfl, ?_⟩) hHeld ?_ ?_
     rotate_left
     ·rintro w' ⟨s0, s1, s2⟩
      go_simp
      with_reducible rfl
     rotate_left
     ·simp only [Act.put, List.setIfInBounds_toArray, List.set_cons_zero, List.set_cons_succ, i64_w, i32_w]
      rfl
     refine one_ (i := 5) (N := none) (fl_ 6 6) rfl rfl (by kernel_rfl) (by decide) (fun K hK => ?_)
     have hs51 : w50.cell? ⟨gb495, 0, none⟩ = some (.slice none 0 0) := (blk_cell BK495.out 0).trans rfl
     have hfs51 := blk_frozen BK495.out 0
     have hns51_1 := NB525_495.out
     have hms51_1 := NB495_525.out
     have hs52 : w50.cell? ⟨gb495, 1, none⟩ = some (.slice none 0 0) := (blk_cell BK495.out 1).trans rfl
     have hfs52 := blk_frozen BK495.out 1
     have hns52_1 := NB525_495.out
     have hms52_1 := NB495_525.out
     have hs53 : w50.cell? ⟨gb495, 2, none⟩ = some (.slice none 0 0) := (blk_cell BK495.out 2).trans rfl
     have hfs53 := blk_frozen BK495.out 2
     have hns53_1 := NB525_495.out
     have hms53_1 := NB495_525.out
     refine skip_ (w1 := ?_) (by rfl) rfl ?_ ?_
     rotate_left
     ·go_simp
      rfl
     refine hK.out _ _ ⟨((cell_far (p := ⟨gb495, _, none⟩) NB525_495.out _).trans (((cell_far (p := ⟨gb495, _, none⟩) NB525_495.out _).trans (((cell_far (p := ⟨gb495, _, none⟩) NB525_495.out _).trans (hHeld.1)))))), ((cell_far (p := ⟨gb495, _, none⟩) NB525_495.out _).trans (((cell_far (p := ⟨gb495, _, none⟩) NB525_495.out _).trans (((cell_far (p := ⟨gb495, _, none⟩) NB525_495.out _).trans (hHeld.2.1)))))), ((cell_far (p := ⟨gb495, _, none⟩) NB525_495.out _).trans (((cell_far (p := ⟨gb495, _, none⟩) NB525_495.out _).trans (((cell_far (p := ⟨gb495, _, none⟩) NB525_495.out _).trans (hHeld.2.2))))))⟩ (fun hHeld => ?_)
     clear hK K
     refine done_ (by kernel_rfl) ?_
     try go_wp2
     refine bodyPost_ret (results_list (rs := [.tmp 4, .tmp 5, .cell 6 38]) rfl (by simp) (.tmp (.tmp (.cell gb495 38 #[.slice Ao45 t534.length co45, .slice Ao47 t537.length co47, .slice Ao48 t540.length co48] (0, 0) _ rfl (by refine blk_put (cs := #[.slice Ao45 t534.length co45, .slice Ao47 t537.length co47, .slice none 0 0]) ?_ 2 _ rfl; refine blk_put (cs := #[.slice Ao45 t534.length co45, .slice none 0 0, .slice none 0 0]) ?_ 1 _ rfl; refine blk_put (cs := #[.slice none 0 0, .slice none 0 0, .slice none 0 0]) ?_ 0 _ rfl; exact BK495.out) Try.underlying38 rfl (by kernel_rfl) .nil)))) rfl ?_
     exact ⟨_, _, _, _, _, z6_, by exact Kd.Q_mono (Kd.Q_far (p := ⟨gb495, 2, none⟩) (Kd.Q_far (p := ⟨gb495, 1, none⟩) (Kd.Q_far (p := ⟨gb495, 0, none⟩) (Kd.Q_types HO_7.out BK495.out (by decide)) (fun _ hk => hk.2) (.slice Ao45 t534.length co45)) (fun _ hk => hk.2) (.slice Ao47 t537.length co47)) (fun _ hk => hk.2) (.slice Ao48 t540.length co48)) (fun _ hk => hk.1), by exact Kd.R_mono (Kd.R_far (p := ⟨gb495, 2, none⟩) (Kd.R_far (p := ⟨gb495, 1, none⟩) (Kd.R_far (p := ⟨gb495, 0, none⟩) (Kd.R_types HO_8.out BK495.out (by decide)) (fun _ hk => hk.2) (.slice Ao45 t534.length co45)) (fun _ hk => hk.2) (.slice Ao47 t537.length co47)) (fun _ hk => hk.2) (.slice Ao48 t540.length co48)) (fun _ hk => hk.1), by exact Kd.R_mono (Kd.R_far (p := ⟨gb495, 2, none⟩) (Kd.R_far (p := ⟨gb495, 1, none⟩) (Kd.R_far (p := ⟨gb495, 0, none⟩) (Kd.R_types HO536.out BK495.out (by decide)) (fun _ hk => hk.2) (.slice Ao45 t534.length co45)) (fun _ hk => hk.2) (.slice Ao47 t537.length co47)) (fun _ hk => hk.2) (.slice Ao48 t540.length co48)) (fun _ hk => ⟨hk.1.2.2.2.1, hk.1.2.2.2.2⟩), by exact Kd.Q_mono (Kd.Q_far (p := ⟨gb495, 2, none⟩) (Kd.Q_far (p := ⟨gb495, 1, none⟩) (Kd.Q_far (p := ⟨gb495, 0, none⟩) (Kd.Q_types HO539.out BK495.out (by decide)) (fun _ hk => hk.2) (.slice Ao45 t534.length co45)) (fun _ hk => hk.2) (.slice Ao47 t537.length co47)) (fun _ hk => hk.2) (.slice Ao48 t540.length co48)) (fun _ hk => ⟨hk.1.2.2.2.1, hk.1.2.2.2.2⟩), by exact Kd.R_mono (Kd.R_far (p := ⟨gb495, 2, none⟩) (Kd.R_far (p := ⟨gb495, 1, none⟩) (Kd.R_far (p := ⟨gb495, 0, none⟩) (Kd.R_types HO542.out BK495.out (by decide)) (fun _ hk => hk.2) (.slice Ao45 t534.length co45)) (fun _ hk => hk.2) (.slice Ao47 t537.length co47)) (fun _ hk => hk.2) (.slice Ao48 t540.length co48)) (fun _ hk => ⟨hk.1.2.2.2.1, hk.1.2.2.2.2⟩), z45_, z46_, z32_⟩
    ·rw [if_neg c33] at H
     have c33b0 : (t526 == 1) = false := beq_eq_false_iff_ne.mpr c33
     have c33b1 : (t526 != 1) = true := bne_iff_ne.mpr c33
     simp only [Option.some.injEq, Prod.mk.injEq] at H
     obtain ⟨rfl, rfl, rfl, rfl, rfl, rfl, rfl⟩ := H
     try go_wp2_with (first | ((with_reducible refine gate_callee (f := 65) rfl ?_); refine goesL_ (some 22) rfl rfl Try.func65 (by kernel_rfl) rfl #[.pointer (some ⟨g, 0, none⟩)] rfl z1_ ?_; (with_reducible refine (spec_l7Cost.calls kj5 g s0_0 x1001_5 x1002_5 t514 t517 t520 t523 t524 w0 _ ?side1 ?side2 A15.out).mono ?_); (case side1 => exact z39_); (case side2 => exact z40_); rintro e w54 ⟨v515, v518, v521, rfl, ho0, ho1, ho2, hi, hb, hk⟩; refine ⟨_, rfl, ?_⟩; replace HO_7 := Aside0.mk (Kd.Q_mono (Kd.Q_keep (IsS86.apartQ (show IsS86 w0 _ g s0_0 x1001_5 x1002_5 from by repeat ((with_reducible exact HI0.out))) z90_ (by decide)) hk (fun _ h => h.2)) (fun _ h => h.1)); replace HO_8 := Aside0.mk (Kd.R_mono (Kd.R_keep (IsS86.apart (show IsS86 w0 _ g s0_0 x1001_5 x1002_5 from by repeat ((with_reducible exact HI0.out))) z91_ (by decide)) hk (fun _ h => h.2)) (fun _ h => h.1)); replace BK495 := Aside0.mk (KeepBut.blk hk (g' := gb495) (o := .cells #[.slice none 0 0, .slice none 0 0, .slice none 0 0] 38 (0, 0)) z43_ NB495_0.out (by simp)); have HO516 := Aside0.mk (Kd.R_lower ho0 (keep_size (w := w) (g := g) (row := none) z11_)); have HO519 := Aside0.mk (Kd.R_lower ho1 (keep_size (w := w) (g := g) (row := none) z11_)); have HO522 := Aside0.mk (Kd.R_lower ho2 (keep_size (w := w) (g := g) (row := none) z11_)); replace HK := Aside0.mk (KeepBut.trans z11_ hk (.inl rfl)); replace HB := Aside0.mk (hb); replace HI0 := Aside0.mk (hi); (try clear hb hk hi ho0 ho1 ho2)) | ((with_reducible refine gate_dst (N := 9) rfl ?_); refine box_event ?hg (N := 9) ?hd (cs := #[.slice none 0 0, .slice none 0 0, .slice none 0 0]) (t := 38) ?hr ?_; (case hd => rfl); (case hg => rfl); (case hr => exact z19_); intro gb525 hg w55 hbox hb; replace HO_7 := Aside0.mk (Kd.Q_below z90_ hb); replace HO_8 := Aside0.mk (Kd.R_below z91_ hb); replace HO516 := Aside0.mk (Kd.R_below z97_ hb); replace HO519 := Aside0.mk (Kd.R_below z98_ hb); replace HO522 := Aside0.mk (Kd.R_below z99_ hb); replace HB := Aside0.mk (below_step z40_ hb); have BK525 := Aside0.mk (hbox); have GW525 := Aside0.mk ((by rw [hg]; exact (keep_size (w := w) (g := g) (row := none) z11_) : w.heap.size ≤ gb525)); have GE525 := Aside0.mk ((Nat.le_trans HW0.out (by rw [hg]; exact (keep_size (w := w) (g := g) (row := none) z11_) : w.heap.size ≤ gb525) : w0.heap.size ≤ gb525)); replace HK := Aside0.mk (KeepBut.trans z11_ (KeepBut.of_below hb g none) (.inl rfl)); have NB495_525 := Aside0.mk ((by rw [hg]; exact Nat.ne_of_lt (blk_lt (g := gb495) (o := .cells #[.slice none 0 0, .slice none 0 0, .slice none 0 0] 38 (0, 0)) z43_) : gb495 ≠ gb525)); have NB525_495 := Aside0.mk ((by rw [hg]; exact Nat.ne_of_gt (blk_lt (g := gb495) (o := .cells #[.slice none 0 0, .slice none 0 0, .slice none 0 0] 38 (0, 0)) z43_) : gb525 ≠ gb495)); replace BK495 := Aside0.mk (blk_below z43_ hb); have NB0_525 := Aside0.mk ((by rw [hg]; exact Nat.ne_of_lt (IsS86.lt (show IsS86 w0 _ g s0_0 t523 t524 from by repeat ((with_reducible exact HI0.out)))) : g ≠ gb525)); have NB525_0 := Aside0.mk ((by rw [hg]; exact Nat.ne_of_gt (IsS86.lt (show IsS86 w0 _ g s0_0 t523 t524 from by repeat ((with_reducible exact HI0.out)))) : gb525 ≠ g)); replace HI0 := Aside0.mk (IsS86.below z39_ hb); clear hb hbox hg; obtain ⟨Ao56, co56, eo56⟩ := Kd.R_slice HO516.out; subst eo56; have hnb57 := NB525_495.out; have hnc57 := NB495_525.out; have hnb58 := NB525_0.out; have hnc58 := NB0_525.out; obtain ⟨hcz59_0, hcz59_1, hcz59_2, hfz59_0, hfz59_1, hfz59_2⟩ := bx3_ BK525.out; obtain ⟨Ao60, co60, eo60⟩ := Kd.R_slice HO519.out; subst eo60; obtain ⟨Ao61, co61, eo61⟩ := Kd.R_slice HO522.out; subst eo61) | ((with_reducible refine gate_callee (f := 64) rfl ?_); refine goesL_ (some 24) rfl rfl Try.func64 (by kernel_rfl) rfl #[.pointer (some ⟨g, 0, none⟩), .int .i64 24] rfl z1_ ?_; (with_reducible refine (spec_l1Below.calls g s0_0 t523 t524 24 t526 t527 t528 w0 _ ?side1 ?side2 A16.out).mono ?_); (case side1 => exact z45_); (case side2 => exact z46_); rintro e w62 ⟨rfl, hi, hb, hk⟩; refine ⟨_, rfl, ?_⟩; replace HO_7 := Aside0.mk (Kd.Q_mono (Kd.Q_keep (IsS86.apartQ (show IsS86 w0 _ g s0_0 t523 t524 from by repeat ((with_reducible first | exact HI0.out | refine IsS86.far ?_ NB0_525.out _))) (by exact (Kd.Q_mono (Kd.Q_far (p := ⟨gb525, 2, none⟩) (Kd.Q_far (p := ⟨gb525, 1, none⟩) (Kd.Q_far (p := ⟨gb525, 0, none⟩) (Kd.Q_types HO_7.out BK525.out (by decide)) (fun _ hk => hk.2) (.slice Ao56 t514.length co56)) (fun _ hk => hk.2) (.slice Ao60 t517.length co60)) (fun _ hk => hk.2) (.slice Ao61 t520.length co61)) (fun _ h_ => h_.1))) (by decide)) hk (fun _ h => h.2)) (fun _ h => h.1)); replace HO_8 := Aside0.mk (Kd.R_mono (Kd.R_keep (IsS86.apart (show IsS86 w0 _ g s0_0 t523 t524 from by repeat ((with_reducible first | exact HI0.out | refine IsS86.far ?_ NB0_525.out _))) (by exact (Kd.R_mono (Kd.R_far (p := ⟨gb525, 2, none⟩) (Kd.R_far (p := ⟨gb525, 1, none⟩) (Kd.R_far (p := ⟨gb525, 0, none⟩) (Kd.R_types HO_8.out BK525.out (by decide)) (fun _ hk => hk.2) (.slice Ao56 t514.length co56)) (fun _ hk => hk.2) (.slice Ao60 t517.length co60)) (fun _ hk => hk.2) (.slice Ao61 t520.length co61)) (fun _ h_ => h_.1))) (by decide)) hk (fun _ h => h.2)) (fun _ h => h.1)); replace BK495 := Aside0.mk (KeepBut.blk hk (g' := gb495) (o := .cells #[.slice none 0 0, .slice none 0 0, .slice none 0 0] 38 (0, 0)) z48_ NB495_0.out (by simp)); replace HO516 := Aside0.mk (Kd.R_mono (Kd.R_keep (IsS86.apart (show IsS86 w0 _ g s0_0 t523 t524 from by repeat ((with_reducible first | exact HI0.out | refine IsS86.far ?_ NB0_525.out _))) (by exact (Kd.R_mono (Kd.R_far (p := ⟨gb525, 2, none⟩) (Kd.R_far (p := ⟨gb525, 1, none⟩) (Kd.R_far (p := ⟨gb525, 0, none⟩) (Kd.R_types HO516.out BK525.out (by decide)) (fun _ hk => hk.2) (.slice Ao56 t514.length co56)) (fun _ hk => hk.2) (.slice Ao60 t517.length co60)) (fun _ hk => hk.2) (.slice Ao61 t520.length co61)) (fun _ h_ => h_.1))) (by decide)) hk (fun _ h => h.2)) (fun _ h => h.1)); replace HO519 := Aside0.mk (Kd.R_mono (Kd.R_keep (IsS86.apart (show IsS86 w0 _ g s0_0 t523 t524 from by repeat ((with_reducible first | exact HI0.out | refine IsS86.far ?_ NB0_525.out _))) (by exact (Kd.R_mono (Kd.R_far (p := ⟨gb525, 2, none⟩) (Kd.R_far (p := ⟨gb525, 1, none⟩) (Kd.R_far (p := ⟨gb525, 0, none⟩) (Kd.R_types HO519.out BK525.out (by decide)) (fun _ hk => hk.2) (.slice Ao56 t514.length co56)) (fun _ hk => hk.2) (.slice Ao60 t517.length co60)) (fun _ hk => hk.2) (.slice Ao61 t520.length co61)) (fun _ h_ => h_.1))) (by decide)) hk (fun _ h => h.2)) (fun _ h => h.1)); replace HO522 := Aside0.mk (Kd.R_mono (Kd.R_keep (IsS86.apart (show IsS86 w0 _ g s0_0 t523 t524 from by repeat ((with_reducible first | exact HI0.out | refine IsS86.far ?_ NB0_525.out _))) (by exact (Kd.R_mono (Kd.R_far (p := ⟨gb525, 2, none⟩) (Kd.R_far (p := ⟨gb525, 1, none⟩) (Kd.R_far (p := ⟨gb525, 0, none⟩) (Kd.R_types HO522.out BK525.out (by decide)) (fun _ hk => hk.2) (.slice Ao56 t514.length co56)) (fun _ hk => hk.2) (.slice Ao60 t517.length co60)) (fun _ hk => hk.2) (.slice Ao61 t520.length co61)) (fun _ h_ => h_.1))) (by decide)) hk (fun _ h => h.2)) (fun _ h => h.1)); replace BK525 := Aside0.mk (KeepBut.blk hk (g' := gb525) (o := .cells #[.slice Ao56 t514.length co56, .slice Ao60 t517.length co60, .slice Ao61 t520.length co61] 38 (0, 0)) (by refine blk_put (cs := #[.slice Ao56 t514.length co56, .slice Ao60 t517.length co60, .slice none 0 0]) ?_ 2 _ rfl; refine blk_put (cs := #[.slice Ao56 t514.length co56, .slice none 0 0, .slice none 0 0]) ?_ 1 _ rfl; refine blk_put (cs := #[.slice none 0 0, .slice none 0 0, .slice none 0 0]) ?_ 0 _ rfl; exact BK525.out) NB525_0.out (by simp)); replace HK := Aside0.mk (KeepBut.trans z32_ hk (.inl rfl)); replace HB := Aside0.mk (hb); replace HI0 := Aside0.mk (hi); (try clear hb hk hi)))
     have n0_ := Aside0.mk (Kd.Q_drew HO_7.out)
     have n1_ := Aside0.mk (Kd.R_drew HO_8.out)
     have n2_ := Aside0.mk (Kd.R_drew HO516.out)
     have n3_ := Aside0.mk (Kd.R_drew HO519.out)
     have n4_ := Aside0.mk (Kd.R_drew HO522.out)
     have n5_ := Aside0.mk (blk_drew BK495.out)
     have n6_ := Aside0.mk (blk_drew BK525.out)
     have n7_ := Aside0.mk (IsS86.drew HI0.out)
     have n8_ := Aside0.mk (keep_drew HK.out)
     have n9_ := Aside0.mk (below_drew1 HB.out)
     clear HO_7
     clear HO_8
     clear HO516
     clear HO519
     clear HO522
     clear BK495
     clear BK525
     clear HI0
     clear HK
     clear HB
     have HO_7 := n0_
     have HO_8 := n1_
     have HO516 := n2_
     have HO519 := n3_
     have HO522 := n4_
     have BK495 := n5_
     have BK525 := n6_
     have HI0 := n7_
     have HK := n8_
     have HB := n9_
     clear n0_ n1_ n2_ n3_ n4_ n5_ n6_ n7_ n8_ n9_
     refine start_ (n := 6) (S := fun w' => w'.cell? ⟨gb525, 0, none⟩ = some (.slice Ao56 t514.length co56) ∧ w'.cell? ⟨gb525, 1, none⟩ = some (.slice Ao60 t517.length co60) ∧ w'.cell? ⟨gb525, 2, none⟩ = some (.slice Ao61 t520.length co61)) (ds := []) (fl_ 6 0) (by kernel_rfl) rfl (fl_zero _) ⟨(blk_cell BK525.out 0).trans rfl, (blk_cell BK525.out 1).trans rfl, (blk_cell BK525.out 2).trans rfl⟩ (fun hHeld => ?_)
     generalize w62.drew = w63 at HO_7 HO_8 HO516 HO519 HO522 BK495 BK525 HI0 HK HB hHeld ⊢
     refine pure_ (i := 0) (N := some 34) (v := ?_) (a' := ?_) #[true, false, false, false, false, false] rfl rfl (by kernel_rfl) (fun _ _ _ h => h) (Or.inl ⟨by rfl, ?_⟩) ?_ ?_
     rotate_left
     ·intro w'
      go_simp
      with_reducible rfl
     rotate_left
     ·simp only [Act.put, List.setIfInBounds_toArray, List.set_cons_zero, List.set_cons_succ, i64_w, i32_w]
      rfl
     refine pure_ (i := 1) (N := some 35) (v := ?_) (a' := ?_) #[true, true, false, false, false, false] rfl rfl (by kernel_rfl) (fun _ _ _ h => h) (Or.inl ⟨by rfl, ?_⟩) ?_ ?_
     rotate_left
     ·intro w'
      go_simp
      with_reducible rfl
     rotate_left
     ·simp only [Act.put, List.setIfInBounds_toArray, List.set_cons_zero, List.set_cons_succ, i64_w, i32_w]
      rfl
     refine pure_ (i := 3) (N := some 4) (v := ?_) (a' := ?_) #[true, true, false, true, false, false] rfl rfl (by kernel_rfl) (fun _ _ _ h => h) (Or.inl ⟨by rfl, ?_⟩) ?_ ?_
     rotate_left
     ·intro w'
      go_simp
      with_reducible rfl
     rotate_left
     ·simp only [Act.put, List.setIfInBounds_toArray, List.set_cons_zero, List.set_cons_succ, i64_w, i32_w]
      rfl
     refine pure_ (i := 4) (N := some 5) (v := ?_) (a' := ?_) #[true, true, false, true, true, false] rfl rfl (by kernel_rfl) (fun _ _ _ h => h) (Or.inl ⟨by rfl, ?_⟩) ?_ ?_
     rotate_left
     ·intro w'
      go_simp
      with_reducible rfl
     rotate_left
     ·simp only [Act.put, List.setIfInBounds_toArray, List.set_cons_zero, List.set_cons_succ, i64_w, i32_w]
      rfl
     refine take_ (i := 2) (N := some 36) (v := ?_) (a' := ?_) #[true, true, true, true, true, false] rfl rfl (by kernel_rfl) (fun _ _ _ h => h) (Or.inl ⟨by rfl, ?_⟩) hHeld ?_ ?_
     rotate_left
     ·rintro w' ⟨s0, s1, s2⟩
      go_simp
      with_reducible rfl
     rotate_left
     ·simp only [Act.put, List.setIfInBounds_toArray, List.set_cons_zero, List.set_cons_succ, i64_w, i32_w]
      rfl
     refine one_ (i := 5) (N := none) (fl_ 6 6) rfl rfl (by kernel_rfl) (by decide) (fun K hK => ?_)
     have hs64 : w63.cell? ⟨gb495, 0, none⟩ = some (.slice none 0 0) := (blk_cell BK495.out 0).trans rfl
     have hfs64 := blk_frozen BK495.out 0
     have hns64_1 := NB525_495.out
     have hms64_1 := NB495_525.out
     have hs65 : w63.cell? ⟨gb495, 1, none⟩ = some (.slice none 0 0) := (blk_cell BK495.out 1).trans rfl
     have hfs65 := blk_frozen BK495.out 1
     have hns65_1 := NB525_495.out
     have hms65_1 := NB495_525.out
     have hs66 : w63.cell? ⟨gb495, 2, none⟩ = some (.slice none 0 0) := (blk_cell BK495.out 2).trans rfl
     have hfs66 := blk_frozen BK495.out 2
     have hns66_1 := NB525_495.out
     have hms66_1 := NB495_525.out
     refine skip_ (w1 := ?_) (by rfl) rfl ?_ ?_
     rotate_left
     ·go_simp
      rfl
     refine hK.out _ _ ⟨((cell_far (p := ⟨gb495, _, none⟩) NB525_495.out _).trans (((cell_far (p := ⟨gb495, _, none⟩) NB525_495.out _).trans (((cell_far (p := ⟨gb495, _, none⟩) NB525_495.out _).trans (hHeld.1)))))), ((cell_far (p := ⟨gb495, _, none⟩) NB525_495.out _).trans (((cell_far (p := ⟨gb495, _, none⟩) NB525_495.out _).trans (((cell_far (p := ⟨gb495, _, none⟩) NB525_495.out _).trans (hHeld.2.1)))))), ((cell_far (p := ⟨gb495, _, none⟩) NB525_495.out _).trans (((cell_far (p := ⟨gb495, _, none⟩) NB525_495.out _).trans (((cell_far (p := ⟨gb495, _, none⟩) NB525_495.out _).trans (hHeld.2.2))))))⟩ (fun hHeld => ?_)
     clear hK K
     refine done_ (by kernel_rfl) ?_
     try go_wp2
     refine bodyPost_ret (results_list (rs := [.tmp 4, .tmp 5, .cell 6 38]) rfl (by simp) (.tmp (.tmp (.cell gb495 38 #[.slice Ao56 t514.length co56, .slice Ao60 t517.length co60, .slice Ao61 t520.length co61] (0, 0) _ rfl (by refine blk_put (cs := #[.slice Ao56 t514.length co56, .slice Ao60 t517.length co60, .slice none 0 0]) ?_ 2 _ rfl; refine blk_put (cs := #[.slice Ao56 t514.length co56, .slice none 0 0, .slice none 0 0]) ?_ 1 _ rfl; refine blk_put (cs := #[.slice none 0 0, .slice none 0 0, .slice none 0 0]) ?_ 0 _ rfl; exact BK495.out) Try.underlying38 rfl (by kernel_rfl) .nil)))) rfl ?_
     exact ⟨_, _, _, _, _, z6_, by exact Kd.Q_mono (Kd.Q_far (p := ⟨gb495, 2, none⟩) (Kd.Q_far (p := ⟨gb495, 1, none⟩) (Kd.Q_far (p := ⟨gb495, 0, none⟩) (Kd.Q_types HO_7.out BK495.out (by decide)) (fun _ hk => hk.2) (.slice Ao56 t514.length co56)) (fun _ hk => hk.2) (.slice Ao60 t517.length co60)) (fun _ hk => hk.2) (.slice Ao61 t520.length co61)) (fun _ hk => hk.1), by exact Kd.R_mono (Kd.R_far (p := ⟨gb495, 2, none⟩) (Kd.R_far (p := ⟨gb495, 1, none⟩) (Kd.R_far (p := ⟨gb495, 0, none⟩) (Kd.R_types HO_8.out BK495.out (by decide)) (fun _ hk => hk.2) (.slice Ao56 t514.length co56)) (fun _ hk => hk.2) (.slice Ao60 t517.length co60)) (fun _ hk => hk.2) (.slice Ao61 t520.length co61)) (fun _ hk => hk.1), by exact Kd.R_mono (Kd.R_far (p := ⟨gb495, 2, none⟩) (Kd.R_far (p := ⟨gb495, 1, none⟩) (Kd.R_far (p := ⟨gb495, 0, none⟩) (Kd.R_types HO516.out BK495.out (by decide)) (fun _ hk => hk.2) (.slice Ao56 t514.length co56)) (fun _ hk => hk.2) (.slice Ao60 t517.length co60)) (fun _ hk => hk.2) (.slice Ao61 t520.length co61)) (fun _ hk => ⟨hk.1.1, hk.1.2⟩), Kd.Q_of_R (by exact Kd.R_mono (Kd.R_far (p := ⟨gb495, 2, none⟩) (Kd.R_far (p := ⟨gb495, 1, none⟩) (Kd.R_far (p := ⟨gb495, 0, none⟩) (Kd.R_types HO519.out BK495.out (by decide)) (fun _ hk => hk.2) (.slice Ao56 t514.length co56)) (fun _ hk => hk.2) (.slice Ao60 t517.length co60)) (fun _ hk => hk.2) (.slice Ao61 t520.length co61)) (fun _ hk => ⟨hk.1.1, hk.1.2⟩)), by exact Kd.R_mono (Kd.R_far (p := ⟨gb495, 2, none⟩) (Kd.R_far (p := ⟨gb495, 1, none⟩) (Kd.R_far (p := ⟨gb495, 0, none⟩) (Kd.R_types HO522.out BK495.out (by decide)) (fun _ hk => hk.2) (.slice Ao56 t514.length co56)) (fun _ hk => hk.2) (.slice Ao60 t517.length co60)) (fun _ hk => hk.2) (.slice Ao61 t520.length co61)) (fun _ hk => ⟨hk.1.1, hk.1.2⟩), z45_, z46_, z32_⟩

/-! ### spec_DrawRootDist: function 31 -/
def spec_DrawRootDist.f (k : Nat) (l0 : List Int) : Option ((List (S61)) × (List (S61)) × List Int × List Int × List Int) := (spec_l1New.f k l0).bind fun bt546 => ((spec_l8Draw.f k bt546.1 bt546.2.1 bt546.2.2 12).bind fun bt550 => (some (bt550.1, bt550.2.1, bt550.2.2.1, bt550.2.2.2.1, bt550.2.2.2.2.1)))
set_option maxHeartbeats 8000000 in
set_option maxRecDepth 100000 in
theorem spec_DrawRootDist.calls (k : Nat) (A0 : Option Addr) (c0 : Nat) (l0 : List Int) (r1 : List (S61)) (r2 : List (S61)) (r3 : List Int) (r4 : List Int) (r5 : List Int) (w : World) (hr0 : Kd.C (Kd.int .u8) w A0 l0.length l0) (hc0 : l0.length ≤ c0) (h : spec_DrawRootDist.f k l0 = some (r1, r2, r3, r4, r5)) :
  Calls Try.prog 31 #[.slice A0 l0.length c0] w fun e w' => ∃ v0_ v1_ v2_ v3_ v4_ : Value, e = .returned (.tuple #[v0_, v1_, .agg #[v2_, v3_, v4_]]) ∧ Kd.Q k61 61 w' w.heap.size (fun k_ => some k_ ≠ (v1_ : Value).ownBlock) v0_ r1 ∧ Kd.R k61 61 w' w.heap.size (fun k_ => some k_ ≠ (v0_ : Value).ownBlock) v1_ r2 ∧ Kd.R (Kd.int .i64) 3 w' w.heap.size (fun k_ => some k_ ≠ (v3_ : Value).ownBlock ∧ some k_ ≠ (v4_ : Value).ownBlock) v2_ r3 ∧ Kd.Q (Kd.int .i64) 3 w' w.heap.size (fun k_ => some k_ ≠ (v2_ : Value).ownBlock ∧ some k_ ≠ (v4_ : Value).ownBlock) v3_ r4 ∧ Kd.R (Kd.int .i64) 3 w' w.heap.size (fun k_ => some k_ ≠ (v2_ : Value).ownBlock ∧ some k_ ≠ (v3_ : Value).ownBlock) v4_ r5 ∧ Below w.heap.size w w' := by
 have hu38 := Try.underlying38
 have HR0 := Aside0.mk hr0
 have HC0 := Aside0.mk hc0
 clear hr0 hc0
 have HB := Aside0.mk (Below.refl w.heap.size w)
 have H : ((spec_l1New.f k l0).bind fun bt546 => ((spec_l8Draw.f k bt546.1 bt546.2.1 bt546.2.2 12).bind fun bt550 => (some (bt550.1, bt550.2.1, bt550.2.2.1, bt550.2.2.2.1, bt550.2.2.2.2.1)))) = some (r1, r2, r3, r4, r5) := h
 clear h
 replace H := Option.bind_eq_some_iff.mp H
 obtain ⟨⟨t546, t547, t548⟩, A20, H⟩ := H
 try dsimp only at H
 have A2 := Aside0.mk A20
 clear A20
 replace H := Option.bind_eq_some_iff.mp H
 obtain ⟨⟨t550, t553, t556, t559, t562, t565, t566⟩, A30, H⟩ := H
 try dsimp only at H
 have A3 := Aside0.mk A30
 clear A30
 simp only [Option.some.injEq, Prod.mk.injEq] at H
 obtain ⟨rfl, rfl, rfl, rfl, rfl⟩ := H
 go_enter Try.func31, Try.ntmps31
 try go_wp2_with (first | ((with_reducible refine gate_dst (N := 4) rfl ?_); refine box_event ?hg (N := 4) ?hd (cs := #[.slice none 0 0, .slice none 0 0, .slice none 0 0]) (t := 38) ?hr ?_; (case hd => rfl); (case hg => rfl); (case hr => exact z19_); intro gb545 hg w4 hbox hb; have BK545 := Aside0.mk (hbox); have GW545 := Aside0.mk ((by rw [hg]; exact (below_size z0_) : w.heap.size ≤ gb545)); have GE545 := Aside0.mk ((by rw [hg]; exact (below_size z0_) : w.heap.size ≤ gb545)); replace HB := Aside0.mk (below_step z0_ hb); clear hb hbox hg) | ((with_reducible refine gate_callee (f := 45) rfl ?_); refine goesL_ (some 10) rfl rfl Try.func45 (by kernel_rfl) rfl #[.slice A0 l0.length c0] rfl z1_ ?_; (with_reducible refine (spec_l1New.calls k _ _ l0 t546 t547 t548 w _ ?side1 ?side2 ?side3 A2.out).mono ?_); (case side1 => repeat ((with_reducible exact HB.out))); (case side2 => exact HR0.out); (case side3 => exact HC0.out); rintro e w5 ⟨g549, rfl, hi, hb, hb2⟩; refine ⟨_, rfl, ?_⟩; replace HB := Aside0.mk (hb); have HI549 := Aside0.mk (hi); have NB549_545 := Aside0.mk (IsS86.ne_blk hi (blk_below z105_ hb2) (by decide)); have NB545_549 := Aside0.mk (Ne.symm (IsS86.ne_blk hi (blk_below z105_ hb2) (by decide))); replace BK545 := Aside0.mk (blk_below z105_ hb2); (try clear hb hb2 hi)) | ((with_reducible refine gate_callee (f := 56) rfl ?_); refine goesL_ (some 11) rfl rfl Try.func56 (by kernel_rfl) rfl #[.pointer (some ⟨g549, 0, none⟩), .int .i64 12] rfl z1_ ?_; (with_reducible refine (spec_l8Draw.calls k g549 t546 t547 t548 12 t550 t553 t556 t559 t562 t565 t566 w _ ?side1 ?side2 A3.out).mono ?_); (case side1 => exact z176_); (case side2 => exact z52_); rintro e w6 ⟨v551, v554, v557, v560, v563, rfl, ho0, ho1, ho2, ho3, ho4, hi, hb, hk⟩; refine ⟨_, rfl, ?_⟩; replace BK545 := Aside0.mk (KeepBut.blk hk (g' := gb545) (o := .cells #[.slice none 0 0, .slice none 0 0, .slice none 0 0] 38 (0, 0)) z105_ NB545_549.out (by simp)); have HO552 := Aside0.mk (Kd.Q_lower ho0 (below_size z52_)); have HO555 := Aside0.mk (Kd.R_lower ho1 (below_size z52_)); have HO558 := Aside0.mk (Kd.R_lower ho2 (below_size z52_)); have HO561 := Aside0.mk (Kd.Q_lower ho3 (below_size z52_)); have HO564 := Aside0.mk (Kd.R_lower ho4 (below_size z52_)); replace HB := Aside0.mk (hb); replace HI549 := Aside0.mk (hi); (try clear hb hk hi ho0 ho1 ho2 ho3 ho4)) | ((with_reducible refine gate_dst (N := 7) rfl ?_); refine box_event ?hg (N := 7) ?hd (cs := #[.slice none 0 0, .slice none 0 0, .slice none 0 0]) (t := 38) ?hr ?_; (case hd => rfl); (case hg => rfl); (case hr => exact z19_); intro gb567 hg w7 hbox hb; replace HO552 := Aside0.mk (Kd.Q_below (by exact HO552.out) hb); replace HO555 := Aside0.mk (Kd.R_below (by exact HO555.out) hb); replace HO558 := Aside0.mk (Kd.R_below (by exact HO558.out) hb); replace HO561 := Aside0.mk (Kd.Q_below (by exact HO561.out) hb); replace HO564 := Aside0.mk (Kd.R_below (by exact HO564.out) hb); have BK567 := Aside0.mk (hbox); have GW567 := Aside0.mk ((by rw [hg]; exact (below_size z52_) : w.heap.size ≤ gb567)); have GE567 := Aside0.mk ((by rw [hg]; exact (below_size z52_) : w.heap.size ≤ gb567)); replace HB := Aside0.mk (below_step z52_ hb); have NB545_567 := Aside0.mk ((by rw [hg]; exact Nat.ne_of_lt (blk_lt (g := gb545) (o := .cells #[.slice none 0 0, .slice none 0 0, .slice none 0 0] 38 (0, 0)) z105_) : gb545 ≠ gb567)); have NB567_545 := Aside0.mk ((by rw [hg]; exact Nat.ne_of_gt (blk_lt (g := gb545) (o := .cells #[.slice none 0 0, .slice none 0 0, .slice none 0 0] 38 (0, 0)) z105_) : gb567 ≠ gb545)); replace BK545 := Aside0.mk (blk_below z105_ hb); have NB549_567 := Aside0.mk ((by rw [hg]; exact Nat.ne_of_lt (IsS86.lt (show IsS86 w _ g549 t546 t565 t566 from by repeat ((with_reducible exact HI549.out)))) : g549 ≠ gb567)); have NB567_549 := Aside0.mk ((by rw [hg]; exact Nat.ne_of_gt (IsS86.lt (show IsS86 w _ g549 t546 t565 t566 from by repeat ((with_reducible exact HI549.out)))) : gb567 ≠ g549)); replace HI549 := Aside0.mk (IsS86.below z176_ hb); clear hb hbox hg; obtain ⟨Ao8, co8, eo8⟩ := Kd.R_slice HO558.out; subst eo8; have hnb9 := NB567_545.out; have hnc9 := NB545_567.out; have hnb10 := NB567_549.out; have hnc10 := NB549_567.out; obtain ⟨hcz11_0, hcz11_1, hcz11_2, hfz11_0, hfz11_1, hfz11_2⟩ := bx3_ BK567.out; obtain ⟨Ao12, co12, eo12, _⟩ := Kd.Q_slice HO561.out; subst eo12; obtain ⟨Ao13, co13, eo13⟩ := Kd.R_slice HO564.out; subst eo13))
 have n0_ : Aside0 (Kd.Q k61 61 (((w7.setCell ⟨gb567, 0, none⟩ (.slice Ao8 t556.length co8)).setCell ⟨gb567, 1, none⟩ (.slice Ao12 t559.length co12)).setCell ⟨gb567, 2, none⟩ (.slice Ao13 t562.length co13)) w.heap.size (fun k_ => some k_ ≠ (v554 : Value).ownBlock) v551 t550) := ⟨by exact Kd.Q_mono (Kd.Q_far (p := ⟨gb567, 2, none⟩) (Kd.Q_far (p := ⟨gb567, 1, none⟩) (Kd.Q_far (p := ⟨gb567, 0, none⟩) (Kd.Q_types HO552.out BK567.out (by decide)) (fun _ hk => hk.2) (.slice Ao8 t556.length co8)) (fun _ hk => hk.2) (.slice Ao12 t559.length co12)) (fun _ hk => hk.2) (.slice Ao13 t562.length co13)) (fun _ hk => hk.1)⟩
 have n1_ : Aside0 (Kd.R k61 61 (((w7.setCell ⟨gb567, 0, none⟩ (.slice Ao8 t556.length co8)).setCell ⟨gb567, 1, none⟩ (.slice Ao12 t559.length co12)).setCell ⟨gb567, 2, none⟩ (.slice Ao13 t562.length co13)) w.heap.size (fun k_ => some k_ ≠ (v551 : Value).ownBlock) v554 t553) := ⟨by exact Kd.R_mono (Kd.R_far (p := ⟨gb567, 2, none⟩) (Kd.R_far (p := ⟨gb567, 1, none⟩) (Kd.R_far (p := ⟨gb567, 0, none⟩) (Kd.R_types HO555.out BK567.out (by decide)) (fun _ hk => hk.2) (.slice Ao8 t556.length co8)) (fun _ hk => hk.2) (.slice Ao12 t559.length co12)) (fun _ hk => hk.2) (.slice Ao13 t562.length co13)) (fun _ hk => hk.1)⟩
 have n2_ : Aside0 (Kd.R (Kd.int .i64) 3 (((w7.setCell ⟨gb567, 0, none⟩ (.slice Ao8 t556.length co8)).setCell ⟨gb567, 1, none⟩ (.slice Ao12 t559.length co12)).setCell ⟨gb567, 2, none⟩ (.slice Ao13 t562.length co13)) w.heap.size (fun k_ => some k_ ≠ (.slice Ao12 t559.length co12 : Value).ownBlock ∧ some k_ ≠ (.slice Ao13 t562.length co13 : Value).ownBlock) (.slice Ao8 t556.length co8) t556) := ⟨by exact Kd.R_mono (Kd.R_far (p := ⟨gb567, 2, none⟩) (Kd.R_far (p := ⟨gb567, 1, none⟩) (Kd.R_far (p := ⟨gb567, 0, none⟩) (Kd.R_types HO558.out BK567.out (by decide)) (fun _ hk => hk.2) (.slice Ao8 t556.length co8)) (fun _ hk => hk.2) (.slice Ao12 t559.length co12)) (fun _ hk => hk.2) (.slice Ao13 t562.length co13)) (fun _ hk => ⟨hk.1.1, hk.1.2⟩)⟩
 have n3_ : Aside0 (Kd.Q (Kd.int .i64) 3 (((w7.setCell ⟨gb567, 0, none⟩ (.slice Ao8 t556.length co8)).setCell ⟨gb567, 1, none⟩ (.slice Ao12 t559.length co12)).setCell ⟨gb567, 2, none⟩ (.slice Ao13 t562.length co13)) w.heap.size (fun k_ => some k_ ≠ (.slice Ao8 t556.length co8 : Value).ownBlock ∧ some k_ ≠ (.slice Ao13 t562.length co13 : Value).ownBlock) (.slice Ao12 t559.length co12) t559) := ⟨by exact Kd.Q_mono (Kd.Q_far (p := ⟨gb567, 2, none⟩) (Kd.Q_far (p := ⟨gb567, 1, none⟩) (Kd.Q_far (p := ⟨gb567, 0, none⟩) (Kd.Q_types HO561.out BK567.out (by decide)) (fun _ hk => hk.2) (.slice Ao8 t556.length co8)) (fun _ hk => hk.2) (.slice Ao12 t559.length co12)) (fun _ hk => hk.2) (.slice Ao13 t562.length co13)) (fun _ hk => ⟨hk.1.1, hk.1.2⟩)⟩
 have n4_ : Aside0 (Kd.R (Kd.int .i64) 3 (((w7.setCell ⟨gb567, 0, none⟩ (.slice Ao8 t556.length co8)).setCell ⟨gb567, 1, none⟩ (.slice Ao12 t559.length co12)).setCell ⟨gb567, 2, none⟩ (.slice Ao13 t562.length co13)) w.heap.size (fun k_ => some k_ ≠ (.slice Ao8 t556.length co8 : Value).ownBlock ∧ some k_ ≠ (.slice Ao12 t559.length co12 : Value).ownBlock) (.slice Ao13 t562.length co13) t562) := ⟨by exact Kd.R_mono (Kd.R_far (p := ⟨gb567, 2, none⟩) (Kd.R_far (p := ⟨gb567, 1, none⟩) (Kd.R_far (p := ⟨gb567, 0, none⟩) (Kd.R_types HO564.out BK567.out (by decide)) (fun _ hk => hk.2) (.slice Ao8 t556.length co8)) (fun _ hk => hk.2) (.slice Ao12 t559.length co12)) (fun _ hk => hk.2) (.slice Ao13 t562.length co13)) (fun _ hk => ⟨hk.1.1, hk.1.2⟩)⟩
 have n5_ : Aside0 ((((w7.setCell ⟨gb567, 0, none⟩ (.slice Ao8 t556.length co8)).setCell ⟨gb567, 1, none⟩ (.slice Ao12 t559.length co12)).setCell ⟨gb567, 2, none⟩ (.slice Ao13 t562.length co13)).heap[gb545]? = some (.cells #[.slice none 0 0, .slice none 0 0, .slice none 0 0] 38 (0, 0))) := ⟨by refine blk_far ?_ NB545_567.out _; refine blk_far ?_ NB545_567.out _; refine blk_far ?_ NB545_567.out _; exact BK545.out⟩
 have n6_ : Aside0 ((((w7.setCell ⟨gb567, 0, none⟩ (.slice Ao8 t556.length co8)).setCell ⟨gb567, 1, none⟩ (.slice Ao12 t559.length co12)).setCell ⟨gb567, 2, none⟩ (.slice Ao13 t562.length co13)).heap[gb567]? = some (.cells #[.slice Ao8 t556.length co8, .slice Ao12 t559.length co12, .slice Ao13 t562.length co13] 38 (0, 0))) := ⟨by refine blk_put (cs := #[.slice Ao8 t556.length co8, .slice Ao12 t559.length co12, .slice none 0 0]) ?_ 2 _ rfl; refine blk_put (cs := #[.slice Ao8 t556.length co8, .slice none 0 0, .slice none 0 0]) ?_ 1 _ rfl; refine blk_put (cs := #[.slice none 0 0, .slice none 0 0, .slice none 0 0]) ?_ 0 _ rfl; exact BK567.out⟩
 have n7_ : Aside0 (IsS86 w (((w7.setCell ⟨gb567, 0, none⟩ (.slice Ao8 t556.length co8)).setCell ⟨gb567, 1, none⟩ (.slice Ao12 t559.length co12)).setCell ⟨gb567, 2, none⟩ (.slice Ao13 t562.length co13)) g549 t546 t565 t566) := ⟨by repeat ((with_reducible first | exact HI549.out | refine IsS86.far ?_ NB549_567.out _))⟩
 have n8_ : Aside0 (Below w.heap.size w (((w7.setCell ⟨gb567, 0, none⟩ (.slice Ao8 t556.length co8)).setCell ⟨gb567, 1, none⟩ (.slice Ao12 t559.length co12)).setCell ⟨gb567, 2, none⟩ (.slice Ao13 t562.length co13))) := ⟨z170_⟩
 (try clear HO552)
 (try clear HO555)
 (try clear HO558)
 (try clear HO561)
 (try clear HO564)
 (try clear BK545)
 (try clear BK567)
 (try clear HI549)
 (try clear HB)
 generalize (((w7.setCell ⟨gb567, 0, none⟩ (.slice Ao8 t556.length co8)).setCell ⟨gb567, 1, none⟩ (.slice Ao12 t559.length co12)).setCell ⟨gb567, 2, none⟩ (.slice Ao13 t562.length co13)) = w14 at n0_ n1_ n2_ n3_ n4_ n5_ n6_ n7_ n8_ ⊢
 have HO552 := n0_
 have HO555 := n1_
 have HO558 := n2_
 have HO561 := n3_
 have HO564 := n4_
 have BK545 := n5_
 have BK567 := n6_
 have HI549 := n7_
 have HB := n8_
 clear n0_ n1_ n2_ n3_ n4_ n5_ n6_ n7_ n8_
 have n0_ := Aside0.mk (Kd.Q_drew HO552.out)
 have n1_ := Aside0.mk (Kd.R_drew HO555.out)
 have n2_ := Aside0.mk (Kd.R_drew HO558.out)
 have n3_ := Aside0.mk (Kd.Q_drew HO561.out)
 have n4_ := Aside0.mk (Kd.R_drew HO564.out)
 have n5_ := Aside0.mk (blk_drew BK545.out)
 have n6_ := Aside0.mk (blk_drew BK567.out)
 have n7_ := Aside0.mk (IsS86.drew HI549.out)
 have n8_ := Aside0.mk (below_drew1 HB.out)
 clear HO552
 clear HO555
 clear HO558
 clear HO561
 clear HO564
 clear BK545
 clear BK567
 clear HI549
 clear HB
 have HO552 := n0_
 have HO555 := n1_
 have HO558 := n2_
 have HO561 := n3_
 have HO564 := n4_
 have BK545 := n5_
 have BK567 := n6_
 have HI549 := n7_
 have HB := n8_
 clear n0_ n1_ n2_ n3_ n4_ n5_ n6_ n7_ n8_
 refine start_ (n := 6) (S := fun w' => w'.cell? ⟨gb567, 0, none⟩ = some (.slice Ao8 t556.length co8) ∧ w'.cell? ⟨gb567, 1, none⟩ = some (.slice Ao12 t559.length co12) ∧ w'.cell? ⟨gb567, 2, none⟩ = some (.slice Ao13 t562.length co13)) (ds := []) (fl_ 6 0) (by kernel_rfl) rfl (fl_zero _) ⟨(blk_cell BK567.out 0).trans rfl, (blk_cell BK567.out 1).trans rfl, (blk_cell BK567.out 2).trans rfl⟩ (fun hHeld => ?_)
 generalize w14.drew = w15 at HO552 HO555 HO558 HO561 HO564 BK545 BK567 HI549 HB hHeld ⊢
 refine pure_ (i := 0) (N := some 15) (v := ?_) (a' := ?_) #[true, false, false, false, false, false] rfl rfl (by kernel_rfl) (fun _ _ _ h => h) (Or.inl ⟨by rfl, ?_⟩) ?_ ?_
 rotate_left
 ·intro w'
  go_simp
  with_reducible rfl
 rotate_left
 ·simp only [Act.put, List.setIfInBounds_toArray, List.set_cons_zero, List.set_cons_succ, i64_w, i32_w]
  rfl
 refine pure_ (i := 1) (N := some 16) (v := ?_) (a' := ?_) #[true, true, false, false, false, false] rfl rfl (by kernel_rfl) (fun _ _ _ h => h) (Or.inl ⟨by rfl, ?_⟩) ?_ ?_
 rotate_left
 ·intro w'
  go_simp
  with_reducible rfl
 rotate_left
 ·simp only [Act.put, List.setIfInBounds_toArray, List.set_cons_zero, List.set_cons_succ, i64_w, i32_w]
  rfl
 refine pure_ (i := 3) (N := some 2) (v := ?_) (a' := ?_) #[true, true, false, true, false, false] rfl rfl (by kernel_rfl) (fun _ _ _ h => h) (Or.inl ⟨by rfl, ?_⟩) ?_ ?_
 rotate_left
 ·intro w'
  go_simp
  with_reducible rfl
 rotate_left
 ·simp only [Act.put, List.setIfInBounds_toArray, List.set_cons_zero, List.set_cons_succ, i64_w, i32_w]
  rfl
 refine pure_ (i := 4) (N := some 3) (v := ?_) (a' := ?_) #[true, true, false, true, true, false] rfl rfl (by kernel_rfl) (fun _ _ _ h => h) (Or.inl ⟨by rfl, ?_⟩) ?_ ?_
 rotate_left
 ·intro w'
  go_simp
  with_reducible rfl
 rotate_left
 ·simp only [Act.put, List.setIfInBounds_toArray, List.set_cons_zero, List.set_cons_succ, i64_w, i32_w]
  rfl
 refine take_ (i := 2) (N := some 17) (v := ?_) (a' := ?_) #[true, true, true, true, true, false] rfl rfl (by kernel_rfl) (fun _ _ _ h => h) (Or.inl ⟨by rfl, ?_⟩) hHeld ?_ ?_
 rotate_left
 ·rintro w' ⟨s0, s1, s2⟩
  go_simp
  with_reducible rfl
 rotate_left
 ·simp only [Act.put, List.setIfInBounds_toArray, List.set_cons_zero, List.set_cons_succ, i64_w, i32_w]
  rfl
 refine one_ (i := 5) (N := none) (fl_ 6 6) rfl rfl (by kernel_rfl) (by decide) (fun K hK => ?_)
 have hs16 : w15.cell? ⟨gb545, 0, none⟩ = some (.slice none 0 0) := (blk_cell BK545.out 0).trans rfl
 have hfs16 := blk_frozen BK545.out 0
 have hns16_1 := NB567_545.out
 have hms16_1 := NB545_567.out
 have hs17 : w15.cell? ⟨gb545, 1, none⟩ = some (.slice none 0 0) := (blk_cell BK545.out 1).trans rfl
 have hfs17 := blk_frozen BK545.out 1
 have hns17_1 := NB567_545.out
 have hms17_1 := NB545_567.out
 have hs18 : w15.cell? ⟨gb545, 2, none⟩ = some (.slice none 0 0) := (blk_cell BK545.out 2).trans rfl
 have hfs18 := blk_frozen BK545.out 2
 have hns18_1 := NB567_545.out
 have hms18_1 := NB545_567.out
 refine skip_ (w1 := ?_) (by rfl) rfl ?_ ?_
 rotate_left
 ·go_simp
  rfl
 refine hK.out _ _ ⟨((cell_far (p := ⟨gb545, _, none⟩) NB567_545.out _).trans (((cell_far (p := ⟨gb545, _, none⟩) NB567_545.out _).trans (((cell_far (p := ⟨gb545, _, none⟩) NB567_545.out _).trans (hHeld.1)))))), ((cell_far (p := ⟨gb545, _, none⟩) NB567_545.out _).trans (((cell_far (p := ⟨gb545, _, none⟩) NB567_545.out _).trans (((cell_far (p := ⟨gb545, _, none⟩) NB567_545.out _).trans (hHeld.2.1)))))), ((cell_far (p := ⟨gb545, _, none⟩) NB567_545.out _).trans (((cell_far (p := ⟨gb545, _, none⟩) NB567_545.out _).trans (((cell_far (p := ⟨gb545, _, none⟩) NB567_545.out _).trans (hHeld.2.2))))))⟩ (fun hHeld => ?_)
 clear hK K
 refine done_ (by kernel_rfl) ?_
 try go_wp2
 refine bodyPost_ret (results_list (rs := [.tmp 2, .tmp 3, .cell 4 38]) rfl (by simp) (.tmp (.tmp (.cell gb545 38 #[.slice Ao8 t556.length co8, .slice Ao12 t559.length co12, .slice Ao13 t562.length co13] (0, 0) _ rfl (by refine blk_put (cs := #[.slice Ao8 t556.length co8, .slice Ao12 t559.length co12, .slice none 0 0]) ?_ 2 _ rfl; refine blk_put (cs := #[.slice Ao8 t556.length co8, .slice none 0 0, .slice none 0 0]) ?_ 1 _ rfl; refine blk_put (cs := #[.slice none 0 0, .slice none 0 0, .slice none 0 0]) ?_ 0 _ rfl; exact BK545.out) Try.underlying38 rfl (by kernel_rfl) .nil)))) rfl ?_
 exact ⟨_, _, _, _, _, z6_, by exact Kd.Q_mono (Kd.Q_far (p := ⟨gb545, 2, none⟩) (Kd.Q_far (p := ⟨gb545, 1, none⟩) (Kd.Q_far (p := ⟨gb545, 0, none⟩) (Kd.Q_types HO552.out BK545.out (by decide)) (fun _ hk => hk.2) (.slice Ao8 t556.length co8)) (fun _ hk => hk.2) (.slice Ao12 t559.length co12)) (fun _ hk => hk.2) (.slice Ao13 t562.length co13)) (fun _ hk => hk.1), by exact Kd.R_mono (Kd.R_far (p := ⟨gb545, 2, none⟩) (Kd.R_far (p := ⟨gb545, 1, none⟩) (Kd.R_far (p := ⟨gb545, 0, none⟩) (Kd.R_types HO555.out BK545.out (by decide)) (fun _ hk => hk.2) (.slice Ao8 t556.length co8)) (fun _ hk => hk.2) (.slice Ao12 t559.length co12)) (fun _ hk => hk.2) (.slice Ao13 t562.length co13)) (fun _ hk => hk.1), by exact Kd.R_mono (Kd.R_far (p := ⟨gb545, 2, none⟩) (Kd.R_far (p := ⟨gb545, 1, none⟩) (Kd.R_far (p := ⟨gb545, 0, none⟩) (Kd.R_types HO558.out BK545.out (by decide)) (fun _ hk => hk.2) (.slice Ao8 t556.length co8)) (fun _ hk => hk.2) (.slice Ao12 t559.length co12)) (fun _ hk => hk.2) (.slice Ao13 t562.length co13)) (fun _ hk => ⟨hk.1.1, hk.1.2⟩), by exact Kd.Q_mono (Kd.Q_far (p := ⟨gb545, 2, none⟩) (Kd.Q_far (p := ⟨gb545, 1, none⟩) (Kd.Q_far (p := ⟨gb545, 0, none⟩) (Kd.Q_types HO561.out BK545.out (by decide)) (fun _ hk => hk.2) (.slice Ao8 t556.length co8)) (fun _ hk => hk.2) (.slice Ao12 t559.length co12)) (fun _ hk => hk.2) (.slice Ao13 t562.length co13)) (fun _ hk => ⟨hk.1.1, hk.1.2⟩), by exact Kd.R_mono (Kd.R_far (p := ⟨gb545, 2, none⟩) (Kd.R_far (p := ⟨gb545, 1, none⟩) (Kd.R_far (p := ⟨gb545, 0, none⟩) (Kd.R_types HO564.out BK545.out (by decide)) (fun _ hk => hk.2) (.slice Ao8 t556.length co8)) (fun _ hk => hk.2) (.slice Ao12 t559.length co12)) (fun _ hk => hk.2) (.slice Ao13 t562.length co13)) (fun _ hk => ⟨hk.1.1, hk.1.2⟩), z170_⟩

/-! ### impl_hasNode: function 88 -/
def impl_hasNode.f (k : Nat) (l0 : List (S61)) (a1 : Int) : Option (Bool) := (impl_TreeOk.f k l0).bind fun t568 => (if t568 = true then ((impl_within.f a1 0 (wrap64 ((l0.length : Int) - 1))).bind fun t569 => (some t569)) else (some false))
set_option maxHeartbeats 8000000 in
set_option maxRecDepth 100000 in
theorem impl_hasNode.calls (k : Nat) (A0 : Option Addr) (c0 : Nat) (l0 : List (S61)) (a1 : Int) (r : Bool) (w : World) (hr0 : Kd.C k61 w A0 l0.length l0) (hc0 : l0.length ≤ c0) (h : impl_hasNode.f k l0 a1 = some r) :
  Calls Try.prog 88 #[.slice A0 l0.length c0, .int .i64 a1] w fun e w' => e = .returned (.bool r) ∧ Below w.heap.size w w' := by
 have HR0 := Aside0.mk hr0
 have HC0 := Aside0.mk hc0
 clear hr0 hc0
 have HB := Aside0.mk (Below.refl w.heap.size w)
 have H : ((impl_TreeOk.f k l0).bind fun t568 => (if t568 = true then ((impl_within.f a1 0 (wrap64 ((l0.length : Int) - 1))).bind fun t569 => (some t569)) else (some false))) = some r := h
 clear h
 obtain ⟨t568, A3, H⟩ := bnd_ H
 by_cases c4 : t568 = true
 ·subst c4
  replace H := ift_ H
  obtain ⟨t569, A5, H⟩ := bnd_ H
  obtain rfl := Option.some.inj H
  go_enter Try.func88, Try.ntmps88
  go_wp2_with (first | ((with_reducible refine gate_callee (f := 57) rfl ?_); refine goesL_ (some 6) rfl rfl Try.func57 (by kernel_rfl) rfl #[.slice A0 l0.length c0] rfl z1_ ?_; (with_reducible refine (impl_TreeOk.calls k _ _ l0 true _ ?side1 ?side2 A3.out).mono ?_); (case side1 => exact z22_); (case side2 => exact HC0.out); rintro e w6 ⟨rfl, hb⟩; refine ⟨_, rfl, ?_⟩; replace HB := Aside0.mk (below_step z0_ hb); (try clear hb)) | (go_at_call 74; (with_reducible refine (impl_within.calls a1 0 (wrap64 ((l0.length : Int) - 1)) t569 _ A5.out).mono ?_); rintro e w' ⟨rfl, ⟨nd, rfl⟩⟩))
  go_ret
  exact ⟨z6_, z0_⟩
 ·replace c4 := Bool.eq_false_iff.mpr c4
  subst c4
  replace H := iff_ H
  obtain rfl := Option.some.inj H
  go_enter Try.func88, Try.ntmps88
  go_wp2_with (((with_reducible refine gate_callee (f := 57) rfl ?_); refine goesL_ (some 6) rfl rfl Try.func57 (by kernel_rfl) rfl #[.slice A0 l0.length c0] rfl z1_ ?_; (with_reducible refine (impl_TreeOk.calls k _ _ l0 false _ ?side1 ?side2 A3.out).mono ?_); (case side1 => exact z22_); (case side2 => exact HC0.out); rintro e w7 ⟨rfl, hb⟩; refine ⟨_, rfl, ?_⟩; replace HB := Aside0.mk (below_step z0_ hb); (try clear hb)))
  go_ret
  exact ⟨z6_, z0_⟩

end Go.Proofs.Ytbmkobanpakohaa.PFnMirrored
