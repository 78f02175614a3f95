/- Laid by a program of this session out of the kit's print for the law FnKept: what it says of the machine is proved here, function by function; each contract under the conditions that it names. -/
import Derived.Test.YtbiffnahknkoiaaMFnKeptx0
import Derived.Test.YtbiffnahknkoiaaMFnKeptx2
import Derived.Test.YtbiffnahknkoiaaMFnKeptx10
import Derived.Test.YtbiffnahknkoiaaMFnKeptx11
namespace Go.Proofs.Ytbiffnahknkoiaa.PFnKept
open Go.RowKit Go.Proofs.YtbiffnahknkoiaaW.PrintWords Go.Proofs.YtbiffnahknkoiaaW.PrintLast Go.Proofs.YtbiffnahknkoiaaW.PrintMore
attribute [local go_sem] max2_int min2_int max_two min_two max_three min_three max_four min_four   -- for this text's walks alone
set_option linter.unusedVariables false
set_option linter.unusedSimpArgs false

/-! ### spec_l10Map: function 101 -/
mutual
def spec_l10Map.l0 : Nat → List (S45) → List (S45) → List (S47) → Int → List Int → Int → Int → Option ((List (S47)) × Int × Int)
 | 0, _, _, _, _, _, _, _ => none
 | k + 1, x1, x2, x7, x8, x1000, x1001, x1002 => if x8 < (x1.length : Int) then (spec_l10Map.l1 k x1 x2 x7 x8 0 x1000 x1001 x1002) else (some (x7, x1001, x1002))
def spec_l10Map.l1 : Nat → List (S45) → List (S45) → List (S47) → Int → Int → List Int → Int → Int → Option ((List (S47)) × Int × Int)
 | 0, _, _, _, _, _, _, _, _ => none
 | k + 1, x1, x2, x7, x8, x9, x1000, x1001, x1002 => if x9 < 3 then ((some (([] : List (S47)) : List (S47))).bind fun y433 => (if y433.length + x7.length < 8796093022208 then ((some (y433 ++ x7 : List (S47))).bind fun y436 => (if 0 ≤ (wrap64 ((x7.length : Int) - 1)) then (if (wrap64 ((x7.length : Int) - 1)) < (x7.length : Int) then ((spec_l1Below.f x1000 x1001 x1002 3).bind fun bt440 => (if y436.length < 8796093022208 then ((some (y436 ++ [(⟨x8, wrap64 ((wrap64 (((rd_T47 x7 (wrap64 ((x7.length : Int) - 1))).f1) + 1)) + bt440.1)⟩ : S47)] : List (S47))).bind fun y443 => ((spec_MapOk.f k x1 x2 y443).bind fun t446 => (if t446 = true then (spec_l10Map.l0 k x1 x2 y443 (wrap64 (x8 + 1)) x1000 bt440.2.1 bt440.2.2) else (spec_l10Map.l1 k x1 x2 x7 x8 (wrap64 (x9 + 1)) x1000 bt440.2.1 bt440.2.2)))) else (none))) else (none)) else (none))) else (none))) else (spec_l10Map.l0 k x1 x2 x7 (wrap64 (x8 + 1)) x1000 x1001 x1002)
end
def spec_l10Map.f (k : Nat) (s0_0 : List Int) (s0_1 : Int) (s0_2 : Int) (l1 : List (S45)) (l2 : List (S45)) : Option ((List (S47)) × Int × Int) := spec_l10Map.l0 k l1 l2 (([(⟨0, 0⟩ : S47)] : List (S47))) 1 s0_0 s0_1 s0_2
set_option maxHeartbeats 8000000 in
set_option maxRecDepth 100000 in
theorem spec_l10Map.calls (k : Nat) (g : Nat) (s0_0 : List Int) (s0_1 : Int) (s0_2 : Int) (A1 : Option Addr) (c1 : Nat) (l1 : List (S45)) (A2 : Option Addr) (c2 : Nat) (l2 : List (S45)) (r1 : List (S47)) (r2 : Int) (r3 : Int) (w0 w : World) (hI : IsS115 w0 w g s0_0 s0_1 s0_2) (hB : Below w0.heap.size w0 w) (hr1 : ∀ W_, KeepBut w W_ g none → Kd.C k45 W_ A1 l1.length l1) (hc1 : l1.length ≤ c1) (hr2 : ∀ W_, KeepBut w W_ g none → Kd.C k45 W_ A2 l2.length l2) (hc2 : l2.length ≤ c2) (h : spec_l10Map.f k s0_0 s0_1 s0_2 l1 l2 = some (r1, r2, r3)) :
  Calls Try.prog 101 #[.pointer (some ⟨g, 0, none⟩), .slice A1 l1.length c1, .slice A2 l2.length c2] w fun e w' => ∃ v0_ : Value, e = .returned (v0_) ∧ Kd.R k47 47 w' w.heap.size (fun _ => True) v0_ r1 ∧ IsS115 w0 w' g s0_0 r2 r3 ∧ Below w0.heap.size w0 w' ∧ KeepBut w w' g none := by
 have hu47 := Try.underlying47
 have HR1 := Aside0.mk hr1
 have HC1 := Aside0.mk hc1
 clear hr1 hc1
 have HR2 := Aside0.mk hr2
 have HC2 := Aside0.mk hc2
 clear hr2 hc2
 have HI0 := Aside0.mk hI
 have HK := Aside0.mk (KeepBut.refl w g none)
 have HL := Aside0.mk hB.size
 clear hI
 have HW0 := Aside0.mk hB.size
 have HB := Aside0.mk hB
 clear hB
 have H : (spec_l10Map.l0 k l1 l2 (([(⟨0, 0⟩ : S47)] : List (S47))) 1 s0_0 s0_1 s0_2) = some (r1, r2, r3) := h
 clear h
 first | ((with_reducible have hz_ := gy_ H); obtain ⟨y430, Ny430, H⟩ := hz_) | (generalize hy_ : ((([(⟨0, 0⟩ : S47)] : List (S47))) : List (S47)) = y430 at H; have Ny430 := Aside0.mk hy_.symm; clear hy_)
 have H' := Aside0.mk H
 clear H
 go_enter Try.func101, Try.ntmps101
 go_wp2_with (first | ((with_reducible refine gate_dst (N := 12) rfl ?_); refine Kd.R_lit k47 _ 47 ?hg (N := 12) ?hd (xs := ([(⟨0, 0⟩ : S47)] : List (S47))) (inner := [.int .i64 0, .int .i64 0]) (ok := fun _ => True) (okp := fun _ => True) ?hr ?hp (fun _ hk => hk) trivial (Below.refl _ _) (Nat.le_refl _) (by simp) ?_; (case hd => rfl); (case hg => rfl); (case hr => exact z26_); (case hp => exact (Reps.c2 (show Kd.M k47 _ _ _ (⟨0, 0⟩ : S47) [.int .i64 0, .int .i64 0] from (k47_mkM _ _ _ (⟨0, 0⟩ : S47) )) (Reps.none _ _))); intro v431 w4 ho5 hb hg_ hnew_; clear hg_ hnew_; (first | rw [← Ny430.out] at ho5 | (simp only [Int.reduceToNat] at ho5; rw [← Ny430.out] at ho5)); have HO432 := Aside0.mk (Kd.R_lower ho5 (keep_size (w := w) (g := g) (row := none) z1_)); replace HK := Aside0.mk (KeepBut.trans z1_ (KeepBut.of_below hb g none) (.inl rfl)); replace HB := Aside0.mk (below_step z3_ hb); replace HI0 := Aside0.mk (IsS115.below z2_ hb); clear hb ho5))
 go_loopg [7, 8] k (fun kq v7 v8 w' => ∃ (x7_1 : List (S47)) (x8_1 : Int) (x1001_1 : Int) (x1002_1 : Int), v8 = .int .i64 x8_1 ∧ Aside0 (spec_l10Map.l0 kq l1 l2 x7_1 x8_1 s0_0 x1001_1 x1002_1 = some (r1, r2, r3)) ∧ Aside0 (kq ≤ k) ∧ Aside0 (Kd.R k47 47 w' w.heap.size (fun _ => True) v7 x7_1) ∧ Aside0 (IsS115 w0 w' g s0_0 x1001_1 x1002_1) ∧ Aside0 (KeepBut w w' g none) ∧ Aside0 (Below w0.heap.size w0 w'))
 case atStart => exact ⟨(y430), (1), (s0_1), (s0_2), z9_, H', ⟨Nat.le_refl _⟩, ⟨by (with_reducible repeat (first | apply Kd.R_alloc | apply Kd.R_drewN | apply Kd.R_drew)); exact HO432.out⟩, ⟨z2_⟩, ⟨z1_⟩, ⟨z3_⟩⟩
 case round =>
  clear H'
  try clear c1
  try clear c2
  try clear p2
  obtain ⟨x7_1, x8_1, x1001_1, x1002_1, rfl, HA, HK1, HO_7, HI0, HK, HB⟩ := hrel
  cases gk with
  | zero => exact absurd HA.out (by simp [spec_l10Map.l0])
  | succ k1 =>
   have H := HA.out
   clear HA
   simp only [spec_l10Map.l0] at H
   by_cases c6 : x8_1 < (l1.length : Int)
   ·rw [if_pos c6] at H
    have c6b0 := decide_eq_true c6
    clear c6
    have H' := Aside0.mk H
    clear H
    go_wp2
    go_loopg [7, 9] k1 (fun kq v7 v9 w' => ∃ (x7_2 : List (S47)) (x9_2 : Int) (x1001_2 : Int) (x1002_2 : Int), v9 = .int .i64 x9_2 ∧ Aside0 (spec_l10Map.l1 kq l1 l2 x7_2 x8_1 x9_2 s0_0 x1001_2 x1002_2 = some (r1, r2, r3)) ∧ Aside0 (kq ≤ k1) ∧ Aside0 (Kd.R k47 47 w' w.heap.size (fun _ => True) v7 x7_2) ∧ Aside0 (IsS115 w0 w' g s0_0 x1001_2 x1002_2) ∧ Aside0 (KeepBut w w' g none) ∧ Aside0 (Below w0.heap.size w0 w'))
    case atStart => exact ⟨(x7_1), (0), (x1001_1), (x1002_1), z9_, H', ⟨Nat.le_refl _⟩, ⟨z13_⟩, ⟨z2_⟩, ⟨z1_⟩, ⟨z3_⟩⟩
    case round =>
     clear H'
     try clear c1
     try clear c2
     try clear p2
     try clear c6
     try clear c6b0
     try clear p2
     obtain ⟨x7_2, x9_2, x1001_2, x1002_2, rfl, HA, HK2, HO_7, HI0, HK, HB⟩ := hrel
     cases gk with
     | zero => exact absurd HA.out (by simp [spec_l10Map.l1])
     | succ k2 =>
      have H := HA.out
      clear HA
      simp only [spec_l10Map.l1] at H
      by_cases c7 : x9_2 < 3
      ·rw [if_pos c7] at H
       have c7b0 := decide_eq_true c7
       clear c7
       first | ((with_reducible have hz_ := gy_ H); obtain ⟨y433, Ny433, H⟩ := hz_) | (generalize hy_ : ((([] : List (S47))) : List (S47)) = y433 at H; have Ny433 := Aside0.mk hy_.symm; clear hy_)
       obtain ⟨c8, H⟩ := ifs_ H
       have LMc8 := Aside0.mk c8
       clear c8
       first | ((with_reducible have hz_ := gy_ H); obtain ⟨y436, Ny436, H⟩ := hz_) | (generalize hy_ : ((y433 ++ x7_2) : List (S47)) = y436 at H; have Ny436 := Aside0.mk hy_.symm; clear hy_)
       obtain ⟨ji9, hji9⟩ : ∃ j_ : Int, (wrap64 ((x7_2.length : Int) - 1)) = j_ := ⟨_, rfl⟩
       first | rw [hji9] at H | simp only [hji9] at H
       have hji9w : (IntKind.i64.wrap ((x7_2.length : Int) - 1)) = ji9 := (i64_w _).trans hji9
       obtain ⟨c10b0, H⟩ := ifd_ H
       obtain ⟨c11b0, H⟩ := ifd_ H
       replace H := Option.bind_eq_some_iff.mp H
       obtain ⟨⟨t440, t441, t442⟩, A120, H⟩ := H
       try dsimp only at H
       have A12 := Aside0.mk A120
       clear A120
       obtain ⟨c13, H⟩ := ifs_ H
       have LMc13 := Aside0.mk c13
       clear c13
       first | ((with_reducible have hz_ := gy_ H); obtain ⟨y443, Ny443, H⟩ := hz_) | (generalize hy_ : ((y436 ++ [(⟨x8_1, wrap64 ((wrap64 (((rd_T47 x7_2 (ji9)).f1) + 1)) + t440)⟩ : S47)]) : List (S47)) = y443 at H; have Ny443 := Aside0.mk hy_.symm; clear hy_)
       obtain ⟨t446, A14, H⟩ := bnd_ H
       by_cases c15 : t446 = true
       ·subst c15
        replace H := ift_ H
        have H' := Aside0.mk H
        clear H
        obtain ⟨Ao19, co19, eo19⟩ := Kd.R_slice HO_7.out
        subst eo19
        have p439 : 0 ≤ ((ji9) : Int) := odt_
        have q439 : (ji9) < (x7_2.length : Int) := odt_
        obtain ⟨ad439, e439, hx439_0, hx439_1⟩ := at_T47 (Kd.R_reads' HO_7.out).2.2 (ji9) p439 q439
        cases e439
        replace p439 := eq_true p439
        replace q439 := eq_true q439
        go_upto_region 8 with (fail)
        refine start_ (n := 19) (S := fun w' => w'.cell? ⟨(ad439.add ((ji9).toNat * 2)).block, (ad439.add ((ji9).toNat * 2)).off + 1, none⟩ = some (.int .i64 (rd_T47 x7_2 ji9).f1)) (ds := []) (fl_ 19 0) (by kernel_rfl) rfl (fl_zero _) (z60_) (fun hHeld => ?_)
        refine pure_ (i := 1) (N := some 24) (v := ?_) (a' := ?_) #[false, true, false, false, false, false, false, false, false, false, false, false, false, false, false, false, false, false, false] rfl rfl (by kernel_rfl) (fun _ _ _ h => h) (Or.inl ⟨by rfl, ?_⟩) ?_ ?_
        rotate_left
        ·intro w'
         go_simp
         with_reducible rfl
        rotate_left
        ·simp only [Act.put, List.setIfInBounds_toArray, List.set_cons_zero, List.set_cons_succ, i64_w, i32_w]
         rfl
        refine pure_ (i := 3) (N := some 26) (v := ?_) (a' := ?_) #[false, true, false, true, false, false, false, false, false, false, false, false, false, false, false, false, false, false, false] rfl rfl (by kernel_rfl) (fun _ _ _ h => h) (Or.inl ⟨by rfl, ?_⟩) ?_ ?_
        rotate_left
        ·intro w'
         go_simp
         with_reducible rfl
        rotate_left
        ·simp only [Act.put, List.setIfInBounds_toArray, List.set_cons_zero, List.set_cons_succ, i64_w, i32_w]
         rfl
        refine pure_ (i := 4) (N := some 27) (v := ?_) (a' := ?_) #[false, true, false, true, true, false, false, false, false, false, false, false, false, false, false, false, false, false, false] rfl rfl (by kernel_rfl) (fun _ _ _ h => h) (Or.inl ⟨by rfl, ?_⟩) ?_ ?_
        rotate_left
        ·intro w'
         go_simp
         with_reducible rfl
        rotate_left
        ·simp only [Act.put, List.setIfInBounds_toArray, List.set_cons_zero, List.set_cons_succ, i64_w, i32_w]
         rfl
        refine pure_ (i := 5) (N := some 28) (v := ?_) (a' := ?_) #[false, true, false, true, true, true, false, false, false, false, false, false, false, false, false, false, false, false, false] rfl rfl (by kernel_rfl) (fun _ _ _ h => h) (Or.inl ⟨by rfl, ?_⟩) ?_ ?_
        rotate_left
        ·intro w'
         go_simp
         with_reducible rfl
        rotate_left
        ·simp only [Act.put, List.setIfInBounds_toArray, List.set_cons_zero, List.set_cons_succ, i64_w, i32_w]
         rfl
        refine pure_ (i := 6) (N := some 29) (v := ?_) (a' := ?_) #[false, true, false, true, true, true, true, false, false, false, false, false, false, false, false, false, false, false, false] rfl rfl (by kernel_rfl) (fun _ _ _ h => h) (Or.inl ⟨by rfl, ?_⟩) ?_ ?_
        rotate_left
        ·intro w'
         go_simp
         with_reducible rfl
        rotate_left
        ·simp only [Act.put, List.setIfInBounds_toArray, List.set_cons_zero, List.set_cons_succ, i64_w, i32_w]
         rfl
        refine pure_ (i := 7) (N := some 30) (v := ?_) (a' := ?_) #[false, true, false, true, true, true, true, true, false, false, false, false, false, false, false, false, false, false, false] rfl rfl (by kernel_rfl) (fun _ _ _ h => h) (Or.inl ⟨by rfl, ?_⟩) ?_ ?_
        rotate_left
        ·intro w'
         go_simp
         with_reducible rfl
        rotate_left
        ·simp only [Act.put, List.setIfInBounds_toArray, List.set_cons_zero, List.set_cons_succ, i64_w, i32_w]
         rfl
        refine pure_ (i := 8) (N := some 31) (v := ?_) (a' := ?_) #[false, true, false, true, true, true, true, true, true, false, false, false, false, false, false, false, false, false, false] rfl rfl (by kernel_rfl) (fun _ _ _ h => h) (Or.inl ⟨by rfl, ?_⟩) ?_ ?_
        rotate_left
        ·intro w'
         go_simp
         with_reducible rfl
        rotate_left
        ·simp only [Act.put, List.setIfInBounds_toArray, List.set_cons_zero, List.set_cons_succ, i64_w, i32_w]
         rfl
        refine pure_ (i := 9) (N := some 32) (v := ?_) (a' := ?_) #[false, true, false, true, true, true, true, true, true, true, false, false, false, false, false, false, false, false, false] rfl rfl (by kernel_rfl) (fun _ _ _ h => h) (Or.inl ⟨by rfl, ?_⟩) ?_ ?_
        rotate_left
        ·intro w'
         go_simp
         with_reducible rfl
        rotate_left
        ·simp only [Act.put, List.setIfInBounds_toArray, List.set_cons_zero, List.set_cons_succ, i64_w, i32_w]
         rfl
        refine pure_ (i := 12) (N := some 35) (v := ?_) (a' := ?_) #[false, true, false, true, true, true, true, true, true, true, false, false, true, false, false, false, false, false, false] rfl rfl (by kernel_rfl) (fun _ _ _ h => h) (Or.inl ⟨by rfl, ?_⟩) ?_ ?_
        rotate_left
        ·intro w'
         go_simp
         with_reducible rfl
        rotate_left
        ·simp only [Act.put, List.setIfInBounds_toArray, List.set_cons_zero, List.set_cons_succ, i64_w, i32_w]
         rfl
        refine take_ (i := 10) (N := some 33) (v := ?_) (a' := ?_) #[false, true, false, true, true, true, true, true, true, true, true, false, true, false, false, false, false, false, false] rfl rfl (by kernel_rfl) (fun _ _ _ h => h) (Or.inl ⟨by rfl, ?_⟩) hHeld ?_ ?_
        rotate_left
        ·intro w' s0
         go_simp
         with_reducible rfl
        rotate_left
        ·simp only [Act.put, List.setIfInBounds_toArray, List.set_cons_zero, List.set_cons_succ, i64_w, i32_w]
         rfl
        refine pure_ (i := 11) (N := some 34) (v := ?_) (a' := ?_) #[false, true, false, true, true, true, true, true, true, true, true, true, true, false, false, false, false, false, false] rfl rfl (by kernel_rfl) (fun _ _ _ h => h) (Or.inl ⟨by rfl, ?_⟩) ?_ ?_
        rotate_left
        ·intro w'
         go_simp
         with_reducible rfl
        rotate_left
        ·simp only [Act.put, List.setIfInBounds_toArray, List.set_cons_zero, List.set_cons_succ, i64_w, i32_w]
         rfl
        refine one_ (i := 0) (N := some 23) (ra_ [2, 1, 10, 6]) rfl rfl (by kernel_rfl) (by decide) (fun K hK => ?_)
        refine Kd.R_lit_step k47 _ 47 (by rfl) (N := 23) ?hd (xs := ([] : List (S47))) (inner := []) (ok := fun _ => True) (okp := fun _ => True) ?hr ?hp (fun _ hk => hk) trivial (Below.refl _ _) (Nat.le_refl _) (by simp) ?_
        (case hd => rfl)
        (case hr => exact z26_)
        (case hp => exact z162_)
        intro v434 w16 ho17 hb hg_ hnew_
        clear hg_ hnew_
        (first | rw [← Ny433.out] at ho17 | (simp only [Int.reduceToNat] at ho17; rw [← Ny433.out] at ho17))
        have n0_ := Aside0.mk (Kd.R_elder' z13_ (Kd.R_base ho17) hb)
        have n1_ := Aside0.mk (Kd.R_lower (Kd.R_new' ho17 (Kd.R_lt z13_)) (keep_size (w := w) (g := g) (row := none) z1_))
        have n2_ := Aside0.mk (IsS115.below z2_ hb)
        have n3_ := Aside0.mk (KeepBut.trans z1_ (KeepBut.of_below hb g none) (.inl rfl))
        have n4_ := Aside0.mk (below_step z3_ hb)
        clear HO_7
        clear HI0
        clear HK
        clear HB
        have HO_7 := n0_
        have HO435 := n1_
        have HI0 := n2_
        have HK := n3_
        have HB := n4_
        clear n0_ n1_ n2_ n3_ n4_
        clear hb ho17
        refine hK.out _ _ (z60_) (fun hHeld => ?_)
        clear hK K
        refine zn_ rfl ?_
        refine one_ (i := 2) (N := some 25) (fl_ 19 13) rfl rfl (by kernel_rfl) (by decide) (fun K hK => ?_)
        refine Kd.R_append_rows_step k47 w.heap.size (by rfl) (.tmp 23) (.tmp 24) 34 47 (.agg #[(.int .i64 0), (.int .i64 0)]) 16 rfl Try.underlying34 info47 rfl (by decide) (by omega) v434 y433 x7_2 _ _ _ (fun k_ => some k_ ≠ (.slice (some ad439) x7_2.length co19 : Value).ownBlock) (fun _ => False) rfl rfl ?aO ?aR (fun _ _ h => h) (fun _ h => h.elim) ?aF (Below.refl _ _) ?aS ?aL ?_
        (case aR => exact z51_)
        (case aF => exact z123_)
        (case aO => exact z183_)
        (case aS => exact z33_)
        (case aL => have := LMc8.out; omega)
        intro v437 w18 ho hb hg hat
        rw [← Ny436.out] at ho
        have n0_ := Aside0.mk (Kd.R_after (ok := (fun _ => True)) z13_ hg hat)
        have n1_ := Aside0.mk (IsS115.grown z2_ hg (IsS115.own_ne HI0.out HO435.out (by decide)))
        have n2_ := Aside0.mk (below_weaken z3_ HL.out hb)
        have n3_ := Aside0.mk (KeepBut.trans z1_ (KeepBut.of_grown hg g) (Kd.R_base2 HO435.out))
        have n4_ := Aside0.mk (ho)
        clear HO_7
        clear HI0
        clear HB
        clear HK
        clear HO435
        have HO_7 := n0_
        have HI0 := n1_
        have HB := n2_
        have HK := n3_
        have HO438 := n4_
        clear n0_ n1_ n2_ n3_ n4_
        clear ho hb hg hat
        refine hK.out _ _ (z60_) (fun hHeld => ?_)
        clear hK K
        refine zn_ rfl ?_
        refine one_ (i := 13) (N := some 36) (fl_ 19 14) rfl rfl (by kernel_rfl) (by decide) (fun K hK => ?_)
        refine goes_ Try.func84 (by kernel_rfl) rfl #[.pointer (some ⟨g, 0, none⟩), .int .i64 3] (by rfl) rfl rfl z4_ ?_
        (with_reducible refine (spec_l1Below.calls g s0_0 x1001_2 x1002_2 3 t440 t441 t442 w0 _ ?side1 ?side2 A12.out).mono ?_)
        (case side1 => exact z2_)
        (case side2 => exact z3_)
        rintro e w20 ⟨rfl, hi, hb, hk⟩
        refine ⟨_, rfl, ?_⟩
        have n0_ := Aside0.mk (Kd.R_mono (Kd.R_keep (IsS115.apart (show IsS115 w0 _ g s0_0 x1001_2 x1002_2 from by repeat (first | (with_reducible first | exact HI0.out | apply IsS115.alloc | apply IsS115.drewN | apply IsS115.drew | apply IsS115.set_1 | apply IsS115.set_2) | exact HI0.out)) z13_ (by decide)) hk (fun _ h => h.2)) (fun _ h => h.1))
        have n1_ := Aside0.mk (Kd.R_mono (Kd.R_keep (IsS115.apart (show IsS115 w0 _ g s0_0 x1001_2 x1002_2 from by repeat (first | (with_reducible first | exact HI0.out | apply IsS115.alloc | apply IsS115.drewN | apply IsS115.drew | apply IsS115.set_1 | apply IsS115.set_2) | exact HI0.out)) z154_ (by decide)) hk (fun _ h => h.2)) (fun _ h => h.1))
        have n2_ := Aside0.mk (KeepBut.trans z1_ hk (.inl rfl))
        have n3_ := Aside0.mk (hb)
        have n4_ := Aside0.mk (hi)
        clear HO_7
        clear HO438
        clear HK
        clear HB
        clear HI0
        have HO_7 := n0_
        have HO438 := n1_
        have HK := n2_
        have HB := n3_
        have HI0 := n4_
        clear n0_ n1_ n2_ n3_ n4_
        (try clear hb)
        (try clear hb2)
        (try clear hk)
        (try clear hi)
        refine hK.out _ _ (z60_) (fun hHeld => ?_)
        clear hK K
        refine zn_ rfl ?_
        refine pure_ (i := 14) (N := some 37) (v := ?_) (a' := ?_) #[true, true, true, true, true, true, true, true, true, true, true, true, true, true, true, false, false, false, false] rfl rfl (by kernel_rfl) (fun _ _ _ h => h) (Or.inl ⟨by rfl, ?_⟩) ?_ ?_
        rotate_left
        ·intro w'
         go_simp
         with_reducible rfl
        rotate_left
        ·simp only [Act.put, List.setIfInBounds_toArray, List.set_cons_zero, List.set_cons_succ, i64_w, i32_w]
         rfl
        refine pure_ (i := 15) (N := some 38) (v := ?_) (a' := ?_) #[true, true, true, true, true, true, true, true, true, true, true, true, true, true, true, true, false, false, false] rfl rfl (by kernel_rfl) (fun _ _ _ h => h) (Or.inl ⟨by rfl, ?_⟩) ?_ ?_
        rotate_left
        ·intro w'
         go_simp
         with_reducible rfl
        rotate_left
        ·simp only [Act.put, List.setIfInBounds_toArray, List.set_cons_zero, List.set_cons_succ, i64_w, i32_w]
         rfl
        refine one_ (i := 16) (N := some 39) (fl_ 19 17) rfl rfl (by kernel_rfl) (by decide) (fun K hK => ?_)
        refine value_ (w1 := ?_) (v := ?_) (by rfl) rfl ?_ ?_
        rotate_left 2
        ·go_simp
         constructor
         ·rfl
         ·rfl
        refine hK.out _ _ (((World.cell?_alloc_lt _ _ _ (World.block_lt_of_cell? _ _ z60_)).trans z60_)) (fun hHeld => ?_)
        clear hK K
        refine zn_ rfl ?_
        refine one_ (i := 17) (N := some 40) (fl_ 19 18) rfl rfl (by kernel_rfl) (by decide) (fun K hK => ?_)
        refine Kd.R_append_step k47 w.heap.size (by rfl) (.tmp 25) (.tmp 39) 34 47 (.agg #[(.int .i64 0), (.int .i64 0)]) 16 rfl Try.underlying34 info47 rfl (by decide) (by omega) v437 y436 (⟨x8_1, wrap64 ((wrap64 (((rd_T47 x7_2 (ji9)).f1) + 1)) + t440)⟩ : S47) [.int .i64 x8_1, .int .i64 (wrap64 ((wrap64 (((rd_T47 x7_2 (ji9)).f1) + 1)) + t440))] (fun k_ => some k_ ≠ (.slice (some ad439) x7_2.length co19 : Value).ownBlock) (fun _ => False) rfl rfl ?aP (fun _ hk => hk.elim) ?aF ?aO (Below.refl _ _) ?aS ?aL ?_
        (case aP => exact z212_)
        (case aF => exact z123_)
        (case aO => exact z193_)
        (case aS => exact z33_)
        (case aL => have := LMc13.out; omega)
        intro v444 w21 ho hb hg hat
        rw [← Ny443.out] at ho
        have n0_ := Aside0.mk (Kd.R_after (ok := (fun _ => True)) z13_ hg hat)
        have n1_ := Aside0.mk (IsS115.grown z2_ hg (IsS115.own_ne HI0.out HO438.out (by decide)))
        have n2_ := Aside0.mk (below_weaken z3_ HL.out hb)
        have n3_ := Aside0.mk (KeepBut.trans z1_ (KeepBut.of_grown hg g) (Kd.R_base2 HO438.out))
        have n4_ := Aside0.mk (ho)
        clear HO_7
        clear HI0
        clear HB
        clear HK
        clear HO438
        have HO_7 := n0_
        have HI0 := n1_
        have HB := n2_
        have HK := n3_
        have HO445 := n4_
        clear n0_ n1_ n2_ n3_ n4_
        clear ho hb hg hat
        obtain ⟨Ao22, co22, eo22⟩ := Kd.R_slice HO445.out
        subst eo22
        refine hK.out _ _ (z60_) (fun hHeld => ?_)
        clear hK K
        refine zn_ rfl ?_
        refine pure_ (i := 18) (N := some 10) (v := ?_) (a' := ?_) #[true, true, true, true, true, true, true, true, true, true, true, true, true, true, true, true, true, true, true] rfl rfl (by kernel_rfl) (fun _ _ _ h => h) (Or.inl ⟨by rfl, ?_⟩) ?_ ?_
        rotate_left
        ·intro w'
         go_simp
         with_reducible rfl
        rotate_left
        ·simp only [Act.put, List.setIfInBounds_toArray, List.set_cons_zero, List.set_cons_succ, i64_w, i32_w]
         rfl
        refine done_ (by kernel_rfl) ?_
        go_wp2_with (first | ((with_reducible refine gate_callee (f := 13) rfl ?_); refine goesL_ (some 44) rfl rfl Try.func13 (by kernel_rfl) rfl #[.slice A1 l1.length c1, .slice A2 l2.length c2, .slice Ao22 y443.length co22] rfl z4_ ?_; (with_reducible refine (spec_MapOk.calls k2 _ _ l1 _ _ l2 _ _ y443 true _ ?side1 ?side2 ?side3 ?side4 ?side5 ?side6 A14.out).mono ?_); (case side1 => exact z127_); (case side2 => exact HC1.out); (case side3 => exact z164_); (case side4 => exact HC2.out); (case side5 => exact z166_); (case side6 => exact (Kd.R_reads' HO445.out).2.1); rintro e w23 ⟨rfl, hb⟩; refine ⟨_, rfl, ?_⟩; replace HO_7 := Aside0.mk (Kd.R_below z13_ hb); replace HO445 := Aside0.mk (Kd.R_below z201_ hb); replace HK := Aside0.mk (KeepBut.trans z1_ (KeepBut.of_below hb g none) (.inl rfl)); replace HB := Aside0.mk (below_step z3_ hb); replace HI0 := Aside0.mk (IsS115.below z2_ hb); (try clear hb)))
        go_roundg k2
        case measure => have := HK1.out; have := HK2.out; omega
        case rel => exact ⟨(y443), (wrap64 (x8_1 + 1)), (t441), (t442), z9_, H', ⟨z165_⟩, ⟨by (with_reducible repeat (first | apply Kd.R_alloc | apply Kd.R_drewN | apply Kd.R_drew)); exact Kd.R_mono HO445.out (fun _ hk => trivial)⟩, ⟨z2_⟩, ⟨z1_⟩, ⟨z3_⟩⟩
       ·replace c15 := Bool.eq_false_iff.mpr c15
        subst c15
        replace H := iff_ H
        have H' := Aside0.mk H
        clear H
        obtain ⟨Ao27, co27, eo27⟩ := Kd.R_slice HO_7.out
        subst eo27
        have p439 : 0 ≤ ((ji9) : Int) := odt_
        have q439 : (ji9) < (x7_2.length : Int) := odt_
        obtain ⟨ad439, e439, hx439_0, hx439_1⟩ := at_T47 (Kd.R_reads' HO_7.out).2.2 (ji9) p439 q439
        cases e439
        replace p439 := eq_true p439
        replace q439 := eq_true q439
        go_upto_region 8 with (fail)
        refine start_ (n := 19) (S := fun w' => w'.cell? ⟨(ad439.add ((ji9).toNat * 2)).block, (ad439.add ((ji9).toNat * 2)).off + 1, none⟩ = some (.int .i64 (rd_T47 x7_2 ji9).f1)) (ds := []) (fl_ 19 0) (by kernel_rfl) rfl (fl_zero _) (z60_) (fun hHeld => ?_)
        refine pure_ (i := 1) (N := some 24) (v := ?_) (a' := ?_) #[false, true, false, false, false, false, false, false, false, false, false, false, false, false, false, false, false, false, false] rfl rfl (by kernel_rfl) (fun _ _ _ h => h) (Or.inl ⟨by rfl, ?_⟩) ?_ ?_
        rotate_left
        ·intro w'
         go_simp
         with_reducible rfl
        rotate_left
        ·simp only [Act.put, List.setIfInBounds_toArray, List.set_cons_zero, List.set_cons_succ, i64_w, i32_w]
         rfl
        refine pure_ (i := 3) (N := some 26) (v := ?_) (a' := ?_) #[false, true, false, true, false, false, false, false, false, false, false, false, false, false, false, false, false, false, false] rfl rfl (by kernel_rfl) (fun _ _ _ h => h) (Or.inl ⟨by rfl, ?_⟩) ?_ ?_
        rotate_left
        ·intro w'
         go_simp
         with_reducible rfl
        rotate_left
        ·simp only [Act.put, List.setIfInBounds_toArray, List.set_cons_zero, List.set_cons_succ, i64_w, i32_w]
         rfl
        refine pure_ (i := 4) (N := some 27) (v := ?_) (a' := ?_) #[false, true, false, true, true, false, false, false, false, false, false, false, false, false, false, false, false, false, false] rfl rfl (by kernel_rfl) (fun _ _ _ h => h) (Or.inl ⟨by rfl, ?_⟩) ?_ ?_
        rotate_left
        ·intro w'
         go_simp
         with_reducible rfl
        rotate_left
        ·simp only [Act.put, List.setIfInBounds_toArray, List.set_cons_zero, List.set_cons_succ, i64_w, i32_w]
         rfl
        refine pure_ (i := 5) (N := some 28) (v := ?_) (a' := ?_) #[false, true, false, true, true, true, false, false, false, false, false, false, false, false, false, false, false, false, false] rfl rfl (by kernel_rfl) (fun _ _ _ h => h) (Or.inl ⟨by rfl, ?_⟩) ?_ ?_
        rotate_left
        ·intro w'
         go_simp
         with_reducible rfl
        rotate_left
        ·simp only [Act.put, List.setIfInBounds_toArray, List.set_cons_zero, List.set_cons_succ, i64_w, i32_w]
         rfl
        refine pure_ (i := 6) (N := some 29) (v := ?_) (a' := ?_) #[false, true, false, true, true, true, true, false, false, false, false, false, false, false, false, false, false, false, false] rfl rfl (by kernel_rfl) (fun _ _ _ h => h) (Or.inl ⟨by rfl, ?_⟩) ?_ ?_
        rotate_left
        ·intro w'
         go_simp
         with_reducible rfl
        rotate_left
        ·simp only [Act.put, List.setIfInBounds_toArray, List.set_cons_zero, List.set_cons_succ, i64_w, i32_w]
         rfl
        refine pure_ (i := 7) (N := some 30) (v := ?_) (a' := ?_) #[false, true, false, true, true, true, true, true, false, false, false, false, false, false, false, false, false, false, false] rfl rfl (by kernel_rfl) (fun _ _ _ h => h) (Or.inl ⟨by rfl, ?_⟩) ?_ ?_
        rotate_left
        ·intro w'
         go_simp
         with_reducible rfl
        rotate_left
        ·simp only [Act.put, List.setIfInBounds_toArray, List.set_cons_zero, List.set_cons_succ, i64_w, i32_w]
         rfl
        refine pure_ (i := 8) (N := some 31) (v := ?_) (a' := ?_) #[false, true, false, true, true, true, true, true, true, false, false, false, false, false, false, false, false, false, false] rfl rfl (by kernel_rfl) (fun _ _ _ h => h) (Or.inl ⟨by rfl, ?_⟩) ?_ ?_
        rotate_left
        ·intro w'
         go_simp
         with_reducible rfl
        rotate_left
        ·simp only [Act.put, List.setIfInBounds_toArray, List.set_cons_zero, List.set_cons_succ, i64_w, i32_w]
         rfl
        refine pure_ (i := 9) (N := some 32) (v := ?_) (a' := ?_) #[false, true, false, true, true, true, true, true, true, true, false, false, false, false, false, false, false, false, false] rfl rfl (by kernel_rfl) (fun _ _ _ h => h) (Or.inl ⟨by rfl, ?_⟩) ?_ ?_
        rotate_left
        ·intro w'
         go_simp
         with_reducible rfl
        rotate_left
        ·simp only [Act.put, List.setIfInBounds_toArray, List.set_cons_zero, List.set_cons_succ, i64_w, i32_w]
         rfl
        refine pure_ (i := 12) (N := some 35) (v := ?_) (a' := ?_) #[false, true, false, true, true, true, true, true, true, true, false, false, true, false, false, false, false, false, false] rfl rfl (by kernel_rfl) (fun _ _ _ h => h) (Or.inl ⟨by rfl, ?_⟩) ?_ ?_
        rotate_left
        ·intro w'
         go_simp
         with_reducible rfl
        rotate_left
        ·simp only [Act.put, List.setIfInBounds_toArray, List.set_cons_zero, List.set_cons_succ, i64_w, i32_w]
         rfl
        refine take_ (i := 10) (N := some 33) (v := ?_) (a' := ?_) #[false, true, false, true, true, true, true, true, true, true, true, false, true, false, false, false, false, false, false] rfl rfl (by kernel_rfl) (fun _ _ _ h => h) (Or.inl ⟨by rfl, ?_⟩) hHeld ?_ ?_
        rotate_left
        ·intro w' s0
         go_simp
         with_reducible rfl
        rotate_left
        ·simp only [Act.put, List.setIfInBounds_toArray, List.set_cons_zero, List.set_cons_succ, i64_w, i32_w]
         rfl
        refine pure_ (i := 11) (N := some 34) (v := ?_) (a' := ?_) #[false, true, false, true, true, true, true, true, true, true, true, true, true, false, false, false, false, false, false] rfl rfl (by kernel_rfl) (fun _ _ _ h => h) (Or.inl ⟨by rfl, ?_⟩) ?_ ?_
        rotate_left
        ·intro w'
         go_simp
         with_reducible rfl
        rotate_left
        ·simp only [Act.put, List.setIfInBounds_toArray, List.set_cons_zero, List.set_cons_succ, i64_w, i32_w]
         rfl
        refine one_ (i := 0) (N := some 23) (ra_ [2, 1, 10, 6]) rfl rfl (by kernel_rfl) (by decide) (fun K hK => ?_)
        refine Kd.R_lit_step k47 _ 47 (by rfl) (N := 23) ?hd (xs := ([] : List (S47))) (inner := []) (ok := fun _ => True) (okp := fun _ => True) ?hr ?hp (fun _ hk => hk) trivial (Below.refl _ _) (Nat.le_refl _) (by simp) ?_
        (case hd => rfl)
        (case hr => exact z26_)
        (case hp => exact z162_)
        intro v434 w24 ho25 hb hg_ hnew_
        clear hg_ hnew_
        (first | rw [← Ny433.out] at ho25 | (simp only [Int.reduceToNat] at ho25; rw [← Ny433.out] at ho25))
        have n0_ := Aside0.mk (Kd.R_elder' z13_ (Kd.R_base ho25) hb)
        have n1_ := Aside0.mk (Kd.R_lower (Kd.R_new' ho25 (Kd.R_lt z13_)) (keep_size (w := w) (g := g) (row := none) z1_))
        have n2_ := Aside0.mk (IsS115.below z2_ hb)
        have n3_ := Aside0.mk (KeepBut.trans z1_ (KeepBut.of_below hb g none) (.inl rfl))
        have n4_ := Aside0.mk (below_step z3_ hb)
        clear HO_7
        clear HI0
        clear HK
        clear HB
        have HO_7 := n0_
        have HO435 := n1_
        have HI0 := n2_
        have HK := n3_
        have HB := n4_
        clear n0_ n1_ n2_ n3_ n4_
        clear hb ho25
        refine hK.out _ _ (z60_) (fun hHeld => ?_)
        clear hK K
        refine zn_ rfl ?_
        refine one_ (i := 2) (N := some 25) (fl_ 19 13) rfl rfl (by kernel_rfl) (by decide) (fun K hK => ?_)
        refine Kd.R_append_rows_step k47 w.heap.size (by rfl) (.tmp 23) (.tmp 24) 34 47 (.agg #[(.int .i64 0), (.int .i64 0)]) 16 rfl Try.underlying34 info47 rfl (by decide) (by omega) v434 y433 x7_2 _ _ _ (fun k_ => some k_ ≠ (.slice (some ad439) x7_2.length co27 : Value).ownBlock) (fun _ => False) rfl rfl ?aO ?aR (fun _ _ h => h) (fun _ h => h.elim) ?aF (Below.refl _ _) ?aS ?aL ?_
        (case aR => exact z51_)
        (case aF => exact z123_)
        (case aO => exact z183_)
        (case aS => exact z33_)
        (case aL => have := LMc8.out; omega)
        intro v437 w26 ho hb hg hat
        rw [← Ny436.out] at ho
        have n0_ := Aside0.mk (Kd.R_after (ok := (fun _ => True)) z13_ hg hat)
        have n1_ := Aside0.mk (IsS115.grown z2_ hg (IsS115.own_ne HI0.out HO435.out (by decide)))
        have n2_ := Aside0.mk (below_weaken z3_ HL.out hb)
        have n3_ := Aside0.mk (KeepBut.trans z1_ (KeepBut.of_grown hg g) (Kd.R_base2 HO435.out))
        have n4_ := Aside0.mk (ho)
        clear HO_7
        clear HI0
        clear HB
        clear HK
        clear HO435
        have HO_7 := n0_
        have HI0 := n1_
        have HB := n2_
        have HK := n3_
        have HO438 := n4_
        clear n0_ n1_ n2_ n3_ n4_
        clear ho hb hg hat
        refine hK.out _ _ (z60_) (fun hHeld => ?_)
        clear hK K
        refine zn_ rfl ?_
        refine one_ (i := 13) (N := some 36) (fl_ 19 14) rfl rfl (by kernel_rfl) (by decide) (fun K hK => ?_)
        refine goes_ Try.func84 (by kernel_rfl) rfl #[.pointer (some ⟨g, 0, none⟩), .int .i64 3] (by rfl) rfl rfl z4_ ?_
        (with_reducible refine (spec_l1Below.calls g s0_0 x1001_2 x1002_2 3 t440 t441 t442 w0 _ ?side1 ?side2 A12.out).mono ?_)
        (case side1 => exact z2_)
        (case side2 => exact z3_)
        rintro e w28 ⟨rfl, hi, hb, hk⟩
        refine ⟨_, rfl, ?_⟩
        have n0_ := Aside0.mk (Kd.R_mono (Kd.R_keep (IsS115.apart (show IsS115 w0 _ g s0_0 x1001_2 x1002_2 from by repeat (first | (with_reducible first | exact HI0.out | apply IsS115.alloc | apply IsS115.drewN | apply IsS115.drew | apply IsS115.set_1 | apply IsS115.set_2) | exact HI0.out)) z13_ (by decide)) hk (fun _ h => h.2)) (fun _ h => h.1))
        have n1_ := Aside0.mk (Kd.R_mono (Kd.R_keep (IsS115.apart (show IsS115 w0 _ g s0_0 x1001_2 x1002_2 from by repeat (first | (with_reducible first | exact HI0.out | apply IsS115.alloc | apply IsS115.drewN | apply IsS115.drew | apply IsS115.set_1 | apply IsS115.set_2) | exact HI0.out)) z154_ (by decide)) hk (fun _ h => h.2)) (fun _ h => h.1))
        have n2_ := Aside0.mk (KeepBut.trans z1_ hk (.inl rfl))
        have n3_ := Aside0.mk (hb)
        have n4_ := Aside0.mk (hi)
        clear HO_7
        clear HO438
        clear HK
        clear HB
        clear HI0
        have HO_7 := n0_
        have HO438 := n1_
        have HK := n2_
        have HB := n3_
        have HI0 := n4_
        clear n0_ n1_ n2_ n3_ n4_
        (try clear hb)
        (try clear hb2)
        (try clear hk)
        (try clear hi)
        refine hK.out _ _ (z60_) (fun hHeld => ?_)
        clear hK K
        refine zn_ rfl ?_
        refine pure_ (i := 14) (N := some 37) (v := ?_) (a' := ?_) #[true, true, true, true, true, true, true, true, true, true, true, true, true, true, true, false, false, false, false] rfl rfl (by kernel_rfl) (fun _ _ _ h => h) (Or.inl ⟨by rfl, ?_⟩) ?_ ?_
        rotate_left
        ·intro w'
         go_simp
         with_reducible rfl
        rotate_left
        ·simp only [Act.put, List.setIfInBounds_toArray, List.set_cons_zero, List.set_cons_succ, i64_w, i32_w]
         rfl
        refine pure_ (i := 15) (N := some 38) (v := ?_) (a' := ?_) #[true, true, true, true, true, true, true, true, true, true, true, true, true, true, true, true, false, false, false] rfl rfl (by kernel_rfl) (fun _ _ _ h => h) (Or.inl ⟨by rfl, ?_⟩) ?_ ?_
        rotate_left
        ·intro w'
         go_simp
         with_reducible rfl
        rotate_left
        ·simp only [Act.put, List.setIfInBounds_toArray, List.set_cons_zero, List.set_cons_succ, i64_w, i32_w]
         rfl
        refine one_ (i := 16) (N := some 39) (fl_ 19 17) rfl rfl (by kernel_rfl) (by decide) (fun K hK => ?_)
        refine value_ (w1 := ?_) (v := ?_) (by rfl) rfl ?_ ?_
        rotate_left 2
        ·go_simp
         constructor
         ·rfl
         ·rfl
        refine hK.out _ _ (((World.cell?_alloc_lt _ _ _ (World.block_lt_of_cell? _ _ z60_)).trans z60_)) (fun hHeld => ?_)
        clear hK K
        refine zn_ rfl ?_
        refine one_ (i := 17) (N := some 40) (fl_ 19 18) rfl rfl (by kernel_rfl) (by decide) (fun K hK => ?_)
        refine Kd.R_append_step k47 w.heap.size (by rfl) (.tmp 25) (.tmp 39) 34 47 (.agg #[(.int .i64 0), (.int .i64 0)]) 16 rfl Try.underlying34 info47 rfl (by decide) (by omega) v437 y436 (⟨x8_1, wrap64 ((wrap64 (((rd_T47 x7_2 (ji9)).f1) + 1)) + t440)⟩ : S47) [.int .i64 x8_1, .int .i64 (wrap64 ((wrap64 (((rd_T47 x7_2 (ji9)).f1) + 1)) + t440))] (fun k_ => some k_ ≠ (.slice (some ad439) x7_2.length co27 : Value).ownBlock) (fun _ => False) rfl rfl ?aP (fun _ hk => hk.elim) ?aF ?aO (Below.refl _ _) ?aS ?aL ?_
        (case aP => exact z212_)
        (case aF => exact z123_)
        (case aO => exact z193_)
        (case aS => exact z33_)
        (case aL => have := LMc13.out; omega)
        intro v444 w29 ho hb hg hat
        rw [← Ny443.out] at ho
        have n0_ := Aside0.mk (Kd.R_after (ok := (fun _ => True)) z13_ hg hat)
        have n1_ := Aside0.mk (IsS115.grown z2_ hg (IsS115.own_ne HI0.out HO438.out (by decide)))
        have n2_ := Aside0.mk (below_weaken z3_ HL.out hb)
        have n3_ := Aside0.mk (KeepBut.trans z1_ (KeepBut.of_grown hg g) (Kd.R_base2 HO438.out))
        have n4_ := Aside0.mk (ho)
        clear HO_7
        clear HI0
        clear HB
        clear HK
        clear HO438
        have HO_7 := n0_
        have HI0 := n1_
        have HB := n2_
        have HK := n3_
        have HO445 := n4_
        clear n0_ n1_ n2_ n3_ n4_
        clear ho hb hg hat
        obtain ⟨Ao30, co30, eo30⟩ := Kd.R_slice HO445.out
        subst eo30
        refine hK.out _ _ (z60_) (fun hHeld => ?_)
        clear hK K
        refine zn_ rfl ?_
        refine pure_ (i := 18) (N := some 10) (v := ?_) (a' := ?_) #[true, true, true, true, true, true, true, true, true, true, true, true, true, true, true, true, true, true, true] rfl rfl (by kernel_rfl) (fun _ _ _ h => h) (Or.inl ⟨by rfl, ?_⟩) ?_ ?_
        rotate_left
        ·intro w'
         go_simp
         with_reducible rfl
        rotate_left
        ·simp only [Act.put, List.setIfInBounds_toArray, List.set_cons_zero, List.set_cons_succ, i64_w, i32_w]
         rfl
        refine done_ (by kernel_rfl) ?_
        go_wp2_with (first | ((with_reducible refine gate_callee (f := 13) rfl ?_); refine goesL_ (some 44) rfl rfl Try.func13 (by kernel_rfl) rfl #[.slice A1 l1.length c1, .slice A2 l2.length c2, .slice Ao30 y443.length co30] rfl z4_ ?_; (with_reducible refine (spec_MapOk.calls k2 _ _ l1 _ _ l2 _ _ y443 false _ ?side1 ?side2 ?side3 ?side4 ?side5 ?side6 A14.out).mono ?_); (case side1 => exact z127_); (case side2 => exact HC1.out); (case side3 => exact z164_); (case side4 => exact HC2.out); (case side5 => exact z166_); (case side6 => exact (Kd.R_reads' HO445.out).2.1); rintro e w31 ⟨rfl, hb⟩; refine ⟨_, rfl, ?_⟩; replace HO_7 := Aside0.mk (Kd.R_below z13_ hb); replace HO445 := Aside0.mk (Kd.R_below z201_ hb); replace HK := Aside0.mk (KeepBut.trans z1_ (KeepBut.of_below hb g none) (.inl rfl)); replace HB := Aside0.mk (below_step z3_ hb); replace HI0 := Aside0.mk (IsS115.below z2_ hb); (try clear hb)))
        go_roundg k2
        case measure => have := HK1.out; have := HK2.out; omega
        case rel => exact ⟨(x7_2), (wrap64 (x9_2 + 1)), (t441), (t442), z9_, H', ⟨z165_⟩, ⟨by (with_reducible repeat (first | apply Kd.R_alloc | apply Kd.R_drewN | apply Kd.R_drew)); exact Kd.R_mono HO_7.out (fun _ hk => trivial)⟩, ⟨z2_⟩, ⟨z1_⟩, ⟨z3_⟩⟩
      ·rw [if_neg c7] at H
       have c7b0 := decide_eq_false c7
       clear c7
       have H' := Aside0.mk H
       clear H
       go_wp2
       go_roundg k2
       case measure => have := HK1.out; have := HK2.out; omega
       case rel => exact ⟨(x7_2), (wrap64 (x8_1 + 1)), (x1001_2), (x1002_2), z9_, H', ⟨z165_⟩, ⟨z13_⟩, ⟨z2_⟩, ⟨z1_⟩, ⟨z3_⟩⟩
   ·rw [if_neg c6] at H
    have c6b0 := decide_eq_false c6
    clear c6
    simp only [Option.some.injEq, Prod.mk.injEq] at H
    obtain ⟨rfl, rfl, rfl⟩ := H
    go_wp2
    go_ret
    exact ⟨_, z7_, z13_, z2_, z3_, z1_⟩

/-! ### spec_l10Any: function 74 -/
def spec_l10Any.f (k : Nat) (s0_0 : List Int) (s0_1 : Int) (s0_2 : Int) (l1 : List (S45)) (l2 : List (S45)) : Option ((List (S47)) × Int × Int) := (spec_l10Map.f k s0_0 s0_1 s0_2 l1 l2).bind fun bt447 => ((spec_l1Below.f s0_0 bt447.2.1 bt447.2.2 (bt447.1.length : Int)).bind fun bt452 => ((spec_l1Below.f s0_0 bt452.2.1 bt452.2.2 12).bind fun bt455 => (if bt455.1 = 0 then ((spec_l1Below.f s0_0 bt455.2.1 bt455.2.2 (wrap64 ((l2.length : Int) + 1))).bind fun bt458 => (if 0 ≤ bt452.1 then (if bt452.1 < (bt447.1.length : Int) then (some ((bt447.1.set (bt452.1 : Int).toNat (⟨(rd_T47 bt447.1 bt452.1).f0, bt458.1⟩ : S47)), bt458.2.1, bt458.2.2)) else (none)) else (none))) else (if bt455.1 = 1 then ((spec_l1Below.f s0_0 bt455.2.1 bt455.2.2 (wrap64 ((l1.length : Int) + 2))).bind fun bt462 => (if 0 ≤ bt452.1 then (if bt452.1 < (bt447.1.length : Int) then (some ((bt447.1.set (bt452.1 : Int).toNat (⟨wrap64 (bt462.1 - 1), (rd_T47 bt447.1 bt452.1).f1⟩ : S47)), bt462.2.1, bt462.2.2)) else (none)) else (none))) else (if bt455.1 = 2 then (if 1 ≤ (bt447.1.length : Int) then (some ((bt447.1.drop (1 : Int).toNat), bt455.2.1, bt455.2.2)) else (none)) else (if bt455.1 = 3 then (if 0 ≤ bt452.1 then (if bt452.1 < (bt447.1.length : Int) then (if bt447.1.length < 8796093022208 then (some ((bt447.1 ++ [(⟨(rd_T47 bt447.1 bt452.1).f0, (rd_T47 bt447.1 bt452.1).f1⟩ : S47)]), bt455.2.1, bt455.2.2)) else (none)) else (none)) else (none)) else (some (bt447.1, bt455.2.1, bt455.2.2))))))))
set_option maxHeartbeats 8000000 in
set_option maxRecDepth 100000 in
theorem spec_l10Any.calls (k : Nat) (g : Nat) (s0_0 : List Int) (s0_1 : Int) (s0_2 : Int) (A1 : Option Addr) (c1 : Nat) (l1 : List (S45)) (A2 : Option Addr) (c2 : Nat) (l2 : List (S45)) (r1 : List (S47)) (r2 : Int) (r3 : Int) (w0 w : World) (hI : IsS115 w0 w g s0_0 s0_1 s0_2) (hB : Below w0.heap.size w0 w) (hr1 : ∀ W_, KeepBut w W_ g none → Kd.C k45 W_ A1 l1.length l1) (hc1 : l1.length ≤ c1) (hr2 : ∀ W_, KeepBut w W_ g none → Kd.C k45 W_ A2 l2.length l2) (hc2 : l2.length ≤ c2) (h : spec_l10Any.f k s0_0 s0_1 s0_2 l1 l2 = some (r1, r2, r3)) :
  Calls Try.prog 74 #[.pointer (some ⟨g, 0, none⟩), .slice A1 l1.length c1, .slice A2 l2.length c2] w fun e w' => ∃ v0_ : Value, e = .returned (v0_) ∧ Kd.Q k47 47 w' w.heap.size (fun _ => True) v0_ r1 ∧ IsS115 w0 w' g s0_0 r2 r3 ∧ Below w0.heap.size w0 w' ∧ KeepBut w w' g none := by
 have hu47 := Try.underlying47
 have HR1 := Aside0.mk hr1
 have HC1 := Aside0.mk hc1
 clear hr1 hc1
 have HR2 := Aside0.mk hr2
 have HC2 := Aside0.mk hc2
 clear hr2 hc2
 have HI0 := Aside0.mk hI
 have HK := Aside0.mk (KeepBut.refl w g none)
 have HL := Aside0.mk hB.size
 clear hI
 have HW0 := Aside0.mk hB.size
 have HB := Aside0.mk hB
 clear hB
 have H : ((spec_l10Map.f k s0_0 s0_1 s0_2 l1 l2).bind fun bt447 => ((spec_l1Below.f s0_0 bt447.2.1 bt447.2.2 (bt447.1.length : Int)).bind fun bt452 => ((spec_l1Below.f s0_0 bt452.2.1 bt452.2.2 12).bind fun bt455 => (if bt455.1 = 0 then ((spec_l1Below.f s0_0 bt455.2.1 bt455.2.2 (wrap64 ((l2.length : Int) + 1))).bind fun bt458 => (if 0 ≤ bt452.1 then (if bt452.1 < (bt447.1.length : Int) then (some ((bt447.1.set (bt452.1 : Int).toNat (⟨(rd_T47 bt447.1 bt452.1).f0, bt458.1⟩ : S47)), bt458.2.1, bt458.2.2)) else (none)) else (none))) else (if bt455.1 = 1 then ((spec_l1Below.f s0_0 bt455.2.1 bt455.2.2 (wrap64 ((l1.length : Int) + 2))).bind fun bt462 => (if 0 ≤ bt452.1 then (if bt452.1 < (bt447.1.length : Int) then (some ((bt447.1.set (bt452.1 : Int).toNat (⟨wrap64 (bt462.1 - 1), (rd_T47 bt447.1 bt452.1).f1⟩ : S47)), bt462.2.1, bt462.2.2)) else (none)) else (none))) else (if bt455.1 = 2 then (if 1 ≤ (bt447.1.length : Int) then (some ((bt447.1.drop (1 : Int).toNat), bt455.2.1, bt455.2.2)) else (none)) else (if bt455.1 = 3 then (if 0 ≤ bt452.1 then (if bt452.1 < (bt447.1.length : Int) then (if bt447.1.length < 8796093022208 then (some ((bt447.1 ++ [(⟨(rd_T47 bt447.1 bt452.1).f0, (rd_T47 bt447.1 bt452.1).f1⟩ : S47)]), bt455.2.1, bt455.2.2)) else (none)) else (none)) else (none)) else (some (bt447.1, bt455.2.1, bt455.2.2))))))))) = some (r1, r2, r3) := h
 clear h
 replace H := Option.bind_eq_some_iff.mp H
 obtain ⟨⟨t447, t450, t451⟩, A40, H⟩ := H
 try dsimp only at H
 have A4 := Aside0.mk A40
 clear A40
 replace H := Option.bind_eq_some_iff.mp H
 obtain ⟨⟨t452, t453, t454⟩, A50, H⟩ := H
 try dsimp only at H
 have A5 := Aside0.mk A50
 clear A50
 replace H := Option.bind_eq_some_iff.mp H
 obtain ⟨⟨t455, t456, t457⟩, A60, H⟩ := H
 try dsimp only at H
 have A6 := Aside0.mk A60
 clear A60
 by_cases c7 : t455 = 0
 ·rw [if_pos c7] at H
  have c7b0 : (t455 == 0) = true := beq_iff_eq.mpr c7
  have c7b1 : (t455 != 0) = false := bne_eq_false_iff_eq.mpr c7
  clear c7
  replace H := Option.bind_eq_some_iff.mp H
  obtain ⟨⟨t458, t459, t460⟩, A80, H⟩ := H
  try dsimp only at H
  have A8 := Aside0.mk A80
  clear A80
  obtain ⟨c9b0, H⟩ := ifd_ H
  obtain ⟨c10b0, H⟩ := ifd_ H
  first | ((with_reducible have hz_ := gy_ H); obtain ⟨y461, Ny461, H⟩ := hz_) | (generalize hy_ : ((t447.set (t452 : Int).toNat (⟨(rd_T47 t447 t452).f0, t458⟩ : S47)) : List (S47)) = y461 at H; have Ny461 := Aside0.mk hy_.symm; clear hy_)
  simp only [Option.some.injEq, Prod.mk.injEq] at H
  obtain ⟨rfl, rfl, rfl⟩ := H
  go_enter Try.func74, Try.ntmps74
  go_wp2_with (first | ((with_reducible refine gate_callee (f := 101) rfl ?_); refine goesL_ (some 12) rfl rfl Try.func101 (by kernel_rfl) rfl #[.pointer (some ⟨g, 0, none⟩), .slice A1 l1.length c1, .slice A2 l2.length c2] rfl z4_ ?_; (with_reducible refine (spec_l10Map.calls k g s0_0 s0_1 s0_2 _ _ l1 _ _ l2 t447 t450 t451 w0 _ ?side1 ?side2 ?side3 ?side4 ?side5 ?side6 A4.out).mono ?_); (case side1 => exact z2_); (case side2 => exact z3_); (case side3 => exact z93_); (case side4 => exact HC1.out); (case side5 => exact z94_); (case side6 => exact HC2.out); rintro e w12 ⟨v448, rfl, ho0, hi, hb, hk⟩; refine ⟨_, rfl, ?_⟩; have HO449 := Aside0.mk (Kd.R_lower ho0 (keep_size (w := w) (g := g) (row := none) z1_)); replace HK := Aside0.mk (KeepBut.trans z1_ hk (.inl rfl)); replace HB := Aside0.mk (hb); replace HI0 := Aside0.mk (hi); (try clear hb hk hi ho0); obtain ⟨Ao13, co13, eo13⟩ := Kd.R_slice HO449.out; subst eo13) | ((with_reducible refine gate_callee (f := 84) rfl ?_); refine goesL_ (some 16) rfl rfl Try.func84 (by kernel_rfl) rfl #[.pointer (some ⟨g, 0, none⟩), .int .i64 (t447.length : Int)] rfl z4_ ?_; (with_reducible refine (spec_l1Below.calls g s0_0 t450 t451 (t447.length : Int) t452 t453 t454 w0 _ ?side1 ?side2 A5.out).mono ?_); (case side1 => exact z2_); (case side2 => exact z3_); rintro e w14 ⟨rfl, hi, hb, hk⟩; refine ⟨_, rfl, ?_⟩; replace HO449 := Aside0.mk (Kd.R_mono (Kd.R_keep (IsS115.apart (show IsS115 w0 _ g s0_0 t450 t451 from by repeat (first | (with_reducible first | exact HI0.out | apply IsS115.alloc | apply IsS115.drewN | apply IsS115.drew | apply IsS115.set_1 | apply IsS115.set_2) | exact HI0.out)) z52_ (by decide)) hk (fun _ h => h.2)) (fun _ h => h.1)); replace HK := Aside0.mk (KeepBut.trans z1_ hk (.inl rfl)); replace HB := Aside0.mk (hb); replace HI0 := Aside0.mk (hi); (try clear hb hk hi)) | ((with_reducible refine gate_callee (f := 84) rfl ?_); refine goesL_ (some 18) rfl rfl Try.func84 (by kernel_rfl) rfl #[.pointer (some ⟨g, 0, none⟩), .int .i64 12] rfl z4_ ?_; (with_reducible refine (spec_l1Below.calls g s0_0 t453 t454 12 t455 t456 t457 w0 _ ?side1 ?side2 A6.out).mono ?_); (case side1 => exact z2_); (case side2 => exact z3_); rintro e w15 ⟨rfl, hi, hb, hk⟩; refine ⟨_, rfl, ?_⟩; replace HO449 := Aside0.mk (Kd.R_mono (Kd.R_keep (IsS115.apart (show IsS115 w0 _ g s0_0 t453 t454 from by repeat (first | (with_reducible first | exact HI0.out | apply IsS115.alloc | apply IsS115.drewN | apply IsS115.drew | apply IsS115.set_1 | apply IsS115.set_2) | exact HI0.out)) z52_ (by decide)) hk (fun _ h => h.2)) (fun _ h => h.1)); replace HK := Aside0.mk (KeepBut.trans z1_ hk (.inl rfl)); replace HB := Aside0.mk (hb); replace HI0 := Aside0.mk (hi); (try clear hb hk hi)) | ((with_reducible refine gate_callee (f := 84) rfl ?_); refine goesL_ (some 27) rfl rfl Try.func84 (by kernel_rfl) rfl #[.pointer (some ⟨g, 0, none⟩), .int .i64 (wrap64 ((l2.length : Int) + 1))] rfl z4_ ?_; (with_reducible refine (spec_l1Below.calls g s0_0 t456 t457 (wrap64 ((l2.length : Int) + 1)) t458 t459 t460 w0 _ ?side1 ?side2 A8.out).mono ?_); (case side1 => exact z2_); (case side2 => exact z3_); rintro e w16 ⟨rfl, hi, hb, hk⟩; refine ⟨_, rfl, ?_⟩; replace HO449 := Aside0.mk (Kd.R_mono (Kd.R_keep (IsS115.apart (show IsS115 w0 _ g s0_0 t456 t457 from by repeat (first | (with_reducible first | exact HI0.out | apply IsS115.alloc | apply IsS115.drewN | apply IsS115.drew | apply IsS115.set_1 | apply IsS115.set_2) | exact HI0.out)) z52_ (by decide)) hk (fun _ h => h.2)) (fun _ h => h.1)); replace HK := Aside0.mk (KeepBut.trans z1_ hk (.inl rfl)); replace HB := Aside0.mk (hb); replace HI0 := Aside0.mk (hi); (try clear hb hk hi); have p11 : 0 ≤ (t452 : Int) := odt_; have q11 : (t452 : Int) < ((t447.length : Int) : Int) := odt_; obtain ⟨go11, co11, eo11, gb11, gl11, cl11, HG11⟩ := Kd.R_form HO449.out (by omega); (first | cases eo11 | (injection eo11 with ea_ en_ ec_; (first | subst ea_ | (injection ea_ with ea_; subst ea_)); subst ec_; clear en_)); have GB11 := Aside0.mk gb11; have GG11 := Aside0.mk HG11; clear gb11 gl11 HG11; obtain ⟨ce11, hcl11, hM11, hcc11, hfr11⟩ := Kd.R_elem HO449.out z47 (t452 : Int) p11 q11; obtain rfl := k47_openM hM11; have hx11_0 : w16.cell? ⟨go11, (t452 : Int).toNat * 2, none⟩ = some (.int .i64 ((rd_T47 t447 t452).f0)) := hcc11 0 _ rfl; have hx11_1 : w16.cell? ⟨go11, (t452 : Int).toNat * 2 + 1, none⟩ = some (.int .i64 ((rd_T47 t447 t452).f1)) := hcc11 1 _ rfl; have hf11_0 : w16.frozen? ⟨go11, (t452 : Int).toNat * 2, none⟩ = false := hfr11 0; have hf11_1 : w16.frozen? ⟨go11, (t452 : Int).toNat * 2 + 1, none⟩ = false := hfr11 1; clear hcl11 hcc11 hfr11 hM11; replace p11 := eq_true p11; replace q11 := eq_true q11; have HX17 := Aside0.mk (show Kd.R k47 47 w16 w.heap.size (fun _ => True) (.slice (some ⟨go11, 0, none⟩) t447.length co13) t447 from z52_); obtain ⟨ce17, hcl17, hM17, hcc17, hfr17⟩ := Kd.R_elem HX17.out z47 (t452 : Int) (odt_) (by have h_ : (t452 : Int) < ((t447.length : Int) : Int) := odt_; first | exact h_ | (have e_ := (Kd.R_reads' HO449.out).1; omega) | simpa using h_); obtain rfl := k47_openM hM17; have HP17 := Kd.R_seg HX17.out (t452 : Int) (odt_) (by have h_ : (t452 : Int) < ((t447.length : Int) : Int) := odt_; first | exact h_ | (have e_ := (Kd.R_reads' HO449.out).1; omega) | simpa using h_) (seg := [.int .i64 t458]) (j := 1) hcl17 hcc17 (show 2 ≤ 2 from by decide) (x' := (⟨(rd_T47 t447 t452).f0, t458⟩ : S47)) (k47_mkM _ _ _ (⟨(rd_T47 t447 t452).f0, t458⟩ : S47) ) (fun _ hk => hk); have hx17_1 := hcc17 1 _ rfl; (try simp only [show (k47).sz = 2 from rfl, Nat.mul_one, Nat.add_zero] at hx17_1); have hf17_1 := hfr17 1; (try simp only [show (k47).sz = 2 from rfl, Nat.mul_one, Nat.add_zero] at hf17_1); clear hcl17 hcc17 hfr17 hM17) | ((with_reducible refine gate_store (t := 3) (p := 29) rfl ?_); refine store_event (t := 3) (p := 29) (v := ?vo_w18) (w1 := (w16.setCell ⟨go11, (t452 : Int).toNat * 2 + 1, none⟩ (.int .i64 t458))) ?hg ?ho ?hn ?hr ?_; (case ho => rfl); (case hg => rfl); (case hn => rfl); (case hr => exact z26_); intro w18 hw; have hg : w16.grownBy w18 (some go11) := (by rw [hw]; exact HP17.2); have hp_ : Kd.R k47 47 w18 w.heap.size (fun _ => True) (.slice (some ⟨go11, 0, none⟩) t447.length co13) y461 := (by rw [hw, Ny461.out]; exact HP17.1); clear HP17; replace HI0 := Aside0.mk (IsS115.grown z2_ hg (IsS115.own_ne HI0.out HO449.out (by decide))); replace HB := Aside0.mk ((by rw [hw]; exact below_set (HB.out) (Nat.le_trans HL.out GB11.out) : Below w0.heap.size w0 w18)); replace HK := Aside0.mk (KeepBut.trans z1_ (KeepBut.of_grown hg g) (Kd.R_base2 HO449.out)); replace HO449 := Aside0.mk (hp_); clear hg hw hp_))
  go_ret
  exact ⟨_, z7_, Kd.Q_of_R z52_, z2_, z3_, z1_⟩
 ·rw [if_neg c7] at H
  have c7b0 : (t455 == 0) = false := beq_eq_false_iff_ne.mpr c7
  have c7b1 : (t455 != 0) = true := bne_iff_ne.mpr c7
  by_cases c19 : t455 = 1
  ·rw [if_pos c19] at H
   have c19b0 : (t455 == 1) = true := beq_iff_eq.mpr c19
   have c19b1 : (t455 != 1) = false := bne_eq_false_iff_eq.mpr c19
   clear c19
   replace H := Option.bind_eq_some_iff.mp H
   obtain ⟨⟨t462, t463, t464⟩, A200, H⟩ := H
   try dsimp only at H
   have A20 := Aside0.mk A200
   clear A200
   obtain ⟨c21b0, H⟩ := ifd_ H
   obtain ⟨c22b0, H⟩ := ifd_ H
   first | ((with_reducible have hz_ := gy_ H); obtain ⟨y465, Ny465, H⟩ := hz_) | (generalize hy_ : ((t447.set (t452 : Int).toNat (⟨wrap64 (t462 - 1), (rd_T47 t447 t452).f1⟩ : S47)) : List (S47)) = y465 at H; have Ny465 := Aside0.mk hy_.symm; clear hy_)
   simp only [Option.some.injEq, Prod.mk.injEq] at H
   obtain ⟨rfl, rfl, rfl⟩ := H
   go_enter Try.func74, Try.ntmps74
   go_wp2_with (first | ((with_reducible refine gate_callee (f := 101) rfl ?_); refine goesL_ (some 12) rfl rfl Try.func101 (by kernel_rfl) rfl #[.pointer (some ⟨g, 0, none⟩), .slice A1 l1.length c1, .slice A2 l2.length c2] rfl z4_ ?_; (with_reducible refine (spec_l10Map.calls k g s0_0 s0_1 s0_2 _ _ l1 _ _ l2 t447 t450 t451 w0 _ ?side1 ?side2 ?side3 ?side4 ?side5 ?side6 A4.out).mono ?_); (case side1 => exact z2_); (case side2 => exact z3_); (case side3 => exact z93_); (case side4 => exact HC1.out); (case side5 => exact z94_); (case side6 => exact HC2.out); rintro e w24 ⟨v448, rfl, ho0, hi, hb, hk⟩; refine ⟨_, rfl, ?_⟩; have HO449 := Aside0.mk (Kd.R_lower ho0 (keep_size (w := w) (g := g) (row := none) z1_)); replace HK := Aside0.mk (KeepBut.trans z1_ hk (.inl rfl)); replace HB := Aside0.mk (hb); replace HI0 := Aside0.mk (hi); (try clear hb hk hi ho0); obtain ⟨Ao25, co25, eo25⟩ := Kd.R_slice HO449.out; subst eo25) | ((with_reducible refine gate_callee (f := 84) rfl ?_); refine goesL_ (some 16) rfl rfl Try.func84 (by kernel_rfl) rfl #[.pointer (some ⟨g, 0, none⟩), .int .i64 (t447.length : Int)] rfl z4_ ?_; (with_reducible refine (spec_l1Below.calls g s0_0 t450 t451 (t447.length : Int) t452 t453 t454 w0 _ ?side1 ?side2 A5.out).mono ?_); (case side1 => exact z2_); (case side2 => exact z3_); rintro e w26 ⟨rfl, hi, hb, hk⟩; refine ⟨_, rfl, ?_⟩; replace HO449 := Aside0.mk (Kd.R_mono (Kd.R_keep (IsS115.apart (show IsS115 w0 _ g s0_0 t450 t451 from by repeat (first | (with_reducible first | exact HI0.out | apply IsS115.alloc | apply IsS115.drewN | apply IsS115.drew | apply IsS115.set_1 | apply IsS115.set_2) | exact HI0.out)) z52_ (by decide)) hk (fun _ h => h.2)) (fun _ h => h.1)); replace HK := Aside0.mk (KeepBut.trans z1_ hk (.inl rfl)); replace HB := Aside0.mk (hb); replace HI0 := Aside0.mk (hi); (try clear hb hk hi)) | ((with_reducible refine gate_callee (f := 84) rfl ?_); refine goesL_ (some 18) rfl rfl Try.func84 (by kernel_rfl) rfl #[.pointer (some ⟨g, 0, none⟩), .int .i64 12] rfl z4_ ?_; (with_reducible refine (spec_l1Below.calls g s0_0 t453 t454 12 t455 t456 t457 w0 _ ?side1 ?side2 A6.out).mono ?_); (case side1 => exact z2_); (case side2 => exact z3_); rintro e w27 ⟨rfl, hi, hb, hk⟩; refine ⟨_, rfl, ?_⟩; replace HO449 := Aside0.mk (Kd.R_mono (Kd.R_keep (IsS115.apart (show IsS115 w0 _ g s0_0 t453 t454 from by repeat (first | (with_reducible first | exact HI0.out | apply IsS115.alloc | apply IsS115.drewN | apply IsS115.drew | apply IsS115.set_1 | apply IsS115.set_2) | exact HI0.out)) z52_ (by decide)) hk (fun _ h => h.2)) (fun _ h => h.1)); replace HK := Aside0.mk (KeepBut.trans z1_ hk (.inl rfl)); replace HB := Aside0.mk (hb); replace HI0 := Aside0.mk (hi); (try clear hb hk hi)) | ((with_reducible refine gate_callee (f := 84) rfl ?_); refine goesL_ (some 38) rfl rfl Try.func84 (by kernel_rfl) rfl #[.pointer (some ⟨g, 0, none⟩), .int .i64 (wrap64 ((l1.length : Int) + 2))] rfl z4_ ?_; (with_reducible refine (spec_l1Below.calls g s0_0 t456 t457 (wrap64 ((l1.length : Int) + 2)) t462 t463 t464 w0 _ ?side1 ?side2 A20.out).mono ?_); (case side1 => exact z2_); (case side2 => exact z3_); rintro e w28 ⟨rfl, hi, hb, hk⟩; refine ⟨_, rfl, ?_⟩; replace HO449 := Aside0.mk (Kd.R_mono (Kd.R_keep (IsS115.apart (show IsS115 w0 _ g s0_0 t456 t457 from by repeat (first | (with_reducible first | exact HI0.out | apply IsS115.alloc | apply IsS115.drewN | apply IsS115.drew | apply IsS115.set_1 | apply IsS115.set_2) | exact HI0.out)) z52_ (by decide)) hk (fun _ h => h.2)) (fun _ h => h.1)); replace HK := Aside0.mk (KeepBut.trans z1_ hk (.inl rfl)); replace HB := Aside0.mk (hb); replace HI0 := Aside0.mk (hi); (try clear hb hk hi); have p23 : 0 ≤ (t452 : Int) := odt_; have q23 : (t452 : Int) < ((t447.length : Int) : Int) := odt_; obtain ⟨go23, co23, eo23, gb23, gl23, cl23, HG23⟩ := Kd.R_form HO449.out (by omega); (first | cases eo23 | (injection eo23 with ea_ en_ ec_; (first | subst ea_ | (injection ea_ with ea_; subst ea_)); subst ec_; clear en_)); have GB23 := Aside0.mk gb23; have GG23 := Aside0.mk HG23; clear gb23 gl23 HG23; obtain ⟨ce23, hcl23, hM23, hcc23, hfr23⟩ := Kd.R_elem HO449.out z47 (t452 : Int) p23 q23; obtain rfl := k47_openM hM23; have hx23_0 : w28.cell? ⟨go23, (t452 : Int).toNat * 2, none⟩ = some (.int .i64 ((rd_T47 t447 t452).f0)) := hcc23 0 _ rfl; have hx23_1 : w28.cell? ⟨go23, (t452 : Int).toNat * 2 + 1, none⟩ = some (.int .i64 ((rd_T47 t447 t452).f1)) := hcc23 1 _ rfl; have hf23_0 : w28.frozen? ⟨go23, (t452 : Int).toNat * 2, none⟩ = false := hfr23 0; have hf23_1 : w28.frozen? ⟨go23, (t452 : Int).toNat * 2 + 1, none⟩ = false := hfr23 1; clear hcl23 hcc23 hfr23 hM23; replace p23 := eq_true p23; replace q23 := eq_true q23; have HX29 := Aside0.mk (show Kd.R k47 47 w28 w.heap.size (fun _ => True) (.slice (some ⟨go23, 0, none⟩) t447.length co25) t447 from z52_); obtain ⟨ce29, hcl29, hM29, hcc29, hfr29⟩ := Kd.R_elem HX29.out z47 (t452 : Int) (odt_) (by have h_ : (t452 : Int) < ((t447.length : Int) : Int) := odt_; first | exact h_ | (have e_ := (Kd.R_reads' HO449.out).1; omega) | simpa using h_); obtain rfl := k47_openM hM29; have HP29 := Kd.R_seg HX29.out (t452 : Int) (odt_) (by have h_ : (t452 : Int) < ((t447.length : Int) : Int) := odt_; first | exact h_ | (have e_ := (Kd.R_reads' HO449.out).1; omega) | simpa using h_) (seg := [.int .i64 (wrap64 (t462 - 1))]) (j := 0) hcl29 hcc29 (show 1 ≤ 2 from by decide) (x' := (⟨wrap64 (t462 - 1), (rd_T47 t447 t452).f1⟩ : S47)) (k47_mkM _ _ _ (⟨wrap64 (t462 - 1), (rd_T47 t447 t452).f1⟩ : S47) ) (fun _ hk => hk); have hx29_0 := hcc29 0 _ rfl; (try simp only [show (k47).sz = 2 from rfl, Nat.mul_one, Nat.add_zero] at hx29_0); have hf29_0 := hfr29 0; (try simp only [show (k47).sz = 2 from rfl, Nat.mul_one, Nat.add_zero] at hf29_0); clear hcl29 hcc29 hfr29 hM29) | ((with_reducible refine gate_store (t := 3) (p := 41) rfl ?_); refine store_event (t := 3) (p := 41) (v := ?vo_w30) (w1 := (w28.setCell ⟨go23, (t452 : Int).toNat * 2, none⟩ (.int .i64 (wrap64 (t462 - 1))))) ?hg ?ho ?hn ?hr ?_; (case ho => rfl); (case hg => rfl); (case hn => rfl); (case hr => exact z26_); intro w30 hw; have hg : w28.grownBy w30 (some go23) := (by rw [hw]; exact HP29.2); have hp_ : Kd.R k47 47 w30 w.heap.size (fun _ => True) (.slice (some ⟨go23, 0, none⟩) t447.length co25) y465 := (by rw [hw, Ny465.out]; exact HP29.1); clear HP29; replace HI0 := Aside0.mk (IsS115.grown z2_ hg (IsS115.own_ne HI0.out HO449.out (by decide))); replace HB := Aside0.mk ((by rw [hw]; exact below_set (HB.out) (Nat.le_trans HL.out GB23.out) : Below w0.heap.size w0 w30)); replace HK := Aside0.mk (KeepBut.trans z1_ (KeepBut.of_grown hg g) (Kd.R_base2 HO449.out)); replace HO449 := Aside0.mk (hp_); clear hg hw hp_))
   go_ret
   exact ⟨_, z7_, Kd.Q_of_R z52_, z2_, z3_, z1_⟩
  ·rw [if_neg c19] at H
   have c19b0 : (t455 == 1) = false := beq_eq_false_iff_ne.mpr c19
   have c19b1 : (t455 != 1) = true := bne_iff_ne.mpr c19
   by_cases c31 : t455 = 2
   ·rw [if_pos c31] at H
    have c31b0 : (t455 == 2) = true := beq_iff_eq.mpr c31
    have c31b1 : (t455 != 2) = false := bne_eq_false_iff_eq.mpr c31
    clear c31
    obtain ⟨c32b0, c32b1, H⟩ := ife_ H
    first | ((with_reducible have hz_ := gy_ H); obtain ⟨y466, Ny466, H⟩ := hz_) | (generalize hy_ : ((t447.drop (1 : Int).toNat) : List (S47)) = y466 at H; have Ny466 := Aside0.mk hy_.symm; clear hy_)
    simp only [Option.some.injEq, Prod.mk.injEq] at H
    obtain ⟨rfl, rfl, rfl⟩ := H
    go_enter Try.func74, Try.ntmps74
    go_wp2_with (first | ((with_reducible refine gate_callee (f := 101) rfl ?_); refine goesL_ (some 12) rfl rfl Try.func101 (by kernel_rfl) rfl #[.pointer (some ⟨g, 0, none⟩), .slice A1 l1.length c1, .slice A2 l2.length c2] rfl z4_ ?_; (with_reducible refine (spec_l10Map.calls k g s0_0 s0_1 s0_2 _ _ l1 _ _ l2 t447 t450 t451 w0 _ ?side1 ?side2 ?side3 ?side4 ?side5 ?side6 A4.out).mono ?_); (case side1 => exact z2_); (case side2 => exact z3_); (case side3 => exact z93_); (case side4 => exact HC1.out); (case side5 => exact z94_); (case side6 => exact HC2.out); rintro e w33 ⟨v448, rfl, ho0, hi, hb, hk⟩; refine ⟨_, rfl, ?_⟩; have HO449 := Aside0.mk (Kd.R_lower ho0 (keep_size (w := w) (g := g) (row := none) z1_)); replace HK := Aside0.mk (KeepBut.trans z1_ hk (.inl rfl)); replace HB := Aside0.mk (hb); replace HI0 := Aside0.mk (hi); (try clear hb hk hi ho0); obtain ⟨Ao34, co34, eo34⟩ := Kd.R_slice HO449.out; subst eo34) | ((with_reducible refine gate_callee (f := 84) rfl ?_); refine goesL_ (some 16) rfl rfl Try.func84 (by kernel_rfl) rfl #[.pointer (some ⟨g, 0, none⟩), .int .i64 (t447.length : Int)] rfl z4_ ?_; (with_reducible refine (spec_l1Below.calls g s0_0 t450 t451 (t447.length : Int) t452 t453 t454 w0 _ ?side1 ?side2 A5.out).mono ?_); (case side1 => exact z2_); (case side2 => exact z3_); rintro e w35 ⟨rfl, hi, hb, hk⟩; refine ⟨_, rfl, ?_⟩; replace HO449 := Aside0.mk (Kd.R_mono (Kd.R_keep (IsS115.apart (show IsS115 w0 _ g s0_0 t450 t451 from by repeat (first | (with_reducible first | exact HI0.out | apply IsS115.alloc | apply IsS115.drewN | apply IsS115.drew | apply IsS115.set_1 | apply IsS115.set_2) | exact HI0.out)) z52_ (by decide)) hk (fun _ h => h.2)) (fun _ h => h.1)); replace HK := Aside0.mk (KeepBut.trans z1_ hk (.inl rfl)); replace HB := Aside0.mk (hb); replace HI0 := Aside0.mk (hi); (try clear hb hk hi)) | ((with_reducible refine gate_callee (f := 84) rfl ?_); refine goesL_ (some 18) rfl rfl Try.func84 (by kernel_rfl) rfl #[.pointer (some ⟨g, 0, none⟩), .int .i64 12] rfl z4_ ?_; (with_reducible refine (spec_l1Below.calls g s0_0 t453 t454 12 t455 t456 t457 w0 _ ?side1 ?side2 A6.out).mono ?_); (case side1 => exact z2_); (case side2 => exact z3_); rintro e w36 ⟨rfl, hi, hb, hk⟩; refine ⟨_, rfl, ?_⟩; replace HO449 := Aside0.mk (Kd.R_mono (Kd.R_keep (IsS115.apart (show IsS115 w0 _ g s0_0 t453 t454 from by repeat (first | (with_reducible first | exact HI0.out | apply IsS115.alloc | apply IsS115.drewN | apply IsS115.drew | apply IsS115.set_1 | apply IsS115.set_2) | exact HI0.out)) z52_ (by decide)) hk (fun _ h => h.2)) (fun _ h => h.1)); replace HK := Aside0.mk (KeepBut.trans z1_ hk (.inl rfl)); replace HB := Aside0.mk (hb); replace HI0 := Aside0.mk (hi); (try clear hb hk hi); have q37 : (1 : Int) ≤ ((t447.length : Int) : Int) := odt_; obtain ⟨i037, hi037, _, hsz37, _⟩ := info_parts info47; have hcut37 := cut_from (P := Try.prog) 34 47 .i64 Try.underlying34 hi037 2 hsz37 Ao34 t447.length co34 1 (by omega) q37; have hr37 := Kd.Q_drop (k := (1 : Int).toNat) (Kd.Q_of_R HO449.out) (by omega); obtain ⟨A37, hA37⟩ : ∃ A1, A1 = (if co34 = (1 : Int).toNat then Ao34 else (Ao34 : Option Addr).map (·.add ((1 : Int).toNat * 2))) := ⟨_, rfl⟩; obtain ⟨c37, hc37⟩ : ∃ c1, c1 = co34 - (1 : Int).toNat := ⟨_, rfl⟩; have hy37 : y466.length = t447.length - (1 : Int).toNat := (by rw [Ny466.out, List.length_drop]); rw [← Ny466.out] at hr37; rw [← hy37, ← hA37, ← hc37] at hcut37; replace hr37 : Kd.Q k47 47 w36 w.heap.size (fun _ => True) (.slice A37 y466.length c37) y466 := (by rw [hA37, hc37, hy37]; exact hr37); have HE37 : Aside0 ((Value.slice A37 y466.length c37).ownBlock = (.slice Ao34 t447.length co34 : Value).ownBlock) := ⟨by rw [hA37]; split <;> (cases (Ao34 : Option Addr) <;> rfl)⟩; clear hy37 hi037 hsz37 HO449 hA37 hc37; have HO468 := Aside0.mk hr37; clear hr37; replace q37 := eq_true q37))
    go_ret
    exact ⟨_, z7_, by (with_reducible repeat (first | apply Kd.Q_alloc | apply Kd.Q_drewN | apply Kd.Q_drew)); exact HO468.out, z2_, z3_, z1_⟩
   ·rw [if_neg c31] at H
    have c31b0 : (t455 == 2) = false := beq_eq_false_iff_ne.mpr c31
    have c31b1 : (t455 != 2) = true := bne_iff_ne.mpr c31
    by_cases c38 : t455 = 3
    ·rw [if_pos c38] at H
     have c38b0 : (t455 == 3) = true := beq_iff_eq.mpr c38
     have c38b1 : (t455 != 3) = false := bne_eq_false_iff_eq.mpr c38
     clear c38
     obtain ⟨c39b0, H⟩ := ifd_ H
     obtain ⟨c40b0, H⟩ := ifd_ H
     obtain ⟨c41, H⟩ := ifs_ H
     have LMc41 := Aside0.mk c41
     clear c41
     first | ((with_reducible have hz_ := gy_ H); obtain ⟨y470, Ny470, H⟩ := hz_) | (generalize hy_ : ((t447 ++ [(⟨(rd_T47 t447 t452).f0, (rd_T47 t447 t452).f1⟩ : S47)]) : List (S47)) = y470 at H; have Ny470 := Aside0.mk hy_.symm; clear hy_)
     simp only [Option.some.injEq, Prod.mk.injEq] at H
     obtain ⟨rfl, rfl, rfl⟩ := H
     go_enter Try.func74, Try.ntmps74
     go_wp2_with (first | ((with_reducible refine gate_callee (f := 101) rfl ?_); refine goesL_ (some 12) rfl rfl Try.func101 (by kernel_rfl) rfl #[.pointer (some ⟨g, 0, none⟩), .slice A1 l1.length c1, .slice A2 l2.length c2] rfl z4_ ?_; (with_reducible refine (spec_l10Map.calls k g s0_0 s0_1 s0_2 _ _ l1 _ _ l2 t447 t450 t451 w0 _ ?side1 ?side2 ?side3 ?side4 ?side5 ?side6 A4.out).mono ?_); (case side1 => exact z2_); (case side2 => exact z3_); (case side3 => exact z93_); (case side4 => exact HC1.out); (case side5 => exact z94_); (case side6 => exact HC2.out); rintro e w42 ⟨v448, rfl, ho0, hi, hb, hk⟩; refine ⟨_, rfl, ?_⟩; have HO449 := Aside0.mk (Kd.R_lower ho0 (keep_size (w := w) (g := g) (row := none) z1_)); replace HK := Aside0.mk (KeepBut.trans z1_ hk (.inl rfl)); replace HB := Aside0.mk (hb); replace HI0 := Aside0.mk (hi); (try clear hb hk hi ho0); obtain ⟨Ao43, co43, eo43⟩ := Kd.R_slice HO449.out; subst eo43) | ((with_reducible refine gate_callee (f := 84) rfl ?_); refine goesL_ (some 16) rfl rfl Try.func84 (by kernel_rfl) rfl #[.pointer (some ⟨g, 0, none⟩), .int .i64 (t447.length : Int)] rfl z4_ ?_; (with_reducible refine (spec_l1Below.calls g s0_0 t450 t451 (t447.length : Int) t452 t453 t454 w0 _ ?side1 ?side2 A5.out).mono ?_); (case side1 => exact z2_); (case side2 => exact z3_); rintro e w44 ⟨rfl, hi, hb, hk⟩; refine ⟨_, rfl, ?_⟩; replace HO449 := Aside0.mk (Kd.R_mono (Kd.R_keep (IsS115.apart (show IsS115 w0 _ g s0_0 t450 t451 from by repeat (first | (with_reducible first | exact HI0.out | apply IsS115.alloc | apply IsS115.drewN | apply IsS115.drew | apply IsS115.set_1 | apply IsS115.set_2) | exact HI0.out)) z52_ (by decide)) hk (fun _ h => h.2)) (fun _ h => h.1)); replace HK := Aside0.mk (KeepBut.trans z1_ hk (.inl rfl)); replace HB := Aside0.mk (hb); replace HI0 := Aside0.mk (hi); (try clear hb hk hi)) | ((with_reducible refine gate_callee (f := 84) rfl ?_); refine goesL_ (some 18) rfl rfl Try.func84 (by kernel_rfl) rfl #[.pointer (some ⟨g, 0, none⟩), .int .i64 12] rfl z4_ ?_; (with_reducible refine (spec_l1Below.calls g s0_0 t453 t454 12 t455 t456 t457 w0 _ ?side1 ?side2 A6.out).mono ?_); (case side1 => exact z2_); (case side2 => exact z3_); rintro e w45 ⟨rfl, hi, hb, hk⟩; refine ⟨_, rfl, ?_⟩; replace HO449 := Aside0.mk (Kd.R_mono (Kd.R_keep (IsS115.apart (show IsS115 w0 _ g s0_0 t453 t454 from by repeat (first | (with_reducible first | exact HI0.out | apply IsS115.alloc | apply IsS115.drewN | apply IsS115.drew | apply IsS115.set_1 | apply IsS115.set_2) | exact HI0.out)) z52_ (by decide)) hk (fun _ h => h.2)) (fun _ h => h.1)); replace HK := Aside0.mk (KeepBut.trans z1_ hk (.inl rfl)); replace HB := Aside0.mk (hb); replace HI0 := Aside0.mk (hi); (try clear hb hk hi); have p469 : 0 ≤ (t452 : Int) := odt_; have q469 : t452 < (t447.length : Int) := odt_; obtain ⟨ad469, e469, hx469_0, hx469_1⟩ := at_T47 (Kd.R_reads' HO449.out).2.2 t452 p469 q469; cases e469; replace p469 := eq_true p469; replace q469 := eq_true q469) | ((with_reducible refine gate_builtin (b := .append) (xs := #[.tmp 48, .tmp 53]) rfl ?_); at_builtin; refine Kd.R_append k47 w.heap.size rfl (.tmp 48) (.tmp 53) 34 47 (.agg #[(.int .i64 0), (.int .i64 0)]) 16 rfl Try.underlying34 info47 rfl (by decide) (by omega) (.slice (some ad469) t447.length co43) t447 (⟨(rd_T47 t447 t452).f0, (rd_T47 t447 t452).f1⟩ : S47) [.int .i64 ((rd_T47 t447 t452).f0), .int .i64 ((rd_T47 t447 t452).f1)] (fun _ => True) (fun _ => False) rfl rfl ?aP (fun _ hk => hk.elim) ?aF ?aO (Below.refl _ _) ?aS ?aL ?_; (case aP => exact k47_mkM _ _ _ (⟨(rd_T47 t447 t452).f0, (rd_T47 t447 t452).f1⟩ : S47)); (case aF => exact z168_); (case aO => exact z52_); (case aS => exact z33_); (case aL => have := LMc41.out; omega); intro v471 w46 ho hb hg hat; rw [← Ny470.out] at ho; replace HB := Aside0.mk (below_weaken z3_ HL.out hb); replace HI0 := Aside0.mk (IsS115.grown z2_ hg (IsS115.own_ne HI0.out HO449.out (by decide))); replace HK := Aside0.mk (KeepBut.trans z1_ (KeepBut.of_grown hg g) (Kd.R_base2 HO449.out)); have HO472 := Aside0.mk (ho); clear HO449; clear ho hb hg hat))
     go_ret
     exact ⟨_, z7_, Kd.Q_of_R (by (with_reducible repeat (first | apply Kd.R_alloc | apply Kd.R_drewN | apply Kd.R_drew)); exact HO472.out), z2_, z3_, z1_⟩
    ·rw [if_neg c38] at H
     have c38b0 : (t455 == 3) = false := beq_eq_false_iff_ne.mpr c38
     have c38b1 : (t455 != 3) = true := bne_iff_ne.mpr c38
     simp only [Option.some.injEq, Prod.mk.injEq] at H
     obtain ⟨rfl, rfl, rfl⟩ := H
     go_enter Try.func74, Try.ntmps74
     go_wp2_with (first | ((with_reducible refine gate_callee (f := 101) rfl ?_); refine goesL_ (some 12) rfl rfl Try.func101 (by kernel_rfl) rfl #[.pointer (some ⟨g, 0, none⟩), .slice A1 l1.length c1, .slice A2 l2.length c2] rfl z4_ ?_; (with_reducible refine (spec_l10Map.calls k g s0_0 s0_1 s0_2 _ _ l1 _ _ l2 t447 t450 t451 w0 _ ?side1 ?side2 ?side3 ?side4 ?side5 ?side6 A4.out).mono ?_); (case side1 => exact z2_); (case side2 => exact z3_); (case side3 => exact z93_); (case side4 => exact HC1.out); (case side5 => exact z94_); (case side6 => exact HC2.out); rintro e w47 ⟨v448, rfl, ho0, hi, hb, hk⟩; refine ⟨_, rfl, ?_⟩; have HO449 := Aside0.mk (Kd.R_lower ho0 (keep_size (w := w) (g := g) (row := none) z1_)); replace HK := Aside0.mk (KeepBut.trans z1_ hk (.inl rfl)); replace HB := Aside0.mk (hb); replace HI0 := Aside0.mk (hi); (try clear hb hk hi ho0); obtain ⟨Ao48, co48, eo48⟩ := Kd.R_slice HO449.out; subst eo48) | ((with_reducible refine gate_callee (f := 84) rfl ?_); refine goesL_ (some 16) rfl rfl Try.func84 (by kernel_rfl) rfl #[.pointer (some ⟨g, 0, none⟩), .int .i64 (t447.length : Int)] rfl z4_ ?_; (with_reducible refine (spec_l1Below.calls g s0_0 t450 t451 (t447.length : Int) t452 t453 t454 w0 _ ?side1 ?side2 A5.out).mono ?_); (case side1 => exact z2_); (case side2 => exact z3_); rintro e w49 ⟨rfl, hi, hb, hk⟩; refine ⟨_, rfl, ?_⟩; replace HO449 := Aside0.mk (Kd.R_mono (Kd.R_keep (IsS115.apart (show IsS115 w0 _ g s0_0 t450 t451 from by repeat (first | (with_reducible first | exact HI0.out | apply IsS115.alloc | apply IsS115.drewN | apply IsS115.drew | apply IsS115.set_1 | apply IsS115.set_2) | exact HI0.out)) z52_ (by decide)) hk (fun _ h => h.2)) (fun _ h => h.1)); replace HK := Aside0.mk (KeepBut.trans z1_ hk (.inl rfl)); replace HB := Aside0.mk (hb); replace HI0 := Aside0.mk (hi); (try clear hb hk hi)) | ((with_reducible refine gate_callee (f := 84) rfl ?_); refine goesL_ (some 18) rfl rfl Try.func84 (by kernel_rfl) rfl #[.pointer (some ⟨g, 0, none⟩), .int .i64 12] rfl z4_ ?_; (with_reducible refine (spec_l1Below.calls g s0_0 t453 t454 12 t455 t456 t457 w0 _ ?side1 ?side2 A6.out).mono ?_); (case side1 => exact z2_); (case side2 => exact z3_); rintro e w50 ⟨rfl, hi, hb, hk⟩; refine ⟨_, rfl, ?_⟩; replace HO449 := Aside0.mk (Kd.R_mono (Kd.R_keep (IsS115.apart (show IsS115 w0 _ g s0_0 t453 t454 from by repeat (first | (with_reducible first | exact HI0.out | apply IsS115.alloc | apply IsS115.drewN | apply IsS115.drew | apply IsS115.set_1 | apply IsS115.set_2) | exact HI0.out)) z52_ (by decide)) hk (fun _ h => h.2)) (fun _ h => h.1)); replace HK := Aside0.mk (KeepBut.trans z1_ hk (.inl rfl)); replace HB := Aside0.mk (hb); replace HI0 := Aside0.mk (hi); (try clear hb hk hi)))
     go_ret
     exact ⟨_, z7_, Kd.Q_of_R z52_, z2_, z3_, z1_⟩

/-! ### spec_l10Draw: function 37 -/
def spec_l10Draw.f (k : Nat) (s0_0 : List Int) (s0_1 : Int) (s0_2 : Int) : Option ((List (S45)) × (List (S45)) × List Int × List Int × List Int × (List (S47)) × Int × Int) := (spec_l8Draw.f k s0_0 s0_1 s0_2 8).bind fun bt474 => ((spec_l10Any.f k s0_0 bt474.2.2.2.2.2.1 bt474.2.2.2.2.2.2 bt474.1 bt474.2.1).bind fun bt492 => (some (bt474.1, bt474.2.1, bt474.2.2.1, bt474.2.2.2.1, bt474.2.2.2.2.1, bt492.1, bt492.2.1, bt492.2.2)))
def spec_l10Draw.T2 : Bool × List (List Nat × List Nat) := (true, [([], []), ([], []), ([], []), ([], []), ([], []), ([], []), ([3, 4, 5], [3, 4, 5]), ([0, 6, 0], [0]), ([1, 7, 0, 1, 7], [1]), ([2, 8, 0, 1, 2, 7, 8], [2]), ([6, 9, 0, 1, 2, 3, 4, 5, 6, 7, 8, 9], [6])])
def spec_l10Draw.B2 : List Nat := [0, 0, 0, 0, 0, 0, 56, 121, 251, 511, 1023]
theorem spec_l10Draw.tab2 : rtab .any (opsOf Try.f37 2) = spec_l10Draw.T2 := by kernel_rfl
theorem spec_l10Draw.bits2 : waitsOk spec_l10Draw.T2.2 spec_l10Draw.B2 = true := by kernel_rfl
set_option maxHeartbeats 8000000 in
set_option maxRecDepth 100000 in
theorem spec_l10Draw.calls (k : Nat) (g : Nat) (s0_0 : List Int) (s0_1 : Int) (s0_2 : Int) (r1 : List (S45)) (r2 : List (S45)) (r3 : List Int) (r4 : List Int) (r5 : List Int) (r6 : List (S47)) (r7 : Int) (r8 : Int) (w0 w : World) (hI : IsS115 w0 w g s0_0 s0_1 s0_2) (hB : Below w0.heap.size w0 w) (h : spec_l10Draw.f k s0_0 s0_1 s0_2 = some (r1, r2, r3, r4, r5, r6, r7, r8)) :
  Calls Try.prog 37 #[.pointer (some ⟨g, 0, none⟩)] w fun e w' => ∃ v0_ v1_ v2_ v3_ v4_ v5_ : Value, e = .returned (.tuple #[v0_, v1_, .agg #[v2_, v3_, v4_], v5_]) ∧ Kd.Q k45 45 w' w.heap.size (fun k_ => some k_ ≠ (v1_ : Value).ownBlock) v0_ r1 ∧ Kd.R k45 45 w' w.heap.size (fun k_ => some k_ ≠ (v0_ : Value).ownBlock) v1_ r2 ∧ Kd.R (Kd.int .i64) 3 w' w.heap.size (fun k_ => some k_ ≠ (v3_ : Value).ownBlock ∧ some k_ ≠ (v4_ : Value).ownBlock) v2_ r3 ∧ Kd.Q (Kd.int .i64) 3 w' w.heap.size (fun k_ => some k_ ≠ (v2_ : Value).ownBlock ∧ some k_ ≠ (v4_ : Value).ownBlock) v3_ r4 ∧ Kd.R (Kd.int .i64) 3 w' w.heap.size (fun k_ => some k_ ≠ (v2_ : Value).ownBlock ∧ some k_ ≠ (v3_ : Value).ownBlock) v4_ r5 ∧ Kd.Q k47 47 w' w.heap.size (fun _ => True) v5_ r6 ∧ IsS115 w0 w' g s0_0 r7 r8 ∧ Below w0.heap.size w0 w' ∧ KeepBut w w' g none := by
 have hu33 := Try.underlying33
 have HI0 := Aside0.mk hI
 have HK := Aside0.mk (KeepBut.refl w g none)
 have HL := Aside0.mk hB.size
 clear hI
 have HW0 := Aside0.mk hB.size
 have HB := Aside0.mk hB
 clear hB
 have H : ((spec_l8Draw.f k s0_0 s0_1 s0_2 8).bind fun bt474 => ((spec_l10Any.f k s0_0 bt474.2.2.2.2.2.1 bt474.2.2.2.2.2.2 bt474.1 bt474.2.1).bind fun bt492 => (some (bt474.1, bt474.2.1, bt474.2.2.1, bt474.2.2.2.1, bt474.2.2.2.2.1, bt492.1, bt492.2.1, bt492.2.2)))) = some (r1, r2, r3, r4, r5, r6, r7, r8) := h
 clear h
 replace H := Option.bind_eq_some_iff.mp H
 obtain ⟨⟨t474, t477, t480, t483, t486, t489, t490⟩, A20, H⟩ := H
 try dsimp only at H
 have A2 := Aside0.mk A20
 clear A20
 replace H := Option.bind_eq_some_iff.mp H
 obtain ⟨⟨t492, t495, t496⟩, A30, H⟩ := H
 try dsimp only at H
 have A3 := Aside0.mk A30
 clear A30
 simp only [Option.some.injEq, Prod.mk.injEq] at H
 obtain ⟨rfl, rfl, rfl, rfl, rfl, rfl, rfl, rfl⟩ := H
 go_enter Try.func37, Try.ntmps37
 try go_wp2_with (first | ((with_reducible refine gate_dst (N := 4) rfl ?_); refine box_event ?hg (N := 4) ?hd (cs := #[.slice none 0 0, .slice none 0 0, .slice none 0 0]) (t := 33) ?hr ?_; (case hd => rfl); (case hg => rfl); (case hr => exact z26_); intro gb473 hg w4 hbox hb; replace HB := Aside0.mk (below_step z3_ hb); have BK473 := Aside0.mk (hbox); have GW473 := Aside0.mk ((by rw [hg]; exact (keep_size (w := w) (g := g) (row := none) z1_) : w.heap.size ≤ gb473)); have GE473 := Aside0.mk ((Nat.le_trans HW0.out (by rw [hg]; exact (keep_size (w := w) (g := g) (row := none) z1_) : w.heap.size ≤ gb473) : w0.heap.size ≤ gb473)); replace HK := Aside0.mk (KeepBut.trans z1_ (KeepBut.of_below hb g none) (.inl rfl)); have NB0_473 := Aside0.mk ((by rw [hg]; exact Nat.ne_of_lt (IsS115.lt (show IsS115 w0 _ g s0_0 s0_1 s0_2 from by repeat (first | (with_reducible first | exact HI0.out | apply IsS115.alloc | apply IsS115.drewN | apply IsS115.drew | apply IsS115.set_1 | apply IsS115.set_2) | exact HI0.out))) : g ≠ gb473)); have NB473_0 := Aside0.mk ((by rw [hg]; exact Nat.ne_of_gt (IsS115.lt (show IsS115 w0 _ g s0_0 s0_1 s0_2 from by repeat (first | (with_reducible first | exact HI0.out | apply IsS115.alloc | apply IsS115.drewN | apply IsS115.drew | apply IsS115.set_1 | apply IsS115.set_2) | exact HI0.out))) : gb473 ≠ g)); replace HI0 := Aside0.mk (IsS115.below z2_ hb); clear hb hbox hg) | ((with_reducible refine gate_callee (f := 73) rfl ?_); refine goesL_ (some 11) rfl rfl Try.func73 (by kernel_rfl) rfl #[.pointer (some ⟨g, 0, none⟩), .int .i64 8] rfl z4_ ?_; (with_reducible refine (spec_l8Draw.calls k g s0_0 s0_1 s0_2 8 t474 t477 t480 t483 t486 t489 t490 w0 _ ?side1 ?side2 A2.out).mono ?_); (case side1 => exact z150_); (case side2 => exact z157_); rintro e w5 ⟨v475, v478, v481, v484, v487, rfl, ho0, ho1, ho2, ho3, ho4, hi, hb, hk⟩; refine ⟨_, rfl, ?_⟩; replace BK473 := Aside0.mk (KeepBut.blk hk (g' := gb473) (o := .cells #[.slice none 0 0, .slice none 0 0, .slice none 0 0] 33 (0, 0)) z125_ NB473_0.out (by simp)); have HO476 := Aside0.mk (Kd.Q_lower ho0 (keep_size (w := w) (g := g) (row := none) z65_)); have HO479 := Aside0.mk (Kd.R_lower ho1 (keep_size (w := w) (g := g) (row := none) z65_)); have HO482 := Aside0.mk (Kd.R_lower ho2 (keep_size (w := w) (g := g) (row := none) z65_)); have HO485 := Aside0.mk (Kd.Q_lower ho3 (keep_size (w := w) (g := g) (row := none) z65_)); have HO488 := Aside0.mk (Kd.R_lower ho4 (keep_size (w := w) (g := g) (row := none) z65_)); replace HK := Aside0.mk (KeepBut.trans z65_ hk (.inl rfl)); replace HB := Aside0.mk (hb); replace HI0 := Aside0.mk (hi); (try clear hb hk hi ho0 ho1 ho2 ho3 ho4)) | ((with_reducible refine gate_dst (N := 8) rfl ?_); refine box_event ?hg (N := 8) ?hd (cs := #[.slice none 0 0, .slice none 0 0, .slice none 0 0]) (t := 33) ?hr ?_; (case hd => rfl); (case hg => rfl); (case hr => exact z26_); intro gb491 hg w6 hbox hb; replace HO476 := Aside0.mk (Kd.Q_below z171_ hb); replace HO479 := Aside0.mk (Kd.R_below z172_ hb); replace HO482 := Aside0.mk (Kd.R_below z202_ hb); replace HO485 := Aside0.mk (Kd.Q_below z203_ hb); replace HO488 := Aside0.mk (Kd.R_below z204_ hb); replace HB := Aside0.mk (below_step z157_ hb); have BK491 := Aside0.mk (hbox); have GW491 := Aside0.mk ((by rw [hg]; exact (keep_size (w := w) (g := g) (row := none) z65_) : w.heap.size ≤ gb491)); have GE491 := Aside0.mk ((Nat.le_trans HW0.out (by rw [hg]; exact (keep_size (w := w) (g := g) (row := none) z65_) : w.heap.size ≤ gb491) : w0.heap.size ≤ gb491)); replace HK := Aside0.mk (KeepBut.trans z65_ (KeepBut.of_below hb g none) (.inl rfl)); have NB473_491 := Aside0.mk ((by rw [hg]; exact Nat.ne_of_lt (blk_lt (g := gb473) (o := .cells #[.slice none 0 0, .slice none 0 0, .slice none 0 0] 33 (0, 0)) z125_) : gb473 ≠ gb491)); have NB491_473 := Aside0.mk ((by rw [hg]; exact Nat.ne_of_gt (blk_lt (g := gb473) (o := .cells #[.slice none 0 0, .slice none 0 0, .slice none 0 0] 33 (0, 0)) z125_) : gb491 ≠ gb473)); replace BK473 := Aside0.mk (blk_below (g := gb473) (o := .cells #[.slice none 0 0, .slice none 0 0, .slice none 0 0] 33 (0, 0)) z125_ hb); have NB0_491 := Aside0.mk ((by rw [hg]; exact Nat.ne_of_lt (IsS115.lt (show IsS115 w0 _ g s0_0 t489 t490 from by repeat (first | (with_reducible first | exact HI0.out | apply IsS115.alloc | apply IsS115.drewN | apply IsS115.drew | apply IsS115.set_1 | apply IsS115.set_2 | refine IsS115.far ?_ NB0_473.out _) | exact HI0.out))) : g ≠ gb491)); have NB491_0 := Aside0.mk ((by rw [hg]; exact Nat.ne_of_gt (IsS115.lt (show IsS115 w0 _ g s0_0 t489 t490 from by repeat (first | (with_reducible first | exact HI0.out | apply IsS115.alloc | apply IsS115.drewN | apply IsS115.drew | apply IsS115.set_1 | apply IsS115.set_2 | refine IsS115.far ?_ NB0_473.out _) | exact HI0.out))) : gb491 ≠ g)); replace HI0 := Aside0.mk (IsS115.below z150_ hb); clear hb hbox hg; obtain ⟨Ao7, co7, eo7⟩ := Kd.R_slice HO482.out; subst eo7; have hnb8 := NB491_473.out; have hnc8 := NB473_491.out; have hnb9 := NB491_0.out; have hnc9 := NB0_491.out; obtain ⟨hcz10_0, hcz10_1, hcz10_2, hfz10_0, hfz10_1, hfz10_2⟩ := bx3_ BK491.out; obtain ⟨Ao11, co11, eo11, _⟩ := Kd.Q_slice HO485.out; subst eo11; obtain ⟨Ao12, co12, eo12⟩ := Kd.R_slice HO488.out; subst eo12))
 have n0_ : Aside0 (Kd.Q k45 45 (((w6.setCell ⟨gb491, 0, none⟩ (.slice Ao7 t480.length co7)).setCell ⟨gb491, 1, none⟩ (.slice Ao11 t483.length co11)).setCell ⟨gb491, 2, none⟩ (.slice Ao12 t486.length co12)) w.heap.size (fun k_ => some k_ ≠ (v478 : Value).ownBlock) v475 t474) := ⟨by (with_reducible repeat (first | apply Kd.Q_alloc | apply Kd.Q_drewN | apply Kd.Q_drew)); exact Kd.Q_mono (Kd.Q_far (p := ⟨gb491, 2, none⟩) (Kd.Q_far (p := ⟨gb491, 1, none⟩) (Kd.Q_far (p := ⟨gb491, 0, none⟩) (Kd.Q_types HO476.out BK491.out (by decide)) (fun _ hk => hk.2) (.slice Ao7 t480.length co7)) (fun _ hk => hk.2) (.slice Ao11 t483.length co11)) (fun _ hk => hk.2) (.slice Ao12 t486.length co12)) (fun _ hk => hk.1)⟩
 have n1_ : Aside0 (Kd.R k45 45 (((w6.setCell ⟨gb491, 0, none⟩ (.slice Ao7 t480.length co7)).setCell ⟨gb491, 1, none⟩ (.slice Ao11 t483.length co11)).setCell ⟨gb491, 2, none⟩ (.slice Ao12 t486.length co12)) w.heap.size (fun k_ => some k_ ≠ (v475 : Value).ownBlock) v478 t477) := ⟨by (with_reducible repeat (first | apply Kd.R_alloc | apply Kd.R_drewN | apply Kd.R_drew)); exact Kd.R_mono (Kd.R_far (p := ⟨gb491, 2, none⟩) (Kd.R_far (p := ⟨gb491, 1, none⟩) (Kd.R_far (p := ⟨gb491, 0, none⟩) (Kd.R_types HO479.out BK491.out (by decide)) (fun _ hk => hk.2) (.slice Ao7 t480.length co7)) (fun _ hk => hk.2) (.slice Ao11 t483.length co11)) (fun _ hk => hk.2) (.slice Ao12 t486.length co12)) (fun _ hk => hk.1)⟩
 have n2_ : Aside0 (Kd.R (Kd.int .i64) 3 (((w6.setCell ⟨gb491, 0, none⟩ (.slice Ao7 t480.length co7)).setCell ⟨gb491, 1, none⟩ (.slice Ao11 t483.length co11)).setCell ⟨gb491, 2, none⟩ (.slice Ao12 t486.length co12)) w.heap.size (fun k_ => some k_ ≠ (.slice Ao11 t483.length co11 : Value).ownBlock ∧ some k_ ≠ (.slice Ao12 t486.length co12 : Value).ownBlock) (.slice Ao7 t480.length co7) t480) := ⟨by (with_reducible repeat (first | apply Kd.R_alloc | apply Kd.R_drewN | apply Kd.R_drew)); exact Kd.R_mono (Kd.R_far (p := ⟨gb491, 2, none⟩) (Kd.R_far (p := ⟨gb491, 1, none⟩) (Kd.R_far (p := ⟨gb491, 0, none⟩) (Kd.R_types HO482.out BK491.out (by decide)) (fun _ hk => hk.2) (.slice Ao7 t480.length co7)) (fun _ hk => hk.2) (.slice Ao11 t483.length co11)) (fun _ hk => hk.2) (.slice Ao12 t486.length co12)) (fun _ hk => ⟨hk.1.1, hk.1.2⟩)⟩
 have n3_ : Aside0 (Kd.Q (Kd.int .i64) 3 (((w6.setCell ⟨gb491, 0, none⟩ (.slice Ao7 t480.length co7)).setCell ⟨gb491, 1, none⟩ (.slice Ao11 t483.length co11)).setCell ⟨gb491, 2, none⟩ (.slice Ao12 t486.length co12)) w.heap.size (fun k_ => some k_ ≠ (.slice Ao7 t480.length co7 : Value).ownBlock ∧ some k_ ≠ (.slice Ao12 t486.length co12 : Value).ownBlock) (.slice Ao11 t483.length co11) t483) := ⟨by (with_reducible repeat (first | apply Kd.Q_alloc | apply Kd.Q_drewN | apply Kd.Q_drew)); exact Kd.Q_mono (Kd.Q_far (p := ⟨gb491, 2, none⟩) (Kd.Q_far (p := ⟨gb491, 1, none⟩) (Kd.Q_far (p := ⟨gb491, 0, none⟩) (Kd.Q_types HO485.out BK491.out (by decide)) (fun _ hk => hk.2) (.slice Ao7 t480.length co7)) (fun _ hk => hk.2) (.slice Ao11 t483.length co11)) (fun _ hk => hk.2) (.slice Ao12 t486.length co12)) (fun _ hk => ⟨hk.1.1, hk.1.2⟩)⟩
 have n4_ : Aside0 (Kd.R (Kd.int .i64) 3 (((w6.setCell ⟨gb491, 0, none⟩ (.slice Ao7 t480.length co7)).setCell ⟨gb491, 1, none⟩ (.slice Ao11 t483.length co11)).setCell ⟨gb491, 2, none⟩ (.slice Ao12 t486.length co12)) w.heap.size (fun k_ => some k_ ≠ (.slice Ao7 t480.length co7 : Value).ownBlock ∧ some k_ ≠ (.slice Ao11 t483.length co11 : Value).ownBlock) (.slice Ao12 t486.length co12) t486) := ⟨by (with_reducible repeat (first | apply Kd.R_alloc | apply Kd.R_drewN | apply Kd.R_drew)); exact Kd.R_mono (Kd.R_far (p := ⟨gb491, 2, none⟩) (Kd.R_far (p := ⟨gb491, 1, none⟩) (Kd.R_far (p := ⟨gb491, 0, none⟩) (Kd.R_types HO488.out BK491.out (by decide)) (fun _ hk => hk.2) (.slice Ao7 t480.length co7)) (fun _ hk => hk.2) (.slice Ao11 t483.length co11)) (fun _ hk => hk.2) (.slice Ao12 t486.length co12)) (fun _ hk => ⟨hk.1.1, hk.1.2⟩)⟩
 have n5_ : Aside0 ((((w6.setCell ⟨gb491, 0, none⟩ (.slice Ao7 t480.length co7)).setCell ⟨gb491, 1, none⟩ (.slice Ao11 t483.length co11)).setCell ⟨gb491, 2, none⟩ (.slice Ao12 t486.length co12)).heap[gb473]? = some (.cells #[.slice none 0 0, .slice none 0 0, .slice none 0 0] 33 (0, 0))) := ⟨by (with_reducible repeat (first | refine blk_drewN ?_ _ | refine blk_drew ?_ | refine blk_alloc ?_ _)); refine blk_far ?_ NB473_491.out _; (with_reducible repeat (first | refine blk_drewN ?_ _ | refine blk_drew ?_ | refine blk_alloc ?_ _)); refine blk_far ?_ NB473_491.out _; (with_reducible repeat (first | refine blk_drewN ?_ _ | refine blk_drew ?_ | refine blk_alloc ?_ _)); refine blk_far ?_ NB473_491.out _; (with_reducible repeat (first | refine blk_drewN ?_ _ | refine blk_drew ?_ | refine blk_alloc ?_ _)); exact BK473.out⟩
 have n6_ : Aside0 ((((w6.setCell ⟨gb491, 0, none⟩ (.slice Ao7 t480.length co7)).setCell ⟨gb491, 1, none⟩ (.slice Ao11 t483.length co11)).setCell ⟨gb491, 2, none⟩ (.slice Ao12 t486.length co12)).heap[gb491]? = some (.cells #[.slice Ao7 t480.length co7, .slice Ao11 t483.length co11, .slice Ao12 t486.length co12] 33 (0, 0))) := ⟨by (with_reducible repeat (first | refine blk_drewN ?_ _ | refine blk_drew ?_ | refine blk_alloc ?_ _)); refine blk_put (cs := #[.slice Ao7 t480.length co7, .slice Ao11 t483.length co11, .slice none 0 0]) ?_ 2 _ rfl; (with_reducible repeat (first | refine blk_drewN ?_ _ | refine blk_drew ?_ | refine blk_alloc ?_ _)); refine blk_put (cs := #[.slice Ao7 t480.length co7, .slice none 0 0, .slice none 0 0]) ?_ 1 _ rfl; (with_reducible repeat (first | refine blk_drewN ?_ _ | refine blk_drew ?_ | refine blk_alloc ?_ _)); refine blk_put (cs := #[.slice none 0 0, .slice none 0 0, .slice none 0 0]) ?_ 0 _ rfl; (with_reducible repeat (first | refine blk_drewN ?_ _ | refine blk_drew ?_ | refine blk_alloc ?_ _)); exact BK491.out⟩
 have n7_ : Aside0 (IsS115 w0 (((w6.setCell ⟨gb491, 0, none⟩ (.slice Ao7 t480.length co7)).setCell ⟨gb491, 1, none⟩ (.slice Ao11 t483.length co11)).setCell ⟨gb491, 2, none⟩ (.slice Ao12 t486.length co12)) g s0_0 t489 t490) := ⟨z109_⟩
 have n8_ : Aside0 (KeepBut w (((w6.setCell ⟨gb491, 0, none⟩ (.slice Ao7 t480.length co7)).setCell ⟨gb491, 1, none⟩ (.slice Ao11 t483.length co11)).setCell ⟨gb491, 2, none⟩ (.slice Ao12 t486.length co12)) g none) := ⟨z96_⟩
 have n9_ : Aside0 (Below w0.heap.size w0 (((w6.setCell ⟨gb491, 0, none⟩ (.slice Ao7 t480.length co7)).setCell ⟨gb491, 1, none⟩ (.slice Ao11 t483.length co11)).setCell ⟨gb491, 2, none⟩ (.slice Ao12 t486.length co12))) := ⟨z110_⟩
 (try clear HO476)
 (try clear HO479)
 (try clear HO482)
 (try clear HO485)
 (try clear HO488)
 (try clear BK473)
 (try clear BK491)
 (try clear HI0)
 (try clear HK)
 (try clear HB)
 generalize (((w6.setCell ⟨gb491, 0, none⟩ (.slice Ao7 t480.length co7)).setCell ⟨gb491, 1, none⟩ (.slice Ao11 t483.length co11)).setCell ⟨gb491, 2, none⟩ (.slice Ao12 t486.length co12)) = w13 at n0_ n1_ n2_ n3_ n4_ n5_ n6_ n7_ n8_ n9_ ⊢
 have HO476 := n0_
 have HO479 := n1_
 have HO482 := n2_
 have HO485 := n3_
 have HO488 := n4_
 have BK473 := n5_
 have BK491 := n6_
 have HI0 := n7_
 have HK := n8_
 have HB := n9_
 clear n0_ n1_ n2_ n3_ n4_ n5_ n6_ n7_ n8_ n9_
 have n0_ := Aside0.mk (Kd.Q_drew HO476.out)
 have n1_ := Aside0.mk (Kd.R_drew HO479.out)
 have n2_ := Aside0.mk (Kd.R_drew HO482.out)
 have n3_ := Aside0.mk (Kd.Q_drew HO485.out)
 have n4_ := Aside0.mk (Kd.R_drew HO488.out)
 have n5_ := Aside0.mk (blk_drew BK473.out)
 have n6_ := Aside0.mk (blk_drew BK491.out)
 have n7_ := Aside0.mk (IsS115.drew HI0.out)
 have n8_ := Aside0.mk (keep_drew HK.out)
 have n9_ := Aside0.mk (below_drew1 HB.out)
 clear HO476
 clear HO479
 clear HO482
 clear HO485
 clear HO488
 clear BK473
 clear BK491
 clear HI0
 clear HK
 clear HB
 have HO476 := n0_
 have HO479 := n1_
 have HO482 := n2_
 have HO485 := n3_
 have HO488 := n4_
 have BK473 := n5_
 have BK491 := n6_
 have HI0 := n7_
 have HK := n8_
 have HB := n9_
 clear n0_ n1_ n2_ n3_ n4_ n5_ n6_ n7_ n8_ n9_
 obtain ⟨Ao15, co15, eo15, _⟩ := Kd.Q_slice HO476.out
 (first | subst eo15 | (injection eo15 with f1_ f2_ f3_; have f4_ := f1_.symm; have f5_ := f3_.symm; clear f1_ f2_ f3_; subst f4_; subst f5_))
 obtain ⟨Ao16, co16, eo16⟩ := Kd.R_slice HO479.out
 (first | subst eo16 | (injection eo16 with f1_ f2_ f3_; have f4_ := f1_.symm; have f5_ := f3_.symm; clear f1_ f2_ f3_; subst f4_; subst f5_))
 refine start_ (n := 11) (S := fun w' => w'.cell? ⟨gb491, 0, none⟩ = some (.slice Ao7 t480.length co7) ∧ w'.cell? ⟨gb491, 1, none⟩ = some (.slice Ao11 t483.length co11) ∧ w'.cell? ⟨gb491, 2, none⟩ = some (.slice Ao12 t486.length co12)) (ds := []) (fl_ 11 0) (by kernel_rfl) rfl (fl_zero _) ⟨(blk_cell BK491.out 0).trans rfl, (blk_cell BK491.out 1).trans rfl, (blk_cell BK491.out 2).trans rfl⟩ (fun hHeld => ?_); refine with_tabW spec_l10Draw.tab2 spec_l10Draw.bits2 (fun HT_ HW_ => ?_)
 generalize w13.drew = w14 at HO476 HO479 HO482 HO485 HO488 BK473 BK491 HI0 HK HB hHeld ⊢
 iterate 2 refine zp_ HT_ rfl rfl (by kernel_rfl) (fun _ _ _ h => h) (by rfl) ?_
 refine zpg_ (i := 3) (ra_ [2, 1, 1, 7]) HT_ rfl rfl (by kernel_rfl) (fun _ _ _ h => h) (by rfl) ?_
 refine zpg_ (i := 4) (ra_ [2, 1, 2, 6]) HT_ rfl rfl (by kernel_rfl) (fun _ _ _ h => h) (by rfl) ?_
 refine zpg_ (i := 5) (ra_ [2, 1, 3, 5]) HT_ rfl rfl (by kernel_rfl) (fun _ _ _ h => h) (by rfl) ?_
 refine ztg_ (i := 2) (fl_ 11 6) HT_ HW_ rfl rfl (by kernel_rfl) (fun _ _ _ h => h) (by rfl) hHeld ?_ z207_
 refine one_ (i := 6) (N := some 21) (fl_ 11 7) rfl rfl (one_of HT_.out (by kernel_rfl)) (by decide) (fun K hK => ?_)
 refine goes_ Try.func74 (by kernel_rfl) rfl #[.pointer (some ⟨g, 0, none⟩), .slice Ao15 t474.length co15, .slice Ao16 t477.length co16] (by rfl) rfl rfl z4_ ?_
 with_reducible refine (spec_l10Any.calls k g s0_0 t489 t490 _ _ t474 _ _ t477 t492 t495 t496 w0 _ ?side1 ?side2 ?side3 ?side4 ?side5 ?side6 A3.out).mono ?_
 (case side1 => exact z109_)
 (case side2 => exact z110_)
 (case side3 => exact Kd.C_foot_ownQ (IsS115.apartQ (show IsS115 w0 _ g s0_0 t489 t490 from by repeat (first | (with_reducible first | exact HI0.out | apply IsS115.alloc | apply IsS115.drewN | apply IsS115.drew | apply IsS115.set_1 | apply IsS115.set_2 | refine IsS115.far ?_ NB0_473.out _ | refine IsS115.far ?_ NB0_491.out _) | exact HI0.out)) z171_ (by decide)) (fun _ h_ => h_.2))
 (case side4 => exact (Kd.Q_reads' HO476.out).2.1)
 (case side5 => exact Kd.C_foot_own (IsS115.apart (show IsS115 w0 _ g s0_0 t489 t490 from by repeat (first | (with_reducible first | exact HI0.out | apply IsS115.alloc | apply IsS115.drewN | apply IsS115.drew | apply IsS115.set_1 | apply IsS115.set_2 | refine IsS115.far ?_ NB0_473.out _ | refine IsS115.far ?_ NB0_491.out _) | exact HI0.out)) z172_ (by decide)) (fun _ h_ => h_.2))
 (case side6 => exact (Kd.R_reads' HO479.out).2.1)
 rintro e w17 ⟨v493, rfl, ho0, hi, hb, hk⟩
 refine ⟨_, rfl, ?_⟩
 have n0_ := Aside0.mk (KeepBut.blk hk (g' := gb473) (o := .cells #[.slice none 0 0, .slice none 0 0, .slice none 0 0] 33 (0, 0)) z125_ NB473_0.out (by simp))
 have n1_ := Aside0.mk (Kd.Q_mono (Kd.Q_keep (IsS115.apartQ (show IsS115 w0 _ g s0_0 t489 t490 from by repeat (first | (with_reducible first | exact HI0.out | apply IsS115.alloc | apply IsS115.drewN | apply IsS115.drew | apply IsS115.set_1 | apply IsS115.set_2 | refine IsS115.far ?_ NB0_473.out _ | refine IsS115.far ?_ NB0_491.out _) | exact HI0.out)) z171_ (by decide)) hk (fun _ h => h.2)) (fun _ h => h.1))
 have n2_ := Aside0.mk (Kd.R_mono (Kd.R_keep (IsS115.apart (show IsS115 w0 _ g s0_0 t489 t490 from by repeat (first | (with_reducible first | exact HI0.out | apply IsS115.alloc | apply IsS115.drewN | apply IsS115.drew | apply IsS115.set_1 | apply IsS115.set_2 | refine IsS115.far ?_ NB0_473.out _ | refine IsS115.far ?_ NB0_491.out _) | exact HI0.out)) z172_ (by decide)) hk (fun _ h => h.2)) (fun _ h => h.1))
 have n3_ := Aside0.mk (Kd.R_mono (Kd.R_keep (IsS115.apart (show IsS115 w0 _ g s0_0 t489 t490 from by repeat (first | (with_reducible first | exact HI0.out | apply IsS115.alloc | apply IsS115.drewN | apply IsS115.drew | apply IsS115.set_1 | apply IsS115.set_2 | refine IsS115.far ?_ NB0_473.out _ | refine IsS115.far ?_ NB0_491.out _) | exact HI0.out)) z202_ (by decide)) hk (fun _ h => h.2)) (fun _ h => h.1))
 have n4_ := Aside0.mk (Kd.Q_mono (Kd.Q_keep (IsS115.apartQ (show IsS115 w0 _ g s0_0 t489 t490 from by repeat (first | (with_reducible first | exact HI0.out | apply IsS115.alloc | apply IsS115.drewN | apply IsS115.drew | apply IsS115.set_1 | apply IsS115.set_2 | refine IsS115.far ?_ NB0_473.out _ | refine IsS115.far ?_ NB0_491.out _) | exact HI0.out)) z203_ (by decide)) hk (fun _ h => h.2)) (fun _ h => h.1))
 have n5_ := Aside0.mk (Kd.R_mono (Kd.R_keep (IsS115.apart (show IsS115 w0 _ g s0_0 t489 t490 from by repeat (first | (with_reducible first | exact HI0.out | apply IsS115.alloc | apply IsS115.drewN | apply IsS115.drew | apply IsS115.set_1 | apply IsS115.set_2 | refine IsS115.far ?_ NB0_473.out _ | refine IsS115.far ?_ NB0_491.out _) | exact HI0.out)) z204_ (by decide)) hk (fun _ h => h.2)) (fun _ h => h.1))
 have n6_ := Aside0.mk (KeepBut.blk hk (g' := gb491) (o := .cells #[.slice Ao7 t480.length co7, .slice Ao11 t483.length co11, .slice Ao12 t486.length co12] 33 (0, 0)) (by (with_reducible repeat (first | refine blk_drewN ?_ _ | refine blk_drew ?_ | refine blk_alloc ?_ _)); exact BK491.out) NB491_0.out (by simp))
 have n7_ := Aside0.mk (Kd.Q_lower ho0 (keep_size (w := w) (g := g) (row := none) z96_))
 have n8_ := Aside0.mk (KeepBut.trans z96_ hk (.inl rfl))
 have n9_ := Aside0.mk (hb)
 have n10_ := Aside0.mk (hi)
 clear BK473
 clear HO476
 clear HO479
 clear HO482
 clear HO485
 clear HO488
 clear BK491
 clear HK
 clear HB
 clear HI0
 have BK473 := n0_
 have HO476 := n1_
 have HO479 := n2_
 have HO482 := n3_
 have HO485 := n4_
 have HO488 := n5_
 have BK491 := n6_
 have HO494 := n7_
 have HK := n8_
 have HB := n9_
 have HI0 := n10_
 clear n0_ n1_ n2_ n3_ n4_ n5_ n6_ n7_ n8_ n9_ n10_
 (try clear hb)
 (try clear hb2)
 (try clear hk)
 (try clear hi)
 (try clear ho0)
 refine hK.out _ _ ⟨(blk_cell BK491.out 0).trans rfl, (blk_cell BK491.out 1).trans rfl, (blk_cell BK491.out 2).trans rfl⟩ (fun hHeld => ?_)
 clear hK K
 refine zn_ rfl ?_
 iterate 2 refine zp_ HT_ rfl rfl (by kernel_rfl) (fun _ _ _ h => h) (by rfl) ?_
 refine one_ (i := 9) (N := none) (fl_ 11 10) rfl rfl (one_of HT_.out (by kernel_rfl)) (by decide) (fun K hK => ?_)
 have hs18 : w17.cell? ⟨gb473, 0, none⟩ = some (.slice none 0 0) := (blk_cell BK473.out 0).trans rfl
 have hfs18 := blk_frozen BK473.out 0
 have hns18_1 := NB491_473.out
 have hms18_1 := NB473_491.out
 have hs19 : w17.cell? ⟨gb473, 1, none⟩ = some (.slice none 0 0) := (blk_cell BK473.out 1).trans rfl
 have hfs19 := blk_frozen BK473.out 1
 have hns19_1 := NB491_473.out
 have hms19_1 := NB473_491.out
 have hs20 : w17.cell? ⟨gb473, 2, none⟩ = some (.slice none 0 0) := (blk_cell BK473.out 2).trans rfl
 have hfs20 := blk_frozen BK473.out 2
 have hns20_1 := NB491_473.out
 have hms20_1 := NB473_491.out
 refine skip_ (w1 := ?_) (by rfl) rfl ?_ ?_
 rotate_left
 ·go_simp
  rfl
 refine hK.out _ _ ⟨((cell_far (p := ⟨gb473, _, none⟩) NB491_473.out _).trans (((cell_far (p := ⟨gb473, _, none⟩) NB491_473.out _).trans (((cell_far (p := ⟨gb473, _, none⟩) NB491_473.out _).trans (hHeld.1)))))), ((cell_far (p := ⟨gb473, _, none⟩) NB491_473.out _).trans (((cell_far (p := ⟨gb473, _, none⟩) NB491_473.out _).trans (((cell_far (p := ⟨gb473, _, none⟩) NB491_473.out _).trans (hHeld.2.1)))))), ((cell_far (p := ⟨gb473, _, none⟩) NB491_473.out _).trans (((cell_far (p := ⟨gb473, _, none⟩) NB491_473.out _).trans (((cell_far (p := ⟨gb473, _, none⟩) NB491_473.out _).trans (hHeld.2.2))))))⟩ (fun hHeld => ?_)
 clear hK K
 refine zp_ HT_ rfl rfl (by kernel_rfl) (fun _ _ _ h => h) (by rfl) ?_
 refine done_ (done_of HT_.out (by kernel_rfl)) ?_
 try go_wp2
 refine bodyPost_ret (results_list (rs := [.tmp 2, .tmp 3, .cell 4 33, .tmp 5]) rfl (by simp) (.tmp (.tmp (.cell gb473 33 #[.slice Ao7 t480.length co7, .slice Ao11 t483.length co11, .slice Ao12 t486.length co12] (0, 0) _ rfl (by (with_reducible repeat (first | refine blk_drewN ?_ _ | refine blk_drew ?_ | refine blk_alloc ?_ _)); refine blk_put (cs := #[.slice Ao7 t480.length co7, .slice Ao11 t483.length co11, .slice none 0 0]) ?_ 2 _ rfl; (with_reducible repeat (first | refine blk_drewN ?_ _ | refine blk_drew ?_ | refine blk_alloc ?_ _)); refine blk_put (cs := #[.slice Ao7 t480.length co7, .slice none 0 0, .slice none 0 0]) ?_ 1 _ rfl; (with_reducible repeat (first | refine blk_drewN ?_ _ | refine blk_drew ?_ | refine blk_alloc ?_ _)); refine blk_put (cs := #[.slice none 0 0, .slice none 0 0, .slice none 0 0]) ?_ 0 _ rfl; (with_reducible repeat (first | refine blk_drewN ?_ _ | refine blk_drew ?_ | refine blk_alloc ?_ _)); exact BK473.out) Try.underlying33 rfl (by kernel_rfl) (.tmp .nil))))) rfl ?_
 exact ⟨_, _, _, _, _, _, z7_, by (with_reducible repeat (first | apply Kd.Q_alloc | apply Kd.Q_drewN | apply Kd.Q_drew)); exact Kd.Q_mono (Kd.Q_far (p := ⟨gb473, 2, none⟩) (Kd.Q_far (p := ⟨gb473, 1, none⟩) (Kd.Q_far (p := ⟨gb473, 0, none⟩) (Kd.Q_types HO476.out BK473.out (by decide)) (fun _ hk => hk.2) (.slice Ao7 t480.length co7)) (fun _ hk => hk.2) (.slice Ao11 t483.length co11)) (fun _ hk => hk.2) (.slice Ao12 t486.length co12)) (fun _ hk => hk.1), by (with_reducible repeat (first | apply Kd.R_alloc | apply Kd.R_drewN | apply Kd.R_drew)); exact Kd.R_mono (Kd.R_far (p := ⟨gb473, 2, none⟩) (Kd.R_far (p := ⟨gb473, 1, none⟩) (Kd.R_far (p := ⟨gb473, 0, none⟩) (Kd.R_types HO479.out BK473.out (by decide)) (fun _ hk => hk.2) (.slice Ao7 t480.length co7)) (fun _ hk => hk.2) (.slice Ao11 t483.length co11)) (fun _ hk => hk.2) (.slice Ao12 t486.length co12)) (fun _ hk => hk.1), by (with_reducible repeat (first | apply Kd.R_alloc | apply Kd.R_drewN | apply Kd.R_drew)); exact Kd.R_mono (Kd.R_far (p := ⟨gb473, 2, none⟩) (Kd.R_far (p := ⟨gb473, 1, none⟩) (Kd.R_far (p := ⟨gb473, 0, none⟩) (Kd.R_types HO482.out BK473.out (by decide)) (fun _ hk => hk.2) (.slice Ao7 t480.length co7)) (fun _ hk => hk.2) (.slice Ao11 t483.length co11)) (fun _ hk => hk.2) (.slice Ao12 t486.length co12)) (fun _ hk => ⟨hk.1.1, hk.1.2⟩), by (with_reducible repeat (first | apply Kd.Q_alloc | apply Kd.Q_drewN | apply Kd.Q_drew)); exact Kd.Q_mono (Kd.Q_far (p := ⟨gb473, 2, none⟩) (Kd.Q_far (p := ⟨gb473, 1, none⟩) (Kd.Q_far (p := ⟨gb473, 0, none⟩) (Kd.Q_types HO485.out BK473.out (by decide)) (fun _ hk => hk.2) (.slice Ao7 t480.length co7)) (fun _ hk => hk.2) (.slice Ao11 t483.length co11)) (fun _ hk => hk.2) (.slice Ao12 t486.length co12)) (fun _ hk => ⟨hk.1.1, hk.1.2⟩), by (with_reducible repeat (first | apply Kd.R_alloc | apply Kd.R_drewN | apply Kd.R_drew)); exact Kd.R_mono (Kd.R_far (p := ⟨gb473, 2, none⟩) (Kd.R_far (p := ⟨gb473, 1, none⟩) (Kd.R_far (p := ⟨gb473, 0, none⟩) (Kd.R_types HO488.out BK473.out (by decide)) (fun _ hk => hk.2) (.slice Ao7 t480.length co7)) (fun _ hk => hk.2) (.slice Ao11 t483.length co11)) (fun _ hk => hk.2) (.slice Ao12 t486.length co12)) (fun _ hk => ⟨hk.1.1, hk.1.2⟩), by (with_reducible repeat (first | apply Kd.Q_alloc | apply Kd.Q_drewN | apply Kd.Q_drew)); exact Kd.Q_mono (Kd.Q_far (p := ⟨gb473, 2, none⟩) (Kd.Q_far (p := ⟨gb473, 1, none⟩) (Kd.Q_far (p := ⟨gb473, 0, none⟩) (Kd.Q_types HO494.out BK473.out (by decide)) (fun _ hk => hk.2) (.slice Ao7 t480.length co7)) (fun _ hk => hk.2) (.slice Ao11 t483.length co11)) (fun _ hk => hk.2) (.slice Ao12 t486.length co12)) (fun _ hk => trivial), z109_, z110_, z96_⟩

/-! ### spec_l1New: function 38 -/
def spec_l1New.l0 : Nat → List Int → Int → Int → Option (List Int × Int × Int)
 | 0, _, _, _ => none
 | k + 1, x0, x3, x4 => if x4 < (x0.length : Int) then (if x4 < 4000 then (if 0 ≤ x4 then (spec_l1New.l0 k x0 (Go.bits .and .i64 (wrap64 ((wrap64 ((wrap64 (x3 * 131)) + (wrap64 (rd x0 x4)))) + 7)) 1073741823) (wrap64 (x4 + 1))) else (none)) else (some (x0, 0, x3))) else (some (x0, 0, x3))
def spec_l1New.f (k : Nat) (l0 : List Int) : Option (List Int × Int × Int) := spec_l1New.l0 k l0 (wrap64 (10101 + (l0.length : Int))) 0
set_option maxHeartbeats 8000000 in
set_option maxRecDepth 100000 in
theorem spec_l1New.calls (k : Nat) (A0 : Option Addr) (c0 : Nat) (l0 : List Int) (r1 : List Int) (r2 : Int) (r3 : Int) (w0 w : World) (hB : Below w0.heap.size w0 w) (hr0 : Kd.C (Kd.int .u8) w0 A0 l0.length l0) (hc0 : l0.length ≤ c0) (h : spec_l1New.f k l0 = some (r1, r2, r3)) :
  Calls Try.prog 38 #[.slice A0 l0.length c0] w fun e w' => ∃ g_ : Nat, e = .returned (.pointer (some ⟨g_, 0, none⟩)) ∧ IsS115 w0 w' g_ r1 r2 r3 ∧ Below w0.heap.size w0 w' ∧ Below w.heap.size w w' := by
 have hu115 := Try.underlying115
 have HR0 := Aside0.mk hr0
 have HC0 := Aside0.mk hc0
 clear hr0 hc0
 have HBW := Aside0.mk (Below.refl w.heap.size w)
 have HW0 := Aside0.mk hB.size
 have HB := Aside0.mk hB
 clear hB
 have H : (spec_l1New.l0 k l0 (wrap64 (10101 + (l0.length : Int))) 0) = some (r1, r2, r3) := h
 clear h
 have H' := Aside0.mk H
 clear H
 go_enter Try.func38, Try.ntmps38
 go_wp2
 go_loopg [3, 4] k (fun kq v3 v4 w' => ∃ (x3_1 : Int) (x4_1 : Int), v3 = .int .i64 x3_1 ∧ v4 = .int .i64 x4_1 ∧ Aside0 (spec_l1New.l0 kq l0 x3_1 x4_1 = some (r1, r2, r3)) ∧ Aside0 (kq ≤ k) ∧ Aside0 (Below w0.heap.size w0 w') ∧ Aside0 (Below w.heap.size w w'))
 case atStart => exact ⟨(wrap64 (10101 + (l0.length : Int))), (0), z9_, z9_, H', ⟨Nat.le_refl _⟩, ⟨z0_⟩, ⟨z104_⟩⟩
 case round =>
  clear H'
  obtain ⟨x3_1, x4_1, rfl, rfl, HA, HK1, HB, HBW2⟩ := hrel
  clear HBW
  have HBW := HBW2
  clear HBW2
  cases gk with
  | zero => exact absurd HA.out (by simp [spec_l1New.l0])
  | succ k1 =>
   have H := HA.out
   clear HA
   simp only [spec_l1New.l0] at H
   by_cases c2 : x4_1 < (l0.length : Int)
   ·rw [if_pos c2] at H
    have c2b0 := decide_eq_true c2
    clear c2
    by_cases c3 : x4_1 < 4000
    ·rw [if_pos c3] at H
     have c3b0 := decide_eq_true c3
     clear c3
     obtain ⟨c4b0, H⟩ := ifd_ H
     have H' := Aside0.mk H
     clear H
     have p497 : 0 ≤ (x4_1 : Int) := odt_
     have q497 : x4_1 < (l0.length : Int) := odt_
     obtain ⟨ad497, e497, hx497_0⟩ := Kd.at_int HR0.out x4_1 p497 q497
     cases e497
     replace hx497_0 := pw_cell_below HB.out hx497_0
     replace p497 := eq_true p497
     replace q497 := eq_true q497
     go_wp2
     go_roundg k1
     case measure => have := HK1.out; omega
     case rel => exact ⟨(Go.bits .and .i64 (wrap64 ((wrap64 ((wrap64 (x3_1 * 131)) + (wrap64 (rd l0 x4_1)))) + 7)) 1073741823), (wrap64 (x4_1 + 1)), z9_, z9_, H', ⟨z140_⟩, ⟨z0_⟩, ⟨z104_⟩⟩
    ·rw [if_neg c3] at H
     have c3b0 := decide_eq_false c3
     clear c3
     simp only [Option.some.injEq, Prod.mk.injEq] at H
     obtain ⟨rfl, rfl, rfl⟩ := H
     go_wp2_with (first | ((with_reducible refine gate_dst (N := 31) rfl ?_); refine box_event ?hg (N := 31) ?hd (cs := #[.slice A0 l0.length c0, .int .i64 0, .int .i64 x3_1]) (t := 115) ?hr ?_; (case hd => rfl); (case hg => rfl); (case hr => exact z26_); intro gb498 hg w5 hbox hb; replace HB := Aside0.mk (below_step z0_ hb); have BK498 := Aside0.mk (hbox); have GW498 := Aside0.mk ((by rw [hg]; exact (below_size z104_) : w.heap.size ≤ gb498)); have GE498 := Aside0.mk ((Nat.le_trans HW0.out (by rw [hg]; exact (below_size z104_) : w.heap.size ≤ gb498) : w0.heap.size ≤ gb498)); replace HBW := Aside0.mk (below_step HBW.out hb); clear hb hbox hg))
     go_ret
     exact ⟨_, rfl, (show IsS115 w0 _ gb498 l0 0 x3_1 from ⟨_, _, by (with_reducible repeat (first | refine blk_drewN ?_ _ | refine blk_drew ?_ | refine blk_alloc ?_ _)); exact BK498.out, GE498.out, HR0.out⟩), by repeat (first | (with_reducible first | exact HB.out | apply below_alloc | apply pw_below_drewN | apply below_drew1 | refine below_set ?_ GE498.out) | exact HB.out), by repeat (first | (with_reducible first | exact HBW.out | apply below_alloc | apply pw_below_drewN | apply below_drew1 | refine below_set ?_ GW498.out) | exact HBW.out)⟩
   ·rw [if_neg c2] at H
    have c2b0 := decide_eq_false c2
    clear c2
    simp only [Option.some.injEq, Prod.mk.injEq] at H
    obtain ⟨rfl, rfl, rfl⟩ := H
    go_wp2_with (first | ((with_reducible refine gate_dst (N := 31) rfl ?_); refine box_event ?hg (N := 31) ?hd (cs := #[.slice A0 l0.length c0, .int .i64 0, .int .i64 x3_1]) (t := 115) ?hr ?_; (case hd => rfl); (case hg => rfl); (case hr => exact z26_); intro gb499 hg w6 hbox hb; replace HB := Aside0.mk (below_step z0_ hb); have BK499 := Aside0.mk (hbox); have GW499 := Aside0.mk ((by rw [hg]; exact (below_size z104_) : w.heap.size ≤ gb499)); have GE499 := Aside0.mk ((Nat.le_trans HW0.out (by rw [hg]; exact (below_size z104_) : w.heap.size ≤ gb499) : w0.heap.size ≤ gb499)); replace HBW := Aside0.mk (below_step HBW.out hb); clear hb hbox hg))
    go_ret
    exact ⟨_, rfl, (show IsS115 w0 _ gb499 l0 0 x3_1 from ⟨_, _, by (with_reducible repeat (first | refine blk_drewN ?_ _ | refine blk_drew ?_ | refine blk_alloc ?_ _)); exact BK499.out, GE499.out, HR0.out⟩), by repeat (first | (with_reducible first | exact HB.out | apply below_alloc | apply pw_below_drewN | apply below_drew1 | refine below_set ?_ GE499.out) | exact HB.out), by repeat (first | (with_reducible first | exact HBW.out | apply below_alloc | apply pw_below_drewN | apply below_drew1 | refine below_set ?_ GW499.out) | exact HBW.out)⟩

end Go.Proofs.Ytbiffnahknkoiaa.PFnKept
