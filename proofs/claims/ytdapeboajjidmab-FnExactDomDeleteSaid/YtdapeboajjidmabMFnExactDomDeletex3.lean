/- Laid by a program of this session out of the kit's print for the law FnExactDomDelete: what it says of the machine is proved here, function by function; each contract under the conditions that it names. -/
import Derived.Test.YtdapeboajjidmabMFnExactDomDeletex0
import Derived.Test.YtdapeboajjidmabMFnExactDomDeletex2
namespace Go.Proofs.Ytdapeboajjidmab.PFnExactDomDelete
open Go.RowKit Go.Proofs.YtdapeboajjidmabW.PrintWords Go.Proofs.YtdapeboajjidmabW.PrintLast Go.Proofs.YtdapeboajjidmabW.PrintMore
attribute [local go_sem] max2_int min2_int max_two min_two max_three min_three max_four min_four   -- for this text's walks alone
set_option linter.unusedVariables false
set_option linter.unusedSimpArgs false

/-! ### spec_l16Walk: function 61 -/
mutual
def spec_l16Walk.j0 : Nat → Int → Int → List Int → List Int → Bool → List (S72) → Option (List Int × List Int)
 | 0, _, _, _, _, _, _ => none
 | k + 1, x1, x2, x3, x4, x28, x114000 => if x28 = true then (if 25 ≤ 35184372088832 then (some ((List.replicate 25 0), (List.replicate 25 0))) else (none)) else (if x3.length < 17592186044416 then (if x4.length < 17592186044416 then (if 0 ≤ x1 then (if x1 < (x114000.length : Int) then (spec_l16Walk.l0 k x2 (x3 ++ [x1]) (x4 ++ [x2]) ((rd_T72 x114000 x1).f3) x114000) else (none)) else (none)) else (none)) else (none))
def spec_l16Walk.l0 : Nat → Int → List Int → List Int → Int → List (S72) → Option (List Int × List Int)
 | 0, _, _, _, _, _ => none
 | k + 1, x2, x3, x4, x12, x114000 => if x12 = (-1) then (spec_l16Walk.j2 k x2 x3 x4 x12 false x114000) else (spec_l16Walk.j2 k x2 x3 x4 x12 (decide ((x3.length : Int) ≤ 24)) x114000)
def spec_l16Walk.j2 : Nat → Int → List Int → List Int → Int → Bool → List (S72) → Option (List Int × List Int)
 | 0, _, _, _, _, _, _ => none
 | k + 1, x2, x3, x4, x12, x51, x114000 => if x51 = true then ((spec_l1In.f x12 0 (wrap64 ((x114000.length : Int) - 1))).bind fun t128 => (if t128 = true then ((spec_l16Walk.f k x114000 x12 (wrap64 (x2 + 1)) x3 x4).bind fun bt129 => (if 0 ≤ x12 then (if x12 < (x114000.length : Int) then (spec_l16Walk.l0 k x2 bt129.1 bt129.2 ((rd_T72 x114000 x12).f6) x114000) else (none)) else (none))) else (if 25 ≤ 35184372088832 then (some ((List.replicate 25 0), (List.replicate 25 0))) else (none)))) else (some (x3, x4))
def spec_l16Walk.f : Nat → List (S72) → Int → Int → List Int → List Int → Option (List Int × List Int)
 | 0, _, _, _, _, _ => none
 | k + 1, l0_0, a1, a2, l3, l4 => if (l3.length : Int) > 24 then (spec_l16Walk.j0 k a1 a2 l3 l4 true l0_0) else (if a2 > 12 then (spec_l16Walk.j0 k a1 a2 l3 l4 true l0_0) else ((spec_l1In.f a1 0 (wrap64 ((l0_0.length : Int) - 1))).bind fun t114 => (spec_l16Walk.j0 k a1 a2 l3 l4 (!t114) l0_0)))
end
set_option maxHeartbeats 8000000 in
set_option maxRecDepth 100000 in
theorem spec_l16Walk.calls (k : Nat) : ∀ (A0_0 : Option Addr) (c0_0 : Nat) (l0_0 : List (S72)) (a1 : Int) (a2 : Int) (P3_ : Nat → Prop) (u9000_ : Value) (l3 : List Int) (P4_ : Nat → Prop) (u9001_ : Value) (l4 : List Int) (r1 : List Int) (r2 : List Int) (w0 w : World) (hB : Below w0.heap.size w0 w) (hr0_0 : ∀ W_, Kept w W_ (fun k_ => P3_ k_ ∨ P4_ k_) → Kd.C k72 W_ A0_0 l0_0.length l0_0) (hc0_0 : l0_0.length ≤ c0_0) (ho3 : Kd.R (Kd.int .i64) 3 w w0.heap.size P3_ u9000_ l3) (hp3_4 : ∀ k_, P3_ k_ → ¬ P4_ k_) (ho4 : Kd.R (Kd.int .i64) 3 w w0.heap.size P4_ u9001_ l4) (hp4_3 : ∀ k_, P4_ k_ → ¬ P3_ k_) (h : spec_l16Walk.f k l0_0 a1 a2 l3 l4 = some (r1, r2)),
  Calls Try.prog 61 #[.agg #[.slice A0_0 l0_0.length c0_0], .int .i64 a1, .int .i64 a2, u9000_, u9001_] w fun e w' => ∃ v0_ v1_ : Value, e = .returned (.tuple #[v0_, v1_]) ∧ Kd.R (Kd.int .i64) 3 w' w0.heap.size (fun k_ => ((P3_ k_ ∨ P4_ k_) ∨ w.heap.size ≤ k_) ∧ some k_ ≠ (v1_ : Value).ownBlock) v0_ r1 ∧ Kd.R (Kd.int .i64) 3 w' w0.heap.size (fun k_ => ((P3_ k_ ∨ P4_ k_) ∨ w.heap.size ≤ k_) ∧ some k_ ≠ (v0_ : Value).ownBlock) v1_ r2 ∧ Below w0.heap.size w0 w' ∧ Kept w w' (fun k_ => P3_ k_ ∨ P4_ k_) := by
 induction k using Nat.strongRecOn with
 | _ k ih =>
 intro A0_0 c0_0 l0_0 a1 a2 P3_ u9000_ l3 P4_ u9001_ l4 r1 r2 w0 w hB hr0_0 hc0_0 ho3 hp3_4 ho4 hp4_3 h
 cases k with
 | zero => exact absurd h (by simp [spec_l16Walk.f])
 | succ k =>
 simp only [spec_l16Walk.f] at h
 have hu28 := Try.underlying28
 have HR0_0 := Aside0.mk hr0_0
 have HC0_0 := Aside0.mk hc0_0
 clear hr0_0 hc0_0
 have HO3 := Aside0.mk (show Kd.R (Kd.int .i64) 3 w w0.heap.size (fun k_ => ((P3_ k_ ∨ P4_ k_) ∨ w.heap.size ≤ k_) ∧ some k_ ≠ (u9001_ : Value).ownBlock) u9000_ l3 from Kd.R_mono ho3 (fun k_ hk => ⟨(.inl (.inl hk)), fun e_ => hp3_4 k_ hk (ho4.1 k_ e_.symm)⟩))
 have HO4 := Aside0.mk (show Kd.R (Kd.int .i64) 3 w w0.heap.size (fun k_ => ((P3_ k_ ∨ P4_ k_) ∨ w.heap.size ≤ k_) ∧ some k_ ≠ (u9000_ : Value).ownBlock) u9001_ l4 from Kd.R_mono ho4 (fun k_ hk => ⟨(.inl (.inr hk)), fun e_ => hp4_3 k_ hk (ho3.1 k_ e_.symm)⟩))
 have HK := Aside0.mk (Kept.refl w (fun k_ => P3_ k_ ∨ P4_ k_))
 have HW0 := Aside0.mk hB.size
 have HB := Aside0.mk hB
 clear hB
 have H : (if (l3.length : Int) > 24 then (spec_l16Walk.j0 k a1 a2 l3 l4 true l0_0) else (if a2 > 12 then (spec_l16Walk.j0 k a1 a2 l3 l4 true l0_0) else ((spec_l1In.f a1 0 (wrap64 ((l0_0.length : Int) - 1))).bind fun t114 => (spec_l16Walk.j0 k a1 a2 l3 l4 (!t114) l0_0)))) = some (r1, r2) := h
 clear h
 have HC6 := Aside0.mk H
 clear H
 go_enter Try.func61, Try.ntmps61
 go_upto_region 1 with (first | ((with_reducible refine gate_dst (N := 5) rfl ?_); (try (refine gate_guard (by rfl) ?_; dsimp only)); refine box_event ?hg (N := 5) ?hd (cs := #[.slice A0_0 l0_0.length c0_0]) (t := 28) ?hr ?_; (case hd => rfl); (case hg => rfl); (case hr => exact z25_); intro gb113 hg w7 hbox hb; replace HO3 := Aside0.mk (Kd.R_below z77_ hb); replace HO4 := Aside0.mk (Kd.R_below z78_ hb); have BK113 := Aside0.mk (hbox); have GW113 := Aside0.mk ((by rw [hg]; exact z92_ : w.heap.size ≤ gb113)); replace HK := Aside0.mk (Kept.below (S := (fun k_ => P3_ k_ ∨ P4_ k_)) z49_ hb); have GE113 := Aside0.mk ((by rw [hg]; exact (below_size z0_) : w0.heap.size ≤ gb113)); replace HB := Aside0.mk (below_step z0_ hb); clear hb hbox hg))
 (try simp only [Act.put, List.setIfInBounds_toArray, List.set_cons_zero, List.set_cons_succ])
 go_cut [28] (fun v28 wc => ∃ (kq : Nat) (x28_5 : Bool), v28 = .bool x28_5 ∧ Aside0 (spec_l16Walk.j0 kq a1 a2 l3 l4 x28_5 l0_0 = some (r1, r2)) ∧ Aside0 (kq ≤ k) ∧ Aside0 (Kd.R (Kd.int .i64) 3 wc w0.heap.size (fun k_ => ((P3_ k_ ∨ P4_ k_) ∨ w.heap.size ≤ k_) ∧ some k_ ≠ (u9001_ : Value).ownBlock) u9000_ l3) ∧ Aside0 (Kd.R (Kd.int .i64) 3 wc w0.heap.size (fun k_ => ((P3_ k_ ∨ P4_ k_) ∨ w.heap.size ≤ k_) ∧ some k_ ≠ (u9000_ : Value).ownBlock) u9001_ l4) ∧ Aside0 (wc.heap[gb113]? = some (.cells #[(.slice A0_0 l0_0.length c0_0)] 28 (0, 0))) ∧ Aside0 (Kept w wc (fun k_ => P3_ k_ ∨ P4_ k_)) ∧ Aside0 (Below w0.heap.size w0 wc))
 case first =>
  have H := HC6.out
  clear HC6
  by_cases c8 : (l3.length : Int) > 24
  ·rw [if_pos c8] at H
   have c8b0 : decide (24 < (l3.length : Int)) = true := decide_eq_true c8
   have c8b1 : decide (24 < l3.length) = true := decide_eq_true (by omega)
   clear c8
   (first | rw [c8b0] | rw [c8b1] | (simp only [i64_w, i32_w]; rw [c8b0]) | skip)
   have H' := Aside0.mk H
   clear H
   obtain ⟨Ao9, co9, eo9⟩ := Kd.R_slice HO3.out
   subst eo9
   go_wp2
   go_meet
   case rel => exact ⟨_, (true), z12_, H', ⟨z103_⟩, ⟨z77_⟩, ⟨z78_⟩, ⟨z37_⟩, ⟨z14_⟩, ⟨z8_⟩⟩
  ·rw [if_neg c8] at H
   have c8b0 : decide (24 < (l3.length : Int)) = false := decide_eq_false c8
   have c8b1 : decide (24 < l3.length) = false := decide_eq_false (by omega)
   clear c8
   (first | rw [c8b0] | rw [c8b1] | (simp only [i64_w, i32_w]; rw [c8b0]) | skip)
   by_cases c10 : a2 > 12
   ·rw [if_pos c10] at H
    have c10b0 : decide (12 < a2) = true := decide_eq_true c10
    clear c10
    have H' := Aside0.mk H
    clear H
    obtain ⟨Ao11, co11, eo11⟩ := Kd.R_slice HO3.out
    subst eo11
    go_wp2
    go_meet
    case rel => exact ⟨_, (true), z12_, H', ⟨z103_⟩, ⟨z77_⟩, ⟨z78_⟩, ⟨z37_⟩, ⟨z14_⟩, ⟨z8_⟩⟩
   ·rw [if_neg c10] at H
    have c10b0 : decide (12 < a2) = false := decide_eq_false c10
    clear c10
    obtain ⟨t114, A12, H⟩ := bnd_ H
    have H' := Aside0.mk H
    clear H
    obtain ⟨Ao13, co13, eo13⟩ := Kd.R_slice HO3.out
    subst eo13
    have hcz14_0 : w7.cell? ⟨gb113, 0, none⟩ = some (.slice A0_0 l0_0.length c0_0) := (blk_cell BK113.out 0).trans rfl
    have hfz14_0 := blk_frozen BK113.out 0
    go_wp2_with (first | (go_at_call 58; (with_reducible refine (spec_l1In.calls a1 0 (wrap64 ((l0_0.length : Int) - 1)) t114 _ A12.out).mono ?_); rintro e w' ⟨rfl, ⟨nd, rfl⟩⟩))
    go_meet
    case rel => exact ⟨_, (!t114), z12_, H', ⟨z103_⟩, ⟨z77_⟩, ⟨z78_⟩, ⟨z37_⟩, ⟨z14_⟩, ⟨z8_⟩⟩
 case rest =>
  clear HC6
  try clear c1
  try clear p2
  try clear p3
  try clear p4
  try clear c6
  try clear p6
  try clear c8
  try clear c8b0
  try clear c8b1
  try clear c10
  try clear c10b0
  try clear hcz14_0
  try clear hfz14_0
  obtain ⟨kq, x28_5, rfl, HA, HJ5, HO_3, HO_4, BK113, HK, HB⟩ := hcut
  cases kq with
  | zero => exact absurd HA.out (by simp [spec_l16Walk.j0])
  | succ kj5 =>
   have H := HA.out
   clear HA
   simp only [spec_l16Walk.j0] at H
   by_cases c15 : x28_5 = true
   ·subst c15
    replace H := ift_ H
    obtain ⟨c16b0, c16b1, H⟩ := ife_ H
    obtain ⟨y115, hy115⟩ : ∃ y_ : List Int, y_ = (List.replicate 25 0) := ⟨_, rfl⟩
    replace H : (some (y115, (List.replicate 25 0))) = some (r1, r2) := by first | (rw [hy115]; with_reducible exact H) | (have H2_ := (Option.bind_some _ _).symm.trans H; rw [hy115]; with_reducible exact H2_) | (have H2_ := (Option.bind_some _ _).symm.trans H; with_reducible exact H2_) | with_reducible exact H | (rw [hy115]; exact H) | exact H
    have Ny115 := Aside0.mk hy115
    clear hy115
    obtain ⟨y118, hy118⟩ : ∃ y_ : List Int, y_ = (List.replicate 25 0) := ⟨_, rfl⟩
    replace H : (some (y115, y118)) = some (r1, r2) := by first | (rw [hy118]; with_reducible exact H) | (have H2_ := (Option.bind_some _ _).symm.trans H; rw [hy118]; with_reducible exact H2_) | (have H2_ := (Option.bind_some _ _).symm.trans H; with_reducible exact H2_) | with_reducible exact H | (rw [hy118]; exact H) | exact H
    have Ny118 := Aside0.mk hy118
    clear hy118
    simp only [Option.some.injEq, Prod.mk.injEq] at H
    obtain ⟨rfl, rfl⟩ := H
    try go_wp2
    have n0_ := Aside0.mk (Kd.R_drew HO_3.out)
    have n1_ := Aside0.mk (Kd.R_drew HO_4.out)
    have n2_ := Aside0.mk (blk_drew BK113.out)
    have n3_ := Aside0.mk (Kept.drew HK.out)
    have n4_ := Aside0.mk (below_drew1 HB.out)
    clear HO_3
    clear HO_4
    clear BK113
    clear HK
    clear HB
    have HO_3 := n0_
    have HO_4 := n1_
    have BK113 := n2_
    have HK := n3_
    have HB := n4_
    clear n0_ n1_ n2_ n3_ n4_
    refine start_ (n := 4) (S := fun w' => True) (ds := []) (fl_ 4 0) (by kernel_rfl) rfl (fl_zero _) trivial (fun hHeld => ?_)
    generalize wc.drew = w17 at HO_3 HO_4 BK113 HK HB hHeld ⊢
    refine join_ (σ := Value × Value) 1 #[true, true, true, false] (fun s_ => [(29, s_.1), (30, s_.2), (10, s_.1)]) (fun s_ w' => (Kd.R (Kd.int .i64) 3 w' w0.heap.size (fun k_ => ((P3_ k_ ∨ P4_ k_) ∨ w.heap.size ≤ k_) ∧ some k_ ≠ (s_.2 : Value).ownBlock ∧ some k_ ≠ (u9000_ : Value).ownBlock ∧ some k_ ≠ (u9001_ : Value).ownBlock) s_.1 y115) ∧ (Kd.R (Kd.int .i64) 3 w' w0.heap.size (fun k_ => ((P3_ k_ ∨ P4_ k_) ∨ w.heap.size ≤ k_) ∧ some k_ ≠ (s_.1 : Value).ownBlock ∧ some k_ ≠ (u9000_ : Value).ownBlock ∧ some k_ ≠ (u9001_ : Value).ownBlock) s_.2 y118) ∧ (Kd.R (Kd.int .i64) 3 w' w0.heap.size (fun k_ => ((P3_ k_ ∨ P4_ k_) ∨ w.heap.size ≤ k_) ∧ some k_ ≠ (s_.1 : Value).ownBlock ∧ some k_ ≠ (s_.2 : Value).ownBlock ∧ some k_ ≠ (u9001_ : Value).ownBlock) u9000_ l3) ∧ (Kd.R (Kd.int .i64) 3 w' w0.heap.size (fun k_ => ((P3_ k_ ∨ P4_ k_) ∨ w.heap.size ≤ k_) ∧ some k_ ≠ (s_.1 : Value).ownBlock ∧ some k_ ≠ (s_.2 : Value).ownBlock ∧ some k_ ≠ (u9000_ : Value).ownBlock) u9001_ l4) ∧ (w'.heap[gb113]? = some (.cells #[.slice A0_0 l0_0.length c0_0] 28 (0, 0))) ∧ (Kept w w' (fun k_ => P3_ k_ ∨ P4_ k_)) ∧ (Below w0.heap.size w0 w')) ?_ ?_
    rotate_left
    ·intro hCont
     refine two_ (i := 0) (j := 1) (Ni := some 29) (Nj := some 30) #[true, false, false, false] #[false, true, false, false] rfl rfl rfl rfl (by kernel_rfl) (by decide) (by decide) (fun K hK => ?_) (fun K hK => ?_)
     ·skip
      refine Kd.R_make_step (Kd.int .i64) _ 3 (by rfl) (N := 29) rfl 49 _ _ rfl 25 rfl rfl Try.underlying49 (.int .i64 0) 8 info3 rfl (by decide) (by omega) 0 (ok := fun _ => True) (okp := fun _ => True) rfl (fun _ hk => hk) trivial (by omega) (by omega) (Below.refl _ _) (Nat.le_refl _) ?_
      intro v116 w18 ho19 hb hg_ hnew_
      clear hg_ hnew_
      (first | rw [← Ny115.out] at ho19 | (simp only [Int.reduceToNat] at ho19; rw [← Ny115.out] at ho19))
      have n0_ := Aside0.mk (Kd.R_elder' z19_ (Kd.R_base ho19) hb)
      have n1_ := Aside0.mk (Kd.R_elder' z21_ (Kd.R_base ho19) hb)
      have n2_ := Aside0.mk (Kd.R_lower (Kd.R_new' (Kd.R_new' (Kd.R_newM (M := fun k_ => ((P3_ k_ ∨ P4_ k_) ∨ w.heap.size ≤ k_)) ho19 z33_ (fun k_ h_ => .inr h_)) (Kd.R_lt z19_)) (Kd.R_lt z21_)) (below_size z8_))
      have n3_ := Aside0.mk (blk_below (g := gb113) (o := .cells #[.slice A0_0 l0_0.length c0_0] 28 (0, 0)) z37_ hb)
      have n4_ := Aside0.mk (Kept.below (S := (fun k_ => P3_ k_ ∨ P4_ k_)) z14_ hb)
      have n5_ := Aside0.mk (below_step z8_ hb)
      clear HO_3
      clear HO_4
      clear BK113
      clear HK
      clear HB
      have HO_3 := n0_
      have HO_4 := n1_
      have HO117 := n2_
      have BK113 := n3_
      have HK := n4_
      have HB := n5_
      clear n0_ n1_ n2_ n3_ n4_ n5_
      clear hb ho19
      refine hK.out _ _ trivial (fun hHeld => ?_)
      clear hK K
      refine zn_ rfl ?_
      refine pure_ (i := 2) (N := some 10) (v := ?_) (a' := ?_) #[true, false, true, false] rfl rfl (by kernel_rfl) (fun _ _ _ h => h) (Or.inl ⟨by rfl, ?_⟩) ?_ ?_
      rotate_left
      ·intro w'
       go_simp
       with_reducible rfl
      rotate_left
      ·simp only [Act.put, List.setIfInBounds_toArray, List.set_cons_zero, List.set_cons_succ, i64_w, i32_w]
       rfl
      refine one_ (i := 1) (N := some 30) (fl_ 4 3) rfl rfl (by kernel_rfl) (by decide) (fun K hK => ?_)
      refine Kd.R_make_step (Kd.int .i64) _ 3 (by rfl) (N := 30) rfl 49 _ _ rfl 25 rfl rfl Try.underlying49 (.int .i64 0) 8 info3 rfl (by decide) (by omega) 0 (ok := fun _ => True) (okp := fun _ => True) rfl (fun _ hk => hk) trivial (by omega) (by omega) (Below.refl _ _) (Nat.le_refl _) ?_
      intro v119 w20 ho21 hb hg_ hnew_
      clear hg_ hnew_
      (first | rw [← Ny118.out] at ho21 | (simp only [Int.reduceToNat] at ho21; rw [← Ny118.out] at ho21))
      have n0_ := Aside0.mk (Kd.R_elder' z19_ (Kd.R_base ho21) hb)
      have n1_ := Aside0.mk (Kd.R_elder' z21_ (Kd.R_base ho21) hb)
      have n2_ := Aside0.mk (Kd.R_elder' z238_ (Kd.R_base ho21) hb)
      have n3_ := Aside0.mk (Kd.R_lower (Kd.R_new' (Kd.R_new' (Kd.R_new' (Kd.R_newM (M := fun k_ => ((P3_ k_ ∨ P4_ k_) ∨ w.heap.size ≤ k_)) ho21 z33_ (fun k_ h_ => .inr h_)) (Kd.R_lt z19_)) (Kd.R_lt z21_)) (Kd.R_lt z238_)) (below_size z8_))
      have n4_ := Aside0.mk (blk_below (g := gb113) (o := .cells #[.slice A0_0 l0_0.length c0_0] 28 (0, 0)) z37_ hb)
      have n5_ := Aside0.mk (Kept.below (S := (fun k_ => P3_ k_ ∨ P4_ k_)) z14_ hb)
      have n6_ := Aside0.mk (below_step z8_ hb)
      clear HO_3
      clear HO_4
      clear HO117
      clear BK113
      clear HK
      clear HB
      have HO_3 := n0_
      have HO_4 := n1_
      have HO117 := n2_
      have HO120 := n3_
      have BK113 := n4_
      have HK := n5_
      have HB := n6_
      clear n0_ n1_ n2_ n3_ n4_ n5_ n6_
      clear hb ho21
      refine hK.out _ _ trivial (fun hHeld => ?_)
      clear hK K
      refine zn_ rfl ?_
      exact norm_ z182_ (hCont (v116, v119) _ ⟨z195_, z196_, z200_, z201_, z37_, z14_, z8_⟩)
     ·skip
      refine Kd.R_make_step (Kd.int .i64) _ 3 (by rfl) (N := 30) rfl 49 _ _ rfl 25 rfl rfl Try.underlying49 (.int .i64 0) 8 info3 rfl (by decide) (by omega) 0 (ok := fun _ => True) (okp := fun _ => True) rfl (fun _ hk => hk) trivial (by omega) (by omega) (Below.refl _ _) (Nat.le_refl _) ?_
      intro v119 w18 ho19 hb hg_ hnew_
      clear hg_ hnew_
      (first | rw [← Ny118.out] at ho19 | (simp only [Int.reduceToNat] at ho19; rw [← Ny118.out] at ho19))
      have n0_ := Aside0.mk (Kd.R_elder' z19_ (Kd.R_base ho19) hb)
      have n1_ := Aside0.mk (Kd.R_elder' z21_ (Kd.R_base ho19) hb)
      have n2_ := Aside0.mk (Kd.R_lower (Kd.R_new' (Kd.R_new' (Kd.R_newM (M := fun k_ => ((P3_ k_ ∨ P4_ k_) ∨ w.heap.size ≤ k_)) ho19 z33_ (fun k_ h_ => .inr h_)) (Kd.R_lt z19_)) (Kd.R_lt z21_)) (below_size z8_))
      have n3_ := Aside0.mk (blk_below (g := gb113) (o := .cells #[.slice A0_0 l0_0.length c0_0] 28 (0, 0)) z37_ hb)
      have n4_ := Aside0.mk (Kept.below (S := (fun k_ => P3_ k_ ∨ P4_ k_)) z14_ hb)
      have n5_ := Aside0.mk (below_step z8_ hb)
      clear HO_3
      clear HO_4
      clear BK113
      clear HK
      clear HB
      have HO_3 := n0_
      have HO_4 := n1_
      have HO120 := n2_
      have BK113 := n3_
      have HK := n4_
      have HB := n5_
      clear n0_ n1_ n2_ n3_ n4_ n5_
      clear hb ho19
      refine hK.out _ _ trivial (fun hHeld => ?_)
      clear hK K
      refine zn_ rfl ?_
      refine one_ (i := 0) (N := some 29) (fl_ 4 2) rfl rfl (by kernel_rfl) (by decide) (fun K hK => ?_)
      refine Kd.R_make_step (Kd.int .i64) _ 3 (by rfl) (N := 29) rfl 49 _ _ rfl 25 rfl rfl Try.underlying49 (.int .i64 0) 8 info3 rfl (by decide) (by omega) 0 (ok := fun _ => True) (okp := fun _ => True) rfl (fun _ hk => hk) trivial (by omega) (by omega) (Below.refl _ _) (Nat.le_refl _) ?_
      intro v116 w20 ho21 hb hg_ hnew_
      clear hg_ hnew_
      (first | rw [← Ny115.out] at ho21 | (simp only [Int.reduceToNat] at ho21; rw [← Ny115.out] at ho21))
      have n0_ := Aside0.mk (Kd.R_elder' z19_ (Kd.R_base ho21) hb)
      have n1_ := Aside0.mk (Kd.R_elder' z21_ (Kd.R_base ho21) hb)
      have n2_ := Aside0.mk (Kd.R_elder' z239_ (Kd.R_base ho21) hb)
      have n3_ := Aside0.mk (Kd.R_lower (Kd.R_new' (Kd.R_new' (Kd.R_new' (Kd.R_newM (M := fun k_ => ((P3_ k_ ∨ P4_ k_) ∨ w.heap.size ≤ k_)) ho21 z33_ (fun k_ h_ => .inr h_)) (Kd.R_lt z19_)) (Kd.R_lt z21_)) (Kd.R_lt z239_)) (below_size z8_))
      have n4_ := Aside0.mk (blk_below (g := gb113) (o := .cells #[.slice A0_0 l0_0.length c0_0] 28 (0, 0)) z37_ hb)
      have n5_ := Aside0.mk (Kept.below (S := (fun k_ => P3_ k_ ∨ P4_ k_)) z14_ hb)
      have n6_ := Aside0.mk (below_step z8_ hb)
      clear HO_3
      clear HO_4
      clear HO120
      clear BK113
      clear HK
      clear HB
      have HO_3 := n0_
      have HO_4 := n1_
      have HO120 := n2_
      have HO117 := n3_
      have BK113 := n4_
      have HK := n5_
      have HB := n6_
      clear n0_ n1_ n2_ n3_ n4_ n5_ n6_
      clear hb ho21
      refine hK.out _ _ trivial (fun hHeld => ?_)
      clear hK K
      refine zn_ rfl ?_
      refine pure_ (i := 2) (N := some 10) (v := ?_) (a' := ?_) #[true, true, true, false] rfl rfl (by kernel_rfl) (fun _ _ _ h => h) (Or.inl ⟨by rfl, ?_⟩) ?_ ?_
      rotate_left
      ·intro w'
       go_simp
       with_reducible rfl
      rotate_left
      ·simp only [Act.put, List.setIfInBounds_toArray, List.set_cons_zero, List.set_cons_succ, i64_w, i32_w]
       rfl
      exact norm_ z182_ (hCont (v116, v119) _ ⟨z195_, z196_, z202_, z203_, z37_, z14_, z8_⟩)
    rintro ⟨v116, v119⟩ w22 ⟨h0_, h1_, h2_, h3_, h4_, h5_, h6_⟩
    have n0_ : Aside0 (Kd.R (Kd.int .i64) 3 w22 w0.heap.size (fun k_ => ((P3_ k_ ∨ P4_ k_) ∨ w.heap.size ≤ k_) ∧ some k_ ≠ (v119 : Value).ownBlock ∧ some k_ ≠ (u9000_ : Value).ownBlock ∧ some k_ ≠ (u9001_ : Value).ownBlock) v116 y115) := ⟨h0_⟩
    have n1_ : Aside0 (Kd.R (Kd.int .i64) 3 w22 w0.heap.size (fun k_ => ((P3_ k_ ∨ P4_ k_) ∨ w.heap.size ≤ k_) ∧ some k_ ≠ (v116 : Value).ownBlock ∧ some k_ ≠ (u9000_ : Value).ownBlock ∧ some k_ ≠ (u9001_ : Value).ownBlock) v119 y118) := ⟨h1_⟩
    have n2_ : Aside0 (Kd.R (Kd.int .i64) 3 w22 w0.heap.size (fun k_ => ((P3_ k_ ∨ P4_ k_) ∨ w.heap.size ≤ k_) ∧ some k_ ≠ (v116 : Value).ownBlock ∧ some k_ ≠ (v119 : Value).ownBlock ∧ some k_ ≠ (u9001_ : Value).ownBlock) u9000_ l3) := ⟨h2_⟩
    have n3_ : Aside0 (Kd.R (Kd.int .i64) 3 w22 w0.heap.size (fun k_ => ((P3_ k_ ∨ P4_ k_) ∨ w.heap.size ≤ k_) ∧ some k_ ≠ (v116 : Value).ownBlock ∧ some k_ ≠ (v119 : Value).ownBlock ∧ some k_ ≠ (u9000_ : Value).ownBlock) u9001_ l4) := ⟨h3_⟩
    have n4_ : Aside0 (w22.heap[gb113]? = some (.cells #[.slice A0_0 l0_0.length c0_0] 28 (0, 0))) := ⟨h4_⟩
    have n5_ : Aside0 (Kept w w22 (fun k_ => P3_ k_ ∨ P4_ k_)) := ⟨h5_⟩
    have n6_ : Aside0 (Below w0.heap.size w0 w22) := ⟨h6_⟩
    clear HO_3
    clear HO_4
    clear BK113
    clear HK
    clear HB
    clear h0_ h1_ h2_ h3_ h4_ h5_ h6_
    have HO117 := n0_
    have HO120 := n1_
    have HO_3 := n2_
    have HO_4 := n3_
    have BK113 := n4_
    have HK := n5_
    have HB := n6_
    clear n0_ n1_ n2_ n3_ n4_ n5_ n6_
    have hHeld := trivial
    refine norm_ (a' := ?_) ?_ ?_
    rotate_left
    ·simp only [putAll, Act.put, List.setIfInBounds_toArray, List.set_cons_zero, List.set_cons_succ]
     rfl
    refine pure_ (i := 3) (N := some 11) (v := ?_) (a' := ?_) #[true, true, true, true] rfl rfl (by kernel_rfl) (fun _ _ _ h => h) (Or.inl ⟨by rfl, ?_⟩) ?_ ?_
    rotate_left
    ·intro w'
     go_simp
     with_reducible rfl
    rotate_left
    ·simp only [Act.put, List.setIfInBounds_toArray, List.set_cons_zero, List.set_cons_succ, i64_w, i32_w]
     rfl
    refine done_ (by kernel_rfl) ?_
    try go_wp2
    go_ret2
    exact ⟨_, _, z4_, by (with_reducible repeat (first | apply Kd.R_alloc | apply Kd.R_drewN | apply Kd.R_drew)); exact Kd.R_mono HO117.out (fun _ hk => ⟨hk.1, hk.2.1⟩), by (with_reducible repeat (first | apply Kd.R_alloc | apply Kd.R_drewN | apply Kd.R_drew)); exact Kd.R_mono HO120.out (fun _ hk => ⟨hk.1, hk.2.1⟩), z8_, z14_⟩
   ·replace c15 := Bool.eq_false_iff.mpr c15
    subst c15
    replace H := iff_ H
    obtain ⟨c23, H⟩ := ifs_ H
    have LMc23 := Aside0.mk c23
    clear c23
    obtain ⟨y121, hy121⟩ : ∃ y_ : List Int, y_ = (l3 ++ [a1]) := ⟨_, rfl⟩
    replace H : (if l4.length < 17592186044416 then (if 0 ≤ a1 then (if a1 < (l0_0.length : Int) then (spec_l16Walk.l0 kj5 a2 y121 (l4 ++ [a2]) ((rd_T72 l0_0 a1).f3) l0_0) else (none)) else (none)) else (none)) = some (r1, r2) := by first | (rw [hy121]; with_reducible exact H) | (have H2_ := (Option.bind_some _ _).symm.trans H; rw [hy121]; with_reducible exact H2_) | (have H2_ := (Option.bind_some _ _).symm.trans H; with_reducible exact H2_) | with_reducible exact H | (rw [hy121]; exact H) | exact H
    have Ny121 := Aside0.mk hy121
    clear hy121
    obtain ⟨c24, H⟩ := ifs_ H
    have LMc24 := Aside0.mk c24
    clear c24
    obtain ⟨y124, hy124⟩ : ∃ y_ : List Int, y_ = (l4 ++ [a2]) := ⟨_, rfl⟩
    replace H : (if 0 ≤ a1 then (if a1 < (l0_0.length : Int) then (spec_l16Walk.l0 kj5 a2 y121 y124 ((rd_T72 l0_0 a1).f3) l0_0) else (none)) else (none)) = some (r1, r2) := by first | (rw [hy124]; with_reducible exact H) | (have H2_ := (Option.bind_some _ _).symm.trans H; rw [hy124]; with_reducible exact H2_) | (have H2_ := (Option.bind_some _ _).symm.trans H; with_reducible exact H2_) | with_reducible exact H | (rw [hy124]; exact H) | exact H
    have Ny124 := Aside0.mk hy124
    clear hy124
    obtain ⟨c25b0, H⟩ := ifd_ H
    obtain ⟨c26b0, H⟩ := ifd_ H
    have H' := Aside0.mk H
    clear H
    go_wp2_with (first | ((with_reducible refine gate_builtin (b := .append) (xs := #[.tmp 31, .tmp 33]) rfl ?_); (try (refine gate_guard (by rfl) ?_; dsimp only)); at_builtin; refine Kd.R_append (Kd.int .i64) (w0 := w0) w0.heap.size rfl (.tmp 31) (.tmp 33) 49 3 (.int .i64 0) 8 rfl Try.underlying49 info3 rfl (by decide) (by omega) u9000_ l3 a1 [.int .i64 a1] (fun k_ => ((P3_ k_ ∨ P4_ k_) ∨ w.heap.size ≤ k_) ∧ some k_ ≠ (u9001_ : Value).ownBlock) (fun _ => False) rfl rfl ?aP (fun _ hk => hk.elim) ?aF ?aO ?aB ?aS ?aL ?_; (case aP => exact rfl); (case aB => exact z191_); (case aF => exact (fun k_ hk => ⟨(.inr (Nat.le_trans z33_ hk)), Kd.fresh' (Kd.R_lt z21_) k_ hk⟩)); (case aO => exact z168_); (case aS => exact z183_); (case aL => have := LMc23.out; omega); intro v122 w27 ho hb hg hat; rw [← Ny121.out] at ho; replace HO_4 := Aside0.mk (Kd.R_after (ok := (fun k_ => ((P3_ k_ ∨ P4_ k_) ∨ w.heap.size ≤ k_))) z21_ hg hat); replace BK113 := Aside0.mk (blk_grown (g := gb113) (o := .cells #[.slice A0_0 l0_0.length c0_0] 28 (0, 0)) z37_ hg (Kd.R_ne HO_3.out BK113.out (by decide))); replace HB := Aside0.mk (hb); replace HK := Aside0.mk (Kept.of_grown (S := (fun k_ => P3_ k_ ∨ P4_ k_)) hg z14_ (fun k_ e_ => (HO_3.out.1 k_ e_).1)); have HO123 := Aside0.mk (ho); clear HO_3; clear ho hb hg hat) | ((with_reducible refine gate_builtin (b := .append) (xs := #[.tmp 35, .tmp 37]) rfl ?_); (try (refine gate_guard (by rfl) ?_; dsimp only)); at_builtin; refine Kd.R_append (Kd.int .i64) (w0 := w0) w0.heap.size rfl (.tmp 35) (.tmp 37) 49 3 (.int .i64 0) 8 rfl Try.underlying49 info3 rfl (by decide) (by omega) u9001_ l4 a2 [.int .i64 a2] (fun k_ => ((P3_ k_ ∨ P4_ k_) ∨ w.heap.size ≤ k_) ∧ some k_ ≠ (v122 : Value).ownBlock) (fun _ => False) rfl rfl ?aP (fun _ hk => hk.elim) ?aF ?aO ?aB ?aS ?aL ?_; (case aP => exact rfl); (case aB => exact z191_); (case aF => exact (fun k_ hk => ⟨(.inr (Nat.le_trans z33_ hk)), Kd.fresh' (Kd.R_lt z209_) k_ hk⟩)); (case aO => exact z169_); (case aS => exact z183_); (case aL => have := LMc24.out; omega); intro v125 w28 ho hb hg hat; rw [← Ny124.out] at ho; replace BK113 := Aside0.mk (blk_grown (g := gb113) (o := .cells #[.slice A0_0 l0_0.length c0_0] 28 (0, 0)) z37_ hg (Kd.R_ne HO_4.out BK113.out (by decide))); replace HO123 := Aside0.mk (Kd.R_after (ok := (fun k_ => ((P3_ k_ ∨ P4_ k_) ∨ w.heap.size ≤ k_))) z209_ hg hat); replace HB := Aside0.mk (hb); replace HK := Aside0.mk (Kept.of_grown (S := (fun k_ => P3_ k_ ∨ P4_ k_)) hg z14_ (fun k_ e_ => (HO_4.out.1 k_ e_).1)); have HO126 := Aside0.mk (ho); clear HO_4; clear ho hb hg hat; have hcz29_0 : w28.cell? ⟨gb113, 0, none⟩ = some (.slice A0_0 l0_0.length c0_0) := (blk_cell BK113.out 0).trans rfl; have hfz29_0 := blk_frozen BK113.out 0; have p127 : 0 ≤ (a1 : Int) := odt_; have q127 : a1 < (l0_0.length : Int) := odt_; obtain ⟨ad127, e127, hx127_0, hx127_1, hx127_2, hx127_3, hx127_4, hx127_5, hx127_6⟩ := at_T72 (Kd.C_kept_now HR0_0.out HK.out) a1 p127 q127; cases e127; replace p127 := eq_true p127; replace q127 := eq_true q127))
    go_loopg [3, 4, 12] kj5 (fun kq v3 v4 v12 w' => ∃ (x3_2 : List Int) (x4_2 : List Int) (x12_2 : Int), v12 = .int .i64 x12_2 ∧ Aside0 (spec_l16Walk.l0 kq a2 x3_2 x4_2 x12_2 l0_0 = some (r1, r2)) ∧ Aside0 (kq ≤ kj5) ∧ Aside0 (Kd.R (Kd.int .i64) 3 w' w0.heap.size (fun k_ => ((P3_ k_ ∨ P4_ k_) ∨ w.heap.size ≤ k_) ∧ some k_ ≠ (v4 : Value).ownBlock) v3 x3_2) ∧ Aside0 (Kd.R (Kd.int .i64) 3 w' w0.heap.size (fun k_ => ((P3_ k_ ∨ P4_ k_) ∨ w.heap.size ≤ k_) ∧ some k_ ≠ (v3 : Value).ownBlock) v4 x4_2) ∧ Aside0 (w'.heap[gb113]? = some (.cells #[(.slice (some ad127) l0_0.length c0_0)] 28 (0, 0))) ∧ Aside0 (Kept w w' (fun k_ => P3_ k_ ∨ P4_ k_)) ∧ Aside0 (Below w0.heap.size w0 w'))
    case atStart => exact ⟨(y121), (y124), ((rd_T72 l0_0 a1).f3), z12_, H', ⟨Nat.le_refl _⟩, ⟨z209_⟩, ⟨by (with_reducible repeat (first | apply Kd.R_alloc | apply Kd.R_drewN | apply Kd.R_drew)); exact HO126.out⟩, ⟨z37_⟩, ⟨z14_⟩, ⟨z8_⟩⟩
    case round =>
     clear H'
     try clear c1
     try clear p1
     try clear q1
     try clear hx1
     try clear c2
     try clear p2
     try clear p3
     try clear p4
     try clear c6
     try clear p6
     try clear c8
     try clear c8b0
     try clear c8b1
     try clear c10
     try clear c10b0
     try clear p12
     try clear q12
     try clear hx12
     try clear c15
     try clear c16
     try clear c16b0
     try clear c16b1
     try clear c23
     try clear c24
     try clear c25
     try clear c25b0
     try clear c26
     try clear c26b0
     try clear hcz14_0
     try clear hcz29_0
     try clear hfz14_0
     try clear hfz29_0
     try clear hx127_0
     try clear hx127_1
     try clear hx127_2
     try clear hx127_3
     try clear hx127_4
     try clear hx127_5
     try clear hx127_6
     try clear p127
     try clear p2
     try clear p3
     try clear p4
     try clear p6
     try clear q127
     obtain ⟨x3_2, x4_2, x12_2, rfl, HA, HK2, HO_3, HO_4, BK113, HK, HB⟩ := hrel
     cases gk with
     | zero => exact absurd HA.out (by simp [spec_l16Walk.l0])
     | succ k2 =>
      have H := HA.out
      clear HA
      simp only [spec_l16Walk.l0] at H
      have HC30 := Aside0.mk H
      clear H
      go_upto_region 6 with (fail)
      go_cut [51] (fun v51 wc => ∃ (kq : Nat) (x51_29 : Bool), v51 = .bool x51_29 ∧ Aside0 (spec_l16Walk.j2 kq a2 x3_2 x4_2 x12_2 x51_29 l0_0 = some (r1, r2)) ∧ Aside0 (kq ≤ k2) ∧ Aside0 (Kd.R (Kd.int .i64) 3 wc w0.heap.size (fun k_ => ((P3_ k_ ∨ P4_ k_) ∨ w.heap.size ≤ k_) ∧ some k_ ≠ (u4 : Value).ownBlock) u3 x3_2) ∧ Aside0 (Kd.R (Kd.int .i64) 3 wc w0.heap.size (fun k_ => ((P3_ k_ ∨ P4_ k_) ∨ w.heap.size ≤ k_) ∧ some k_ ≠ (u3 : Value).ownBlock) u4 x4_2) ∧ Aside0 (wc.heap[gb113]? = some (.cells #[(.slice (some ad127) l0_0.length c0_0)] 28 (0, 0))) ∧ Aside0 (Kept w wc (fun k_ => P3_ k_ ∨ P4_ k_)) ∧ Aside0 (Below w0.heap.size w0 wc))
      case first =>
       have H := HC30.out
       clear HC30
       by_cases c31 : x12_2 = (-1)
       ·rw [if_pos c31] at H
        have c31b0 : (x12_2 == (-1)) = true := beq_iff_eq.mpr c31
        have c31b1 : (x12_2 != (-1)) = false := bne_eq_false_iff_eq.mpr c31
        clear c31
        (first | rw [c31b0] | rw [c31b1] | (simp only [i64_w, i32_w]; rw [c31b0]) | skip)
        have H' := Aside0.mk H
        clear H
        go_wp2
        go_meet
        case rel => exact ⟨_, (false), z12_, H', ⟨by have := HJ5.out; have := HK2.out; first | omega | exact Nat.le_refl _⟩, ⟨z19_⟩, ⟨z21_⟩, ⟨z37_⟩, ⟨z14_⟩, ⟨z8_⟩⟩
       ·rw [if_neg c31] at H
        have c31b0 : (x12_2 == (-1)) = false := beq_eq_false_iff_ne.mpr c31
        have c31b1 : (x12_2 != (-1)) = true := bne_iff_ne.mpr c31
        (first | rw [c31b0] | rw [c31b1] | (simp only [i64_w, i32_w]; rw [c31b0]) | skip)
        have H' := Aside0.mk H
        clear H
        obtain ⟨Ao32, co32, eo32⟩ := Kd.R_slice HO_3.out
        subst eo32
        go_wp2
        go_meet
        case rel => exact ⟨_, (decide ((x3_2.length : Int) ≤ 24)), z12_, H', ⟨by have := HJ5.out; have := HK2.out; first | omega | exact Nat.le_refl _⟩, ⟨z19_⟩, ⟨z21_⟩, ⟨z37_⟩, ⟨z14_⟩, ⟨z8_⟩⟩
      case rest =>
       clear HC30
       try clear c1
       try clear p1
       try clear q1
       try clear hx1
       try clear c2
       try clear p2
       try clear c3
       try clear p3
       try clear p4
       try clear c6
       try clear p6
       try clear c8
       try clear c8b0
       try clear c8b1
       try clear c10
       try clear c10b0
       try clear p12
       try clear q12
       try clear hx12
       try clear c15
       try clear c16
       try clear c16b0
       try clear c16b1
       try clear c23
       try clear c24
       try clear c25
       try clear c25b0
       try clear c26
       try clear c26b0
       try clear c31
       try clear c31b0
       try clear c31b1
       try clear hcz14_0
       try clear hcz29_0
       try clear hfz14_0
       try clear hfz29_0
       try clear hx127_0
       try clear hx127_1
       try clear hx127_2
       try clear hx127_3
       try clear hx127_4
       try clear hx127_5
       try clear hx127_6
       try clear p1
       try clear p12
       try clear p127
       try clear p2
       try clear p3
       try clear p4
       try clear p6
       try clear q1
       try clear q12
       try clear q127
       obtain ⟨kq, x51_29, rfl, HA, HJ29, HO_3, HO_4, BK113, HK, HB⟩ := hcut
       cases kq with
       | zero => exact absurd HA.out (by simp [spec_l16Walk.j2])
       | succ kj29 =>
        have H := HA.out
        clear HA
        simp only [spec_l16Walk.j2] at H
        by_cases c33 : x51_29 = true
        ·subst c33
         replace H := ift_ H
         obtain ⟨t128, A34, H⟩ := bnd_ H
         by_cases c35 : t128 = true
         ·subst c35
          replace H := ift_ H
          replace H := Option.bind_eq_some_iff.mp H
          obtain ⟨⟨t129, t132⟩, A360, H⟩ := H
          replace H : (if 0 ≤ x12_2 then (if x12_2 < (l0_0.length : Int) then (spec_l16Walk.l0 kj29 a2 t129 t132 ((rd_T72 l0_0 x12_2).f6) l0_0) else (none)) else (none)) = some (r1, r2) := H
          have A36 := Aside0.mk A360
          clear A360
          obtain ⟨c37b0, H⟩ := ifd_ H
          obtain ⟨c38b0, H⟩ := ifd_ H
          have H' := Aside0.mk H
          clear H
          have hcz39_0 : wc.cell? ⟨gb113, 0, none⟩ = some (.slice (some ad127) l0_0.length c0_0) := (blk_cell BK113.out 0).trans rfl
          have hfz39_0 := blk_frozen BK113.out 0
          go_wp2_with (first | ((with_reducible refine gate_callee (f := 58) rfl ?_); refine goesL_ (some 57) rfl rfl Try.func58 (by kernel_rfl) rfl #[.int .i64 x12_2, .int .i64 0, .int .i64 (wrap64 ((l0_0.length : Int) - 1))] rfl z1_ ?_; (with_reducible refine (spec_l1In.calls x12_2 0 (wrap64 ((l0_0.length : Int) - 1)) true _ A34.out).mono ?_); rintro e w' ⟨rfl, ⟨nd, rfl⟩⟩; refine ⟨_, rfl, ?_⟩; obtain ⟨Ao40, co40, eo40⟩ := Kd.R_slice HO_3.out; subst eo40; obtain ⟨Ao41, co41, eo41⟩ := Kd.R_slice HO_4.out; subst eo41) | ((with_reducible refine gate_callee (f := 61) rfl ?_); refine goesL_ (some 68) rfl rfl Try.func61 (by kernel_rfl) rfl #[.agg #[.slice (some ad127) l0_0.length c0_0], .int .i64 x12_2, .int .i64 (wrap64 (a2 + 1)), .slice Ao40 x3_2.length co40, .slice Ao41 x4_2.length co41] rfl z1_ ?_; (with_reducible refine (ih kj29 (by have := HJ5.out; have := HK2.out; have := HJ29.out; omega) _ _ l0_0 x12_2 (wrap64 (a2 + 1)) (fun k_ => some k_ = (.slice Ao40 x3_2.length co40 : Value).ownBlock) (.slice Ao40 x3_2.length co40) x3_2 (fun k_ => some k_ = (.slice Ao41 x4_2.length co41 : Value).ownBlock) (.slice Ao41 x4_2.length co41) x4_2 t129 t132 w0 _ ?side1 ?side2 ?side3 ?side4 ?side5 ?side6 ?side7 A36.out).mono ?_); (case side1 => exact z8_); (case side2 => exact Kd.C_kept_call HR0_0.out z14_ (fun k_ hs_ => Or.elim hs_ (fun e_ => (fun e_ => (HO_3.out.1 k_ e_.symm).1) e_) (fun e_ => (fun e_ => (HO_4.out.1 k_ e_.symm).1) e_))); (case side3 => exact HC0_0.out); (case side4 => exact z248_); (case side5 => exact fun k_ e_ => (HO_3.out.1 k_ e_.symm).2); (case side6 => exact z249_); (case side7 => exact fun k_ e_ => (HO_4.out.1 k_ e_.symm).2); rintro e w42 ⟨v130, v133, rfl, ho0, ho1, hb, hkp⟩; refine ⟨_, rfl, ?_⟩; replace BK113 := Aside0.mk (blk_kept z37_ hkp (fun hs_ => Or.elim hs_ (fun e_ => (fun e_ => (Kd.R_ne HO_3.out BK113.out (by decide)) e_) e_) (fun e_ => (fun e_ => (Kd.R_ne HO_4.out BK113.out (by decide)) e_) e_))); have HO131 := Aside0.mk (Kd.R_mono (ok' := fun k_ => ((P3_ k_ ∨ P4_ k_) ∨ w.heap.size ≤ k_) ∧ some k_ ≠ (v133 : Value).ownBlock) ho0 (fun k_ hk_ => ⟨Or.elim hk_.1 (fun hs_ => Or.elim hs_ (fun hs_ => (HO_3.out.1 k_ (hs_).symm).1) (fun hs_ => (HO_4.out.1 k_ (hs_).symm).1)) (fun hn_ => (.inr (Nat.le_trans z33_ hn_))), hk_.2⟩)); have HO134 := Aside0.mk (Kd.R_mono (ok' := fun k_ => ((P3_ k_ ∨ P4_ k_) ∨ w.heap.size ≤ k_) ∧ some k_ ≠ (v130 : Value).ownBlock) ho1 (fun k_ hk_ => ⟨Or.elim hk_.1 (fun hs_ => Or.elim hs_ (fun hs_ => (HO_3.out.1 k_ (hs_).symm).1) (fun hs_ => (HO_4.out.1 k_ (hs_).symm).1)) (fun hn_ => (.inr (Nat.le_trans z33_ hn_))), hk_.2⟩)); replace HK := Aside0.mk (Kept.then_ (S := (fun k_ => P3_ k_ ∨ P4_ k_)) z14_ hkp (fun k_ hs_ => Or.elim hs_ (fun e_ => (fun e_ => (HO_3.out.1 k_ e_.symm).1) e_) (fun e_ => (fun e_ => (HO_4.out.1 k_ e_.symm).1) e_))); replace HB := Aside0.mk (hb); clear HO_3 HO_4; (try clear hb hkp ho0 ho1); have hcz43_0 : w42.cell? ⟨gb113, 0, none⟩ = some (.slice (some ad127) l0_0.length c0_0) := (blk_cell BK113.out 0).trans rfl; have hfz43_0 := blk_frozen BK113.out 0; have p135 : 0 ≤ (x12_2 : Int) := odt_; have q135 : x12_2 < (l0_0.length : Int) := odt_; obtain ⟨ad135, e135, hx135_0, hx135_1, hx135_2, hx135_3, hx135_4, hx135_5, hx135_6⟩ := at_T72 (Kd.C_kept_now HR0_0.out HK.out) x12_2 p135 q135; obtain rfl : ad127 = ad135 := (by injection e135); replace p135 := eq_true p135; replace q135 := eq_true q135))
          go_roundg kj29
          case measure => have := HJ5.out; have := HK2.out; have := HJ29.out; omega
          case rel => exact ⟨(t129), (t132), ((rd_T72 l0_0 x12_2).f6), z12_, H', ⟨by have := HJ5.out; have := HK2.out; have := HJ29.out; omega⟩, ⟨by (with_reducible repeat (first | apply Kd.R_alloc | apply Kd.R_drewN | apply Kd.R_drew)); exact HO131.out⟩, ⟨by (with_reducible repeat (first | apply Kd.R_alloc | apply Kd.R_drewN | apply Kd.R_drew)); exact HO134.out⟩, ⟨z37_⟩, ⟨z14_⟩, ⟨z8_⟩⟩
         ·replace c35 := Bool.eq_false_iff.mpr c35
          subst c35
          replace H := iff_ H
          obtain ⟨c44b0, c44b1, H⟩ := ife_ H
          obtain ⟨y136, hy136⟩ : ∃ y_ : List Int, y_ = (List.replicate 25 0) := ⟨_, rfl⟩
          replace H : (some (y136, (List.replicate 25 0))) = some (r1, r2) := by first | (rw [hy136]; with_reducible exact H) | (have H2_ := (Option.bind_some _ _).symm.trans H; rw [hy136]; with_reducible exact H2_) | (have H2_ := (Option.bind_some _ _).symm.trans H; with_reducible exact H2_) | with_reducible exact H | (rw [hy136]; exact H) | exact H
          have Ny136 := Aside0.mk hy136
          clear hy136
          obtain ⟨y139, hy139⟩ : ∃ y_ : List Int, y_ = (List.replicate 25 0) := ⟨_, rfl⟩
          replace H : (some (y136, y139)) = some (r1, r2) := by first | (rw [hy139]; with_reducible exact H) | (have H2_ := (Option.bind_some _ _).symm.trans H; rw [hy139]; with_reducible exact H2_) | (have H2_ := (Option.bind_some _ _).symm.trans H; with_reducible exact H2_) | with_reducible exact H | (rw [hy139]; exact H) | exact H
          have Ny139 := Aside0.mk hy139
          clear hy139
          simp only [Option.some.injEq, Prod.mk.injEq] at H
          obtain ⟨rfl, rfl⟩ := H
          have hcz45_0 : wc.cell? ⟨gb113, 0, none⟩ = some (.slice (some ad127) l0_0.length c0_0) := (blk_cell BK113.out 0).trans rfl
          have hfz45_0 := blk_frozen BK113.out 0
          try go_wp2_with (first | ((with_reducible refine gate_callee (f := 58) rfl ?_); refine goesL_ (some 57) rfl rfl Try.func58 (by kernel_rfl) rfl #[.int .i64 x12_2, .int .i64 0, .int .i64 (wrap64 ((l0_0.length : Int) - 1))] rfl z1_ ?_; (with_reducible refine (spec_l1In.calls x12_2 0 (wrap64 ((l0_0.length : Int) - 1)) false _ A34.out).mono ?_); rintro e w' ⟨rfl, ⟨nd, rfl⟩⟩; refine ⟨_, rfl, ?_⟩))
          (try (rw [drewN_self wc]; generalize hq_ : World.drewN wc _ = wc; have n0_ : Aside0 (Kd.R (Kd.int .i64) 3 wc w0.heap.size (fun k_ => ((P3_ k_ ∨ P4_ k_) ∨ w.heap.size ≤ k_) ∧ some k_ ≠ (u4 : Value).ownBlock) u3 x3_2) := ⟨by rw [← hq_]; exact z19_⟩; have n1_ : Aside0 (Kd.R (Kd.int .i64) 3 wc w0.heap.size (fun k_ => ((P3_ k_ ∨ P4_ k_) ∨ w.heap.size ≤ k_) ∧ some k_ ≠ (u3 : Value).ownBlock) u4 x4_2) := ⟨by rw [← hq_]; exact z21_⟩; have n2_ : Aside0 (wc.heap[gb113]? = some (.cells #[.slice (some ad127) l0_0.length c0_0] 28 (0, 0))) := ⟨by rw [← hq_]; exact z37_⟩; have n3_ : Aside0 (Kept w wc (fun k_ => P3_ k_ ∨ P4_ k_)) := ⟨by rw [← hq_]; exact z14_⟩; have n4_ : Aside0 (Below w0.heap.size w0 wc) := ⟨by rw [← hq_]; exact z8_⟩; clear HO_3 HO_4 BK113 HK HB hq_; have HO_3 := n0_; have HO_4 := n1_; have BK113 := n2_; have HK := n3_; have HB := n4_; clear n0_ n1_ n2_ n3_ n4_))
          have n0_ := Aside0.mk (Kd.R_drew HO_3.out)
          have n1_ := Aside0.mk (Kd.R_drew HO_4.out)
          have n2_ := Aside0.mk (blk_drew BK113.out)
          have n3_ := Aside0.mk (Kept.drew HK.out)
          have n4_ := Aside0.mk (below_drew1 HB.out)
          clear HO_3
          clear HO_4
          clear BK113
          clear HK
          clear HB
          have HO_3 := n0_
          have HO_4 := n1_
          have BK113 := n2_
          have HK := n3_
          have HB := n4_
          clear n0_ n1_ n2_ n3_ n4_
          refine start_ (n := 4) (S := fun w' => True) (ds := []) (fl_ 4 0) (by kernel_rfl) rfl (fl_zero _) trivial (fun hHeld => ?_)
          generalize wc.drew = w46 at HO_3 HO_4 BK113 HK HB hHeld ⊢
          refine join_ (σ := Value × Value) 1 #[true, true, true, false] (fun s_ => [(59, s_.1), (60, s_.2), (10, s_.1)]) (fun s_ w' => (Kd.R (Kd.int .i64) 3 w' w0.heap.size (fun k_ => ((P3_ k_ ∨ P4_ k_) ∨ w.heap.size ≤ k_) ∧ some k_ ≠ (s_.2 : Value).ownBlock ∧ some k_ ≠ (u3 : Value).ownBlock ∧ some k_ ≠ (u4 : Value).ownBlock) s_.1 y136) ∧ (Kd.R (Kd.int .i64) 3 w' w0.heap.size (fun k_ => ((P3_ k_ ∨ P4_ k_) ∨ w.heap.size ≤ k_) ∧ some k_ ≠ (s_.1 : Value).ownBlock ∧ some k_ ≠ (u3 : Value).ownBlock ∧ some k_ ≠ (u4 : Value).ownBlock) s_.2 y139) ∧ (Kd.R (Kd.int .i64) 3 w' w0.heap.size (fun k_ => ((P3_ k_ ∨ P4_ k_) ∨ w.heap.size ≤ k_) ∧ some k_ ≠ (s_.1 : Value).ownBlock ∧ some k_ ≠ (s_.2 : Value).ownBlock ∧ some k_ ≠ (u4 : Value).ownBlock) u3 x3_2) ∧ (Kd.R (Kd.int .i64) 3 w' w0.heap.size (fun k_ => ((P3_ k_ ∨ P4_ k_) ∨ w.heap.size ≤ k_) ∧ some k_ ≠ (s_.1 : Value).ownBlock ∧ some k_ ≠ (s_.2 : Value).ownBlock ∧ some k_ ≠ (u3 : Value).ownBlock) u4 x4_2) ∧ (w'.heap[gb113]? = some (.cells #[.slice (some ad127) l0_0.length c0_0] 28 (0, 0))) ∧ (Kept w w' (fun k_ => P3_ k_ ∨ P4_ k_)) ∧ (Below w0.heap.size w0 w')) ?_ ?_
          rotate_left
          ·intro hCont
           refine two_ (i := 0) (j := 1) (Ni := some 59) (Nj := some 60) #[true, false, false, false] #[false, true, false, false] rfl rfl rfl rfl (by kernel_rfl) (by decide) (by decide) (fun K hK => ?_) (fun K hK => ?_)
           ·skip
            refine Kd.R_make_step (Kd.int .i64) _ 3 (by rfl) (N := 59) rfl 49 _ _ rfl 25 rfl rfl Try.underlying49 (.int .i64 0) 8 info3 rfl (by decide) (by omega) 0 (ok := fun _ => True) (okp := fun _ => True) rfl (fun _ hk => hk) trivial (by omega) (by omega) (Below.refl _ _) (Nat.le_refl _) ?_
            intro v137 w47 ho48 hb hg_ hnew_
            clear hg_ hnew_
            (first | rw [← Ny136.out] at ho48 | (simp only [Int.reduceToNat] at ho48; rw [← Ny136.out] at ho48))
            have n0_ := Aside0.mk (Kd.R_elder' z19_ (Kd.R_base ho48) hb)
            have n1_ := Aside0.mk (Kd.R_elder' z21_ (Kd.R_base ho48) hb)
            have n2_ := Aside0.mk (Kd.R_lower (Kd.R_new' (Kd.R_new' (Kd.R_newM (M := fun k_ => ((P3_ k_ ∨ P4_ k_) ∨ w.heap.size ≤ k_)) ho48 z33_ (fun k_ h_ => .inr h_)) (Kd.R_lt z19_)) (Kd.R_lt z21_)) (below_size z8_))
            have n3_ := Aside0.mk (blk_below (g := gb113) (o := .cells #[.slice (some ad127) l0_0.length c0_0] 28 (0, 0)) z37_ hb)
            have n4_ := Aside0.mk (Kept.below (S := (fun k_ => P3_ k_ ∨ P4_ k_)) z14_ hb)
            have n5_ := Aside0.mk (below_step z8_ hb)
            clear HO_3
            clear HO_4
            clear BK113
            clear HK
            clear HB
            have HO_3 := n0_
            have HO_4 := n1_
            have HO138 := n2_
            have BK113 := n3_
            have HK := n4_
            have HB := n5_
            clear n0_ n1_ n2_ n3_ n4_ n5_
            clear hb ho48
            refine hK.out _ _ trivial (fun hHeld => ?_)
            clear hK K
            refine zn_ rfl ?_
            refine pure_ (i := 2) (N := some 10) (v := ?_) (a' := ?_) #[true, false, true, false] rfl rfl (by kernel_rfl) (fun _ _ _ h => h) (Or.inl ⟨by rfl, ?_⟩) ?_ ?_
            rotate_left
            ·intro w'
             go_simp
             with_reducible rfl
            rotate_left
            ·simp only [Act.put, List.setIfInBounds_toArray, List.set_cons_zero, List.set_cons_succ, i64_w, i32_w]
             rfl
            refine one_ (i := 1) (N := some 60) (fl_ 4 3) rfl rfl (by kernel_rfl) (by decide) (fun K hK => ?_)
            refine Kd.R_make_step (Kd.int .i64) _ 3 (by rfl) (N := 60) rfl 49 _ _ rfl 25 rfl rfl Try.underlying49 (.int .i64 0) 8 info3 rfl (by decide) (by omega) 0 (ok := fun _ => True) (okp := fun _ => True) rfl (fun _ hk => hk) trivial (by omega) (by omega) (Below.refl _ _) (Nat.le_refl _) ?_
            intro v140 w49 ho50 hb hg_ hnew_
            clear hg_ hnew_
            (first | rw [← Ny139.out] at ho50 | (simp only [Int.reduceToNat] at ho50; rw [← Ny139.out] at ho50))
            have n0_ := Aside0.mk (Kd.R_elder' z19_ (Kd.R_base ho50) hb)
            have n1_ := Aside0.mk (Kd.R_elder' z21_ (Kd.R_base ho50) hb)
            have n2_ := Aside0.mk (Kd.R_elder' z240_ (Kd.R_base ho50) hb)
            have n3_ := Aside0.mk (Kd.R_lower (Kd.R_new' (Kd.R_new' (Kd.R_new' (Kd.R_newM (M := fun k_ => ((P3_ k_ ∨ P4_ k_) ∨ w.heap.size ≤ k_)) ho50 z33_ (fun k_ h_ => .inr h_)) (Kd.R_lt z19_)) (Kd.R_lt z21_)) (Kd.R_lt z240_)) (below_size z8_))
            have n4_ := Aside0.mk (blk_below (g := gb113) (o := .cells #[.slice (some ad127) l0_0.length c0_0] 28 (0, 0)) z37_ hb)
            have n5_ := Aside0.mk (Kept.below (S := (fun k_ => P3_ k_ ∨ P4_ k_)) z14_ hb)
            have n6_ := Aside0.mk (below_step z8_ hb)
            clear HO_3
            clear HO_4
            clear HO138
            clear BK113
            clear HK
            clear HB
            have HO_3 := n0_
            have HO_4 := n1_
            have HO138 := n2_
            have HO141 := n3_
            have BK113 := n4_
            have HK := n5_
            have HB := n6_
            clear n0_ n1_ n2_ n3_ n4_ n5_ n6_
            clear hb ho50
            refine hK.out _ _ trivial (fun hHeld => ?_)
            clear hK K
            refine zn_ rfl ?_
            exact norm_ z182_ (hCont (v137, v140) _ ⟨z197_, z198_, z200_, z201_, z37_, z14_, z8_⟩)
           ·skip
            refine Kd.R_make_step (Kd.int .i64) _ 3 (by rfl) (N := 60) rfl 49 _ _ rfl 25 rfl rfl Try.underlying49 (.int .i64 0) 8 info3 rfl (by decide) (by omega) 0 (ok := fun _ => True) (okp := fun _ => True) rfl (fun _ hk => hk) trivial (by omega) (by omega) (Below.refl _ _) (Nat.le_refl _) ?_
            intro v140 w47 ho48 hb hg_ hnew_
            clear hg_ hnew_
            (first | rw [← Ny139.out] at ho48 | (simp only [Int.reduceToNat] at ho48; rw [← Ny139.out] at ho48))
            have n0_ := Aside0.mk (Kd.R_elder' z19_ (Kd.R_base ho48) hb)
            have n1_ := Aside0.mk (Kd.R_elder' z21_ (Kd.R_base ho48) hb)
            have n2_ := Aside0.mk (Kd.R_lower (Kd.R_new' (Kd.R_new' (Kd.R_newM (M := fun k_ => ((P3_ k_ ∨ P4_ k_) ∨ w.heap.size ≤ k_)) ho48 z33_ (fun k_ h_ => .inr h_)) (Kd.R_lt z19_)) (Kd.R_lt z21_)) (below_size z8_))
            have n3_ := Aside0.mk (blk_below (g := gb113) (o := .cells #[.slice (some ad127) l0_0.length c0_0] 28 (0, 0)) z37_ hb)
            have n4_ := Aside0.mk (Kept.below (S := (fun k_ => P3_ k_ ∨ P4_ k_)) z14_ hb)
            have n5_ := Aside0.mk (below_step z8_ hb)
            clear HO_3
            clear HO_4
            clear BK113
            clear HK
            clear HB
            have HO_3 := n0_
            have HO_4 := n1_
            have HO141 := n2_
            have BK113 := n3_
            have HK := n4_
            have HB := n5_
            clear n0_ n1_ n2_ n3_ n4_ n5_
            clear hb ho48
            refine hK.out _ _ trivial (fun hHeld => ?_)
            clear hK K
            refine zn_ rfl ?_
            refine one_ (i := 0) (N := some 59) (fl_ 4 2) rfl rfl (by kernel_rfl) (by decide) (fun K hK => ?_)
            refine Kd.R_make_step (Kd.int .i64) _ 3 (by rfl) (N := 59) rfl 49 _ _ rfl 25 rfl rfl Try.underlying49 (.int .i64 0) 8 info3 rfl (by decide) (by omega) 0 (ok := fun _ => True) (okp := fun _ => True) rfl (fun _ hk => hk) trivial (by omega) (by omega) (Below.refl _ _) (Nat.le_refl _) ?_
            intro v137 w49 ho50 hb hg_ hnew_
            clear hg_ hnew_
            (first | rw [← Ny136.out] at ho50 | (simp only [Int.reduceToNat] at ho50; rw [← Ny136.out] at ho50))
            have n0_ := Aside0.mk (Kd.R_elder' z19_ (Kd.R_base ho50) hb)
            have n1_ := Aside0.mk (Kd.R_elder' z21_ (Kd.R_base ho50) hb)
            have n2_ := Aside0.mk (Kd.R_elder' z241_ (Kd.R_base ho50) hb)
            have n3_ := Aside0.mk (Kd.R_lower (Kd.R_new' (Kd.R_new' (Kd.R_new' (Kd.R_newM (M := fun k_ => ((P3_ k_ ∨ P4_ k_) ∨ w.heap.size ≤ k_)) ho50 z33_ (fun k_ h_ => .inr h_)) (Kd.R_lt z19_)) (Kd.R_lt z21_)) (Kd.R_lt z241_)) (below_size z8_))
            have n4_ := Aside0.mk (blk_below (g := gb113) (o := .cells #[.slice (some ad127) l0_0.length c0_0] 28 (0, 0)) z37_ hb)
            have n5_ := Aside0.mk (Kept.below (S := (fun k_ => P3_ k_ ∨ P4_ k_)) z14_ hb)
            have n6_ := Aside0.mk (below_step z8_ hb)
            clear HO_3
            clear HO_4
            clear HO141
            clear BK113
            clear HK
            clear HB
            have HO_3 := n0_
            have HO_4 := n1_
            have HO141 := n2_
            have HO138 := n3_
            have BK113 := n4_
            have HK := n5_
            have HB := n6_
            clear n0_ n1_ n2_ n3_ n4_ n5_ n6_
            clear hb ho50
            refine hK.out _ _ trivial (fun hHeld => ?_)
            clear hK K
            refine zn_ rfl ?_
            refine pure_ (i := 2) (N := some 10) (v := ?_) (a' := ?_) #[true, true, true, false] rfl rfl (by kernel_rfl) (fun _ _ _ h => h) (Or.inl ⟨by rfl, ?_⟩) ?_ ?_
            rotate_left
            ·intro w'
             go_simp
             with_reducible rfl
            rotate_left
            ·simp only [Act.put, List.setIfInBounds_toArray, List.set_cons_zero, List.set_cons_succ, i64_w, i32_w]
             rfl
            exact norm_ z182_ (hCont (v137, v140) _ ⟨z197_, z198_, z202_, z203_, z37_, z14_, z8_⟩)
          rintro ⟨v137, v140⟩ w51 ⟨h0_, h1_, h2_, h3_, h4_, h5_, h6_⟩
          have n0_ : Aside0 (Kd.R (Kd.int .i64) 3 w51 w0.heap.size (fun k_ => ((P3_ k_ ∨ P4_ k_) ∨ w.heap.size ≤ k_) ∧ some k_ ≠ (v140 : Value).ownBlock ∧ some k_ ≠ (u3 : Value).ownBlock ∧ some k_ ≠ (u4 : Value).ownBlock) v137 y136) := ⟨h0_⟩
          have n1_ : Aside0 (Kd.R (Kd.int .i64) 3 w51 w0.heap.size (fun k_ => ((P3_ k_ ∨ P4_ k_) ∨ w.heap.size ≤ k_) ∧ some k_ ≠ (v137 : Value).ownBlock ∧ some k_ ≠ (u3 : Value).ownBlock ∧ some k_ ≠ (u4 : Value).ownBlock) v140 y139) := ⟨h1_⟩
          have n2_ : Aside0 (Kd.R (Kd.int .i64) 3 w51 w0.heap.size (fun k_ => ((P3_ k_ ∨ P4_ k_) ∨ w.heap.size ≤ k_) ∧ some k_ ≠ (v137 : Value).ownBlock ∧ some k_ ≠ (v140 : Value).ownBlock ∧ some k_ ≠ (u4 : Value).ownBlock) u3 x3_2) := ⟨h2_⟩
          have n3_ : Aside0 (Kd.R (Kd.int .i64) 3 w51 w0.heap.size (fun k_ => ((P3_ k_ ∨ P4_ k_) ∨ w.heap.size ≤ k_) ∧ some k_ ≠ (v137 : Value).ownBlock ∧ some k_ ≠ (v140 : Value).ownBlock ∧ some k_ ≠ (u3 : Value).ownBlock) u4 x4_2) := ⟨h3_⟩
          have n4_ : Aside0 (w51.heap[gb113]? = some (.cells #[.slice (some ad127) l0_0.length c0_0] 28 (0, 0))) := ⟨h4_⟩
          have n5_ : Aside0 (Kept w w51 (fun k_ => P3_ k_ ∨ P4_ k_)) := ⟨h5_⟩
          have n6_ : Aside0 (Below w0.heap.size w0 w51) := ⟨h6_⟩
          clear HO_3
          clear HO_4
          clear BK113
          clear HK
          clear HB
          clear h0_ h1_ h2_ h3_ h4_ h5_ h6_
          have HO138 := n0_
          have HO141 := n1_
          have HO_3 := n2_
          have HO_4 := n3_
          have BK113 := n4_
          have HK := n5_
          have HB := n6_
          clear n0_ n1_ n2_ n3_ n4_ n5_ n6_
          have hHeld := trivial
          refine norm_ (a' := ?_) ?_ ?_
          rotate_left
          ·simp only [putAll, Act.put, List.setIfInBounds_toArray, List.set_cons_zero, List.set_cons_succ]
           rfl
          refine pure_ (i := 3) (N := some 11) (v := ?_) (a' := ?_) #[true, true, true, true] rfl rfl (by kernel_rfl) (fun _ _ _ h => h) (Or.inl ⟨by rfl, ?_⟩) ?_ ?_
          rotate_left
          ·intro w'
           go_simp
           with_reducible rfl
          rotate_left
          ·simp only [Act.put, List.setIfInBounds_toArray, List.set_cons_zero, List.set_cons_succ, i64_w, i32_w]
           rfl
          refine done_ (by kernel_rfl) ?_
          try go_wp2
          go_ret2
          exact ⟨_, _, z4_, by (with_reducible repeat (first | apply Kd.R_alloc | apply Kd.R_drewN | apply Kd.R_drew)); exact Kd.R_mono HO138.out (fun _ hk => ⟨hk.1, hk.2.1⟩), by (with_reducible repeat (first | apply Kd.R_alloc | apply Kd.R_drewN | apply Kd.R_drew)); exact Kd.R_mono HO141.out (fun _ hk => ⟨hk.1, hk.2.1⟩), z8_, z14_⟩
        ·replace c33 := Bool.eq_false_iff.mpr c33
         subst c33
         replace H := iff_ H
         simp only [Option.some.injEq, Prod.mk.injEq] at H
         obtain ⟨rfl, rfl⟩ := H
         go_wp2
         go_ret2
         exact ⟨_, _, z4_, z19_, z21_, z8_, z14_⟩

end Go.Proofs.Ytdapeboajjidmab.PFnExactDomDelete
