/- Laid by a program of this session out of the kit's print for the law FnExactDomInsert: what it says of the machine is proved here, function by function; each contract under the conditions that it names. -/
import Derived.Test.YtdapeboajjidmabMFnExactDomInsertx0
import Derived.Test.YtdapeboajjidmabMFnExactDomInsertx3
namespace Go.Proofs.Ytdapeboajjidmab.PFnExactDomInsert
open Go.RowKit Go.Proofs.YtdapeboajjidmabW.PrintWords Go.Proofs.YtdapeboajjidmabW.PrintLast Go.Proofs.YtdapeboajjidmabW.PrintMore
attribute [local go_sem] max2_int min2_int max_two min_two max_three min_three max_four min_four   -- for this text's walks alone
set_option linter.unusedVariables false
set_option linter.unusedSimpArgs false

/-! ### spec_l16Walk: function 61 -/
mutual
def spec_l16Walk.j0 : Nat → Int → Int → List Int → List Int → Bool → List (S72) → Option (List Int × List Int)
 | 0, _, _, _, _, _, _ => none
 | k + 1, x1, x2, x3, x4, x28, x153000 => if x28 = true then (if 25 ≤ 35184372088832 then (some ((List.replicate 25 0), (List.replicate 25 0))) else (none)) else (if x3.length < 17592186044416 then (if x4.length < 17592186044416 then (if 0 ≤ x1 then (if x1 < (x153000.length : Int) then (spec_l16Walk.l0 k x2 (x3 ++ [x1]) (x4 ++ [x2]) ((rd_T72 x153000 x1).f3) x153000) else (none)) else (none)) else (none)) else (none))
def spec_l16Walk.l0 : Nat → Int → List Int → List Int → Int → List (S72) → Option (List Int × List Int)
 | 0, _, _, _, _, _ => none
 | k + 1, x2, x3, x4, x12, x153000 => if x12 = (-1) then (spec_l16Walk.j2 k x2 x3 x4 x12 false x153000) else (spec_l16Walk.j2 k x2 x3 x4 x12 (decide ((x3.length : Int) ≤ 24)) x153000)
def spec_l16Walk.j2 : Nat → Int → List Int → List Int → Int → Bool → List (S72) → Option (List Int × List Int)
 | 0, _, _, _, _, _, _ => none
 | k + 1, x2, x3, x4, x12, x51, x153000 => if x51 = true then ((spec_l1In.f x12 0 (wrap64 ((x153000.length : Int) - 1))).bind fun t167 => (if t167 = true then ((spec_l16Walk.f k x153000 x12 (wrap64 (x2 + 1)) x3 x4).bind fun bt168 => (if 0 ≤ x12 then (if x12 < (x153000.length : Int) then (spec_l16Walk.l0 k x2 bt168.1 bt168.2 ((rd_T72 x153000 x12).f6) x153000) else (none)) else (none))) else (if 25 ≤ 35184372088832 then (some ((List.replicate 25 0), (List.replicate 25 0))) else (none)))) else (some (x3, x4))
def spec_l16Walk.f : Nat → List (S72) → Int → Int → List Int → List Int → Option (List Int × List Int)
 | 0, _, _, _, _, _ => none
 | k + 1, l0_0, a1, a2, l3, l4 => if (l3.length : Int) > 24 then (spec_l16Walk.j0 k a1 a2 l3 l4 true l0_0) else (if a2 > 12 then (spec_l16Walk.j0 k a1 a2 l3 l4 true l0_0) else ((spec_l1In.f a1 0 (wrap64 ((l0_0.length : Int) - 1))).bind fun t153 => (spec_l16Walk.j0 k a1 a2 l3 l4 (!t153) l0_0)))
end
set_option maxHeartbeats 8000000 in
set_option maxRecDepth 100000 in
theorem spec_l16Walk.calls (k : Nat) : ∀ (A0_0 : Option Addr) (c0_0 : Nat) (l0_0 : List (S72)) (a1 : Int) (a2 : Int) (P3_ : Nat → Prop) (u9000_ : Value) (l3 : List Int) (P4_ : Nat → Prop) (u9001_ : Value) (l4 : List Int) (r1 : List Int) (r2 : List Int) (w0 w : World) (hB : Below w0.heap.size w0 w) (hr0_0 : ∀ W_, Kept w W_ (fun k_ => P3_ k_ ∨ P4_ k_) → Kd.C k72 W_ A0_0 l0_0.length l0_0) (hc0_0 : l0_0.length ≤ c0_0) (ho3 : Kd.R (Kd.int .i64) 3 w w0.heap.size P3_ u9000_ l3) (hp3_4 : ∀ k_, P3_ k_ → ¬ P4_ k_) (ho4 : Kd.R (Kd.int .i64) 3 w w0.heap.size P4_ u9001_ l4) (hp4_3 : ∀ k_, P4_ k_ → ¬ P3_ k_) (h : spec_l16Walk.f k l0_0 a1 a2 l3 l4 = some (r1, r2)),
  Calls Try.prog 61 #[.agg #[.slice A0_0 l0_0.length c0_0], .int .i64 a1, .int .i64 a2, u9000_, u9001_] w fun e w' => ∃ v0_ v1_ : Value, e = .returned (.tuple #[v0_, v1_]) ∧ Kd.R (Kd.int .i64) 3 w' w0.heap.size (fun k_ => ((P3_ k_ ∨ P4_ k_) ∨ w.heap.size ≤ k_) ∧ some k_ ≠ (v1_ : Value).ownBlock) v0_ r1 ∧ Kd.R (Kd.int .i64) 3 w' w0.heap.size (fun k_ => ((P3_ k_ ∨ P4_ k_) ∨ w.heap.size ≤ k_) ∧ some k_ ≠ (v0_ : Value).ownBlock) v1_ r2 ∧ Below w0.heap.size w0 w' ∧ Kept w w' (fun k_ => P3_ k_ ∨ P4_ k_) := by
 induction k using Nat.strongRecOn with
 | _ k ih =>
 intro A0_0 c0_0 l0_0 a1 a2 P3_ u9000_ l3 P4_ u9001_ l4 r1 r2 w0 w hB hr0_0 hc0_0 ho3 hp3_4 ho4 hp4_3 h
 cases k with
 | zero => exact absurd h (by simp [spec_l16Walk.f])
 | succ k =>
 simp only [spec_l16Walk.f] at h
 have hu28 := Try.underlying28
 have HR0_0 := Aside0.mk hr0_0
 have HC0_0 := Aside0.mk hc0_0
 clear hr0_0 hc0_0
 have HO3 := Aside0.mk (show Kd.R (Kd.int .i64) 3 w w0.heap.size (fun k_ => ((P3_ k_ ∨ P4_ k_) ∨ w.heap.size ≤ k_) ∧ some k_ ≠ (u9001_ : Value).ownBlock) u9000_ l3 from Kd.R_mono ho3 (fun k_ hk => ⟨(.inl (.inl hk)), fun e_ => hp3_4 k_ hk (ho4.1 k_ e_.symm)⟩))
 have HO4 := Aside0.mk (show Kd.R (Kd.int .i64) 3 w w0.heap.size (fun k_ => ((P3_ k_ ∨ P4_ k_) ∨ w.heap.size ≤ k_) ∧ some k_ ≠ (u9000_ : Value).ownBlock) u9001_ l4 from Kd.R_mono ho4 (fun k_ hk => ⟨(.inl (.inr hk)), fun e_ => hp4_3 k_ hk (ho3.1 k_ e_.symm)⟩))
 have HK := Aside0.mk (Kept.refl w (fun k_ => P3_ k_ ∨ P4_ k_))
 have HW0 := Aside0.mk hB.size
 have HB := Aside0.mk hB
 clear hB
 have H : (if (l3.length : Int) > 24 then (spec_l16Walk.j0 k a1 a2 l3 l4 true l0_0) else (if a2 > 12 then (spec_l16Walk.j0 k a1 a2 l3 l4 true l0_0) else ((spec_l1In.f a1 0 (wrap64 ((l0_0.length : Int) - 1))).bind fun t153 => (spec_l16Walk.j0 k a1 a2 l3 l4 (!t153) l0_0)))) = some (r1, r2) := h
 clear h
 have HC6 := Aside0.mk H
 clear H
 go_enter Try.func61, Try.ntmps61
 go_upto_region 1 with (((with_reducible refine gate_dst (N := 5) rfl ?_); (try (refine gate_guard (by rfl) ?_; dsimp only)); refine box_event ?hg (N := 5) ?hd (cs := #[.slice A0_0 l0_0.length c0_0]) (t := 28) ?hr ?_; (case hd => rfl); (case hg => rfl); (case hr => exact z19_); intro gb152 hg w7 hbox hb; replace HO3 := Aside0.mk (Kd.R_below z95_ hb); replace HO4 := Aside0.mk (Kd.R_below z96_ hb); have BK152 := Aside0.mk (hbox); have GW152 := Aside0.mk ((by rw [hg]; exact z112_ : w.heap.size ≤ gb152)); replace HK := Aside0.mk (Kept.below (S := (fun k_ => P3_ k_ ∨ P4_ k_)) z60_ hb); have GE152 := Aside0.mk ((by rw [hg]; exact (below_size z0_) : w0.heap.size ≤ gb152)); replace HB := Aside0.mk (below_step z0_ hb); clear hb hbox hg))
 go_cut [28] (fun v28 wc => ∃ (kq : Nat) (x28_5 : Bool), v28 = .bool x28_5 ∧ Aside0 (spec_l16Walk.j0 kq a1 a2 l3 l4 x28_5 l0_0 = some (r1, r2)) ∧ Aside0 (kq ≤ k) ∧ Aside0 (Kd.R (Kd.int .i64) 3 wc w0.heap.size (fun k_ => ((P3_ k_ ∨ P4_ k_) ∨ w.heap.size ≤ k_) ∧ some k_ ≠ (u9001_ : Value).ownBlock) u9000_ l3) ∧ Aside0 (Kd.R (Kd.int .i64) 3 wc w0.heap.size (fun k_ => ((P3_ k_ ∨ P4_ k_) ∨ w.heap.size ≤ k_) ∧ some k_ ≠ (u9000_ : Value).ownBlock) u9001_ l4) ∧ Aside0 (wc.heap[gb152]? = some (.cells #[(.slice A0_0 l0_0.length c0_0)] 28 (0, 0))) ∧ Aside0 (Kept w wc (fun k_ => P3_ k_ ∨ P4_ k_)) ∧ Aside0 (Below w0.heap.size w0 wc))
 case first =>
  have H := HC6.out
  clear HC6
  by_cases c8 : (l3.length : Int) > 24
  ·rw [if_pos c8] at H
   have c8b0 : decide (24 < (l3.length : Int)) = true := decide_eq_true c8
   have c8b1 : decide (24 < l3.length) = true := decide_eq_true (by omega)
   clear c8
   have H' := Aside0.mk H
   clear H
   obtain ⟨Ao9, co9, eo9⟩ := Kd.R_slice HO3.out
   subst eo9
   go_wp2
   go_meet
   case rel => exact ⟨_, (true), z17_, H', ⟨z124_⟩, ⟨z95_⟩, ⟨z96_⟩, ⟨z47_⟩, ⟨z21_⟩, ⟨z12_⟩⟩
  ·rw [if_neg c8] at H
   have c8b0 : decide (24 < (l3.length : Int)) = false := decide_eq_false c8
   have c8b1 : decide (24 < l3.length) = false := decide_eq_false (by omega)
   clear c8
   by_cases c10 : a2 > 12
   ·rw [if_pos c10] at H
    have c10b0 : decide (12 < a2) = true := decide_eq_true c10
    clear c10
    have H' := Aside0.mk H
    clear H
    obtain ⟨Ao11, co11, eo11⟩ := Kd.R_slice HO3.out
    subst eo11
    go_wp2
    go_meet
    case rel => exact ⟨_, (true), z17_, H', ⟨z124_⟩, ⟨z95_⟩, ⟨z96_⟩, ⟨z47_⟩, ⟨z21_⟩, ⟨z12_⟩⟩
   ·rw [if_neg c10] at H
    have c10b0 : decide (12 < a2) = false := decide_eq_false c10
    clear c10
    obtain ⟨t153, A12, H⟩ := bnd_ H
    have H' := Aside0.mk H
    clear H
    obtain ⟨Ao13, co13, eo13⟩ := Kd.R_slice HO3.out
    subst eo13
    have hcz14_0 : w7.cell? ⟨gb152, 0, none⟩ = some (.slice A0_0 l0_0.length c0_0) := (blk_cell BK152.out 0).trans rfl
    have hfz14_0 := blk_frozen BK152.out 0
    go_wp2_with ((go_at_call 58; (with_reducible refine (spec_l1In.calls a1 0 (wrap64 ((l0_0.length : Int) - 1)) t153 _ A12.out).mono ?_); rintro e w' ⟨rfl, ⟨nd, rfl⟩⟩))
    go_meet
    case rel => exact ⟨_, (!t153), z17_, H', ⟨z124_⟩, ⟨z95_⟩, ⟨z96_⟩, ⟨z47_⟩, ⟨z21_⟩, ⟨z12_⟩⟩
 case rest =>
  clear HC6
  obtain ⟨kq, x28_5, rfl, HA, HJ5, HO_3, HO_4, BK152, HK, HB⟩ := hcut
  cases kq with
  | zero => exact absurd HA.out (by simp [spec_l16Walk.j0])
  | succ kj5 =>
   have H := HA.out
   clear HA
   simp only [spec_l16Walk.j0] at H
   by_cases c15 : x28_5 = true
   ·subst c15
    replace H := ift_ H
    obtain ⟨c16b0, c16b1, H⟩ := ife_ H
    obtain ⟨y154, hy154⟩ : ∃ y_ : List Int, y_ = (List.replicate 25 0) := ⟨_, rfl⟩
    replace H : (some (y154, (List.replicate 25 0))) = some (r1, r2) := by (rw [hy154]; with_reducible exact H)
    have Ny154 := Aside0.mk hy154
    clear hy154
    obtain ⟨y157, hy157⟩ : ∃ y_ : List Int, y_ = (List.replicate 25 0) := ⟨_, rfl⟩
    replace H : (some (y154, y157)) = some (r1, r2) := by (rw [hy157]; with_reducible exact H)
    have Ny157 := Aside0.mk hy157
    clear hy157
    simp only [Option.some.injEq, Prod.mk.injEq] at H
    obtain ⟨rfl, rfl⟩ := H
    try go_wp2
    have n0_ := Aside0.mk (Kd.R_drew HO_3.out)
    have n1_ := Aside0.mk (Kd.R_drew HO_4.out)
    have n2_ := Aside0.mk (blk_drew BK152.out)
    have n3_ := Aside0.mk (Kept.drew HK.out)
    have n4_ := Aside0.mk (below_drew1 HB.out)
    clear HO_3
    clear HO_4
    clear BK152
    clear HK
    clear HB
    have HO_3 := n0_
    have HO_4 := n1_
    have BK152 := n2_
    have HK := n3_
    have HB := n4_
    clear n0_ n1_ n2_ n3_ n4_
    refine start_ (n := 4) (S := fun w' => True) (ds := []) (fl_ 4 0) (by kernel_rfl) rfl (fl_zero _) trivial (fun hHeld => ?_)
    generalize wc.drew = w17 at HO_3 HO_4 BK152 HK HB hHeld ⊢
    refine join_ (σ := Value × Value) 1 #[true, true, true, false] (fun s_ => [(29, s_.1), (30, s_.2), (10, s_.1)]) (fun s_ w' => (Kd.R (Kd.int .i64) 3 w' w0.heap.size (fun k_ => ((P3_ k_ ∨ P4_ k_) ∨ w.heap.size ≤ k_) ∧ some k_ ≠ (s_.2 : Value).ownBlock ∧ some k_ ≠ (u9000_ : Value).ownBlock ∧ some k_ ≠ (u9001_ : Value).ownBlock) s_.1 y154) ∧ (Kd.R (Kd.int .i64) 3 w' w0.heap.size (fun k_ => ((P3_ k_ ∨ P4_ k_) ∨ w.heap.size ≤ k_) ∧ some k_ ≠ (s_.1 : Value).ownBlock ∧ some k_ ≠ (u9000_ : Value).ownBlock ∧ some k_ ≠ (u9001_ : Value).ownBlock) s_.2 y157) ∧ (Kd.R (Kd.int .i64) 3 w' w0.heap.size (fun k_ => ((P3_ k_ ∨ P4_ k_) ∨ w.heap.size ≤ k_) ∧ some k_ ≠ (s_.1 : Value).ownBlock ∧ some k_ ≠ (s_.2 : Value).ownBlock ∧ some k_ ≠ (u9001_ : Value).ownBlock) u9000_ l3) ∧ (Kd.R (Kd.int .i64) 3 w' w0.heap.size (fun k_ => ((P3_ k_ ∨ P4_ k_) ∨ w.heap.size ≤ k_) ∧ some k_ ≠ (s_.1 : Value).ownBlock ∧ some k_ ≠ (s_.2 : Value).ownBlock ∧ some k_ ≠ (u9000_ : Value).ownBlock) u9001_ l4) ∧ (w'.heap[gb152]? = some (.cells #[.slice A0_0 l0_0.length c0_0] 28 (0, 0))) ∧ (Kept w w' (fun k_ => P3_ k_ ∨ P4_ k_)) ∧ (Below w0.heap.size w0 w')) ?_ ?_
    rotate_left
    ·intro hCont
     refine two_ (i := 0) (j := 1) (Ni := some 29) (Nj := some 30) #[true, false, false, false] #[false, true, false, false] rfl rfl rfl rfl (by kernel_rfl) (by decide) (by decide) (fun K hK => ?_) (fun K hK => ?_)
     ·skip
      refine Kd.R_make_step (Kd.int .i64) _ 3 (by rfl) (N := 29) rfl 49 _ _ rfl 25 rfl rfl Try.underlying49 (.int .i64 0) 8 info3 rfl (by decide) (by omega) 0 (ok := fun _ => True) (okp := fun _ => True) rfl (fun _ hk => hk) trivial (by omega) (by omega) (Below.refl _ _) (Nat.le_refl _) ?_
      intro v155 w18 ho19 hb hg_ hnew_
      clear hg_ hnew_
      ((simp only [Int.reduceToNat] at ho19; rw [← Ny154.out] at ho19))
      have n0_ := Aside0.mk (Kd.R_elder' z25_ (Kd.R_base ho19) hb)
      have n1_ := Aside0.mk (Kd.R_elder' z28_ (Kd.R_base ho19) hb)
      have n2_ := Aside0.mk (Kd.R_lower (Kd.R_new' (Kd.R_new' (Kd.R_newM (M := fun k_ => ((P3_ k_ ∨ P4_ k_) ∨ w.heap.size ≤ k_)) ho19 z40_ (fun k_ h_ => .inr h_)) (Kd.R_lt z25_)) (Kd.R_lt z28_)) (below_size z12_))
      have n3_ := Aside0.mk (blk_below (g := gb152) (o := .cells #[.slice A0_0 l0_0.length c0_0] 28 (0, 0)) z47_ hb)
      have n4_ := Aside0.mk (Kept.below (S := (fun k_ => P3_ k_ ∨ P4_ k_)) z21_ hb)
      have n5_ := Aside0.mk (below_step z12_ hb)
      clear HO_3
      clear HO_4
      clear BK152
      clear HK
      clear HB
      have HO_3 := n0_
      have HO_4 := n1_
      have HO156 := n2_
      have BK152 := n3_
      have HK := n4_
      have HB := n5_
      clear n0_ n1_ n2_ n3_ n4_ n5_
      clear hb ho19
      refine hK.out _ _ trivial (fun hHeld => ?_)
      clear hK K
      refine zn_ rfl ?_
      refine pure_ (i := 2) (N := some 10) (v := ?_) (a' := ?_) #[true, false, true, false] rfl rfl (by kernel_rfl) (fun _ _ _ h => h) (Or.inl ⟨by rfl, ?_⟩) ?_ ?_
      rotate_left
      ·intro w'
       go_simp
       with_reducible rfl
      rotate_left
      ·simp only [Act.put, List.setIfInBounds_toArray, List.set_cons_zero, List.set_cons_succ, i64_w, i32_w]
       rfl
      refine one_ (i := 1) (N := some 30) (fl_ 4 3) rfl rfl (by kernel_rfl) (by decide) (fun K hK => ?_)
      refine Kd.R_make_step (Kd.int .i64) _ 3 (by rfl) (N := 30) rfl 49 _ _ rfl 25 rfl rfl Try.underlying49 (.int .i64 0) 8 info3 rfl (by decide) (by omega) 0 (ok := fun _ => True) (okp := fun _ => True) rfl (fun _ hk => hk) trivial (by omega) (by omega) (Below.refl _ _) (Nat.le_refl _) ?_
      intro v158 w20 ho21 hb hg_ hnew_
      clear hg_ hnew_
      ((simp only [Int.reduceToNat] at ho21; rw [← Ny157.out] at ho21))
      have n0_ := Aside0.mk (Kd.R_elder' z25_ (Kd.R_base ho21) hb)
      have n1_ := Aside0.mk (Kd.R_elder' z28_ (Kd.R_base ho21) hb)
      have n2_ := Aside0.mk (Kd.R_elder' z282_ (Kd.R_base ho21) hb)
      have n3_ := Aside0.mk (Kd.R_lower (Kd.R_new' (Kd.R_new' (Kd.R_new' (Kd.R_newM (M := fun k_ => ((P3_ k_ ∨ P4_ k_) ∨ w.heap.size ≤ k_)) ho21 z40_ (fun k_ h_ => .inr h_)) (Kd.R_lt z25_)) (Kd.R_lt z28_)) (Kd.R_lt z282_)) (below_size z12_))
      have n4_ := Aside0.mk (blk_below (g := gb152) (o := .cells #[.slice A0_0 l0_0.length c0_0] 28 (0, 0)) z47_ hb)
      have n5_ := Aside0.mk (Kept.below (S := (fun k_ => P3_ k_ ∨ P4_ k_)) z21_ hb)
      have n6_ := Aside0.mk (below_step z12_ hb)
      clear HO_3
      clear HO_4
      clear HO156
      clear BK152
      clear HK
      clear HB
      have HO_3 := n0_
      have HO_4 := n1_
      have HO156 := n2_
      have HO159 := n3_
      have BK152 := n4_
      have HK := n5_
      have HB := n6_
      clear n0_ n1_ n2_ n3_ n4_ n5_ n6_
      clear hb ho21
      refine hK.out _ _ trivial (fun hHeld => ?_)
      clear hK K
      refine zn_ rfl ?_
      exact norm_ z106_ (hCont (v155, v158) _ ⟨z218_, z219_, z222_, z223_, z47_, z21_, z12_⟩)
     ·skip
      refine Kd.R_make_step (Kd.int .i64) _ 3 (by rfl) (N := 30) rfl 49 _ _ rfl 25 rfl rfl Try.underlying49 (.int .i64 0) 8 info3 rfl (by decide) (by omega) 0 (ok := fun _ => True) (okp := fun _ => True) rfl (fun _ hk => hk) trivial (by omega) (by omega) (Below.refl _ _) (Nat.le_refl _) ?_
      intro v158 w18 ho19 hb hg_ hnew_
      clear hg_ hnew_
      ((simp only [Int.reduceToNat] at ho19; rw [← Ny157.out] at ho19))
      have n0_ := Aside0.mk (Kd.R_elder' z25_ (Kd.R_base ho19) hb)
      have n1_ := Aside0.mk (Kd.R_elder' z28_ (Kd.R_base ho19) hb)
      have n2_ := Aside0.mk (Kd.R_lower (Kd.R_new' (Kd.R_new' (Kd.R_newM (M := fun k_ => ((P3_ k_ ∨ P4_ k_) ∨ w.heap.size ≤ k_)) ho19 z40_ (fun k_ h_ => .inr h_)) (Kd.R_lt z25_)) (Kd.R_lt z28_)) (below_size z12_))
      have n3_ := Aside0.mk (blk_below (g := gb152) (o := .cells #[.slice A0_0 l0_0.length c0_0] 28 (0, 0)) z47_ hb)
      have n4_ := Aside0.mk (Kept.below (S := (fun k_ => P3_ k_ ∨ P4_ k_)) z21_ hb)
      have n5_ := Aside0.mk (below_step z12_ hb)
      clear HO_3
      clear HO_4
      clear BK152
      clear HK
      clear HB
      have HO_3 := n0_
      have HO_4 := n1_
      have HO159 := n2_
      have BK152 := n3_
      have HK := n4_
      have HB := n5_
      clear n0_ n1_ n2_ n3_ n4_ n5_
      clear hb ho19
      refine hK.out _ _ trivial (fun hHeld => ?_)
      clear hK K
      refine zn_ rfl ?_
      refine one_ (i := 0) (N := some 29) (fl_ 4 2) rfl rfl (by kernel_rfl) (by decide) (fun K hK => ?_)
      refine Kd.R_make_step (Kd.int .i64) _ 3 (by rfl) (N := 29) rfl 49 _ _ rfl 25 rfl rfl Try.underlying49 (.int .i64 0) 8 info3 rfl (by decide) (by omega) 0 (ok := fun _ => True) (okp := fun _ => True) rfl (fun _ hk => hk) trivial (by omega) (by omega) (Below.refl _ _) (Nat.le_refl _) ?_
      intro v155 w20 ho21 hb hg_ hnew_
      clear hg_ hnew_
      ((simp only [Int.reduceToNat] at ho21; rw [← Ny154.out] at ho21))
      have n0_ := Aside0.mk (Kd.R_elder' z25_ (Kd.R_base ho21) hb)
      have n1_ := Aside0.mk (Kd.R_elder' z28_ (Kd.R_base ho21) hb)
      have n2_ := Aside0.mk (Kd.R_elder' z283_ (Kd.R_base ho21) hb)
      have n3_ := Aside0.mk (Kd.R_lower (Kd.R_new' (Kd.R_new' (Kd.R_new' (Kd.R_newM (M := fun k_ => ((P3_ k_ ∨ P4_ k_) ∨ w.heap.size ≤ k_)) ho21 z40_ (fun k_ h_ => .inr h_)) (Kd.R_lt z25_)) (Kd.R_lt z28_)) (Kd.R_lt z283_)) (below_size z12_))
      have n4_ := Aside0.mk (blk_below (g := gb152) (o := .cells #[.slice A0_0 l0_0.length c0_0] 28 (0, 0)) z47_ hb)
      have n5_ := Aside0.mk (Kept.below (S := (fun k_ => P3_ k_ ∨ P4_ k_)) z21_ hb)
      have n6_ := Aside0.mk (below_step z12_ hb)
      clear HO_3
      clear HO_4
      clear HO159
      clear BK152
      clear HK
      clear HB
      have HO_3 := n0_
      have HO_4 := n1_
      have HO159 := n2_
      have HO156 := n3_
      have BK152 := n4_
      have HK := n5_
      have HB := n6_
      clear n0_ n1_ n2_ n3_ n4_ n5_ n6_
      clear hb ho21
      refine hK.out _ _ trivial (fun hHeld => ?_)
      clear hK K
      refine zn_ rfl ?_
      refine pure_ (i := 2) (N := some 10) (v := ?_) (a' := ?_) #[true, true, true, false] rfl rfl (by kernel_rfl) (fun _ _ _ h => h) (Or.inl ⟨by rfl, ?_⟩) ?_ ?_
      rotate_left
      ·intro w'
       go_simp
       with_reducible rfl
      rotate_left
      ·simp only [Act.put, List.setIfInBounds_toArray, List.set_cons_zero, List.set_cons_succ, i64_w, i32_w]
       rfl
      exact norm_ z106_ (hCont (v155, v158) _ ⟨z218_, z219_, z224_, z225_, z47_, z21_, z12_⟩)
    rintro ⟨v155, v158⟩ w22 ⟨h0_, h1_, h2_, h3_, h4_, h5_, h6_⟩
    have n0_ : Aside0 (Kd.R (Kd.int .i64) 3 w22 w0.heap.size (fun k_ => ((P3_ k_ ∨ P4_ k_) ∨ w.heap.size ≤ k_) ∧ some k_ ≠ (v158 : Value).ownBlock ∧ some k_ ≠ (u9000_ : Value).ownBlock ∧ some k_ ≠ (u9001_ : Value).ownBlock) v155 y154) := ⟨h0_⟩
    have n1_ : Aside0 (Kd.R (Kd.int .i64) 3 w22 w0.heap.size (fun k_ => ((P3_ k_ ∨ P4_ k_) ∨ w.heap.size ≤ k_) ∧ some k_ ≠ (v155 : Value).ownBlock ∧ some k_ ≠ (u9000_ : Value).ownBlock ∧ some k_ ≠ (u9001_ : Value).ownBlock) v158 y157) := ⟨h1_⟩
    have n2_ : Aside0 (Kd.R (Kd.int .i64) 3 w22 w0.heap.size (fun k_ => ((P3_ k_ ∨ P4_ k_) ∨ w.heap.size ≤ k_) ∧ some k_ ≠ (v155 : Value).ownBlock ∧ some k_ ≠ (v158 : Value).ownBlock ∧ some k_ ≠ (u9001_ : Value).ownBlock) u9000_ l3) := ⟨h2_⟩
    have n3_ : Aside0 (Kd.R (Kd.int .i64) 3 w22 w0.heap.size (fun k_ => ((P3_ k_ ∨ P4_ k_) ∨ w.heap.size ≤ k_) ∧ some k_ ≠ (v155 : Value).ownBlock ∧ some k_ ≠ (v158 : Value).ownBlock ∧ some k_ ≠ (u9000_ : Value).ownBlock) u9001_ l4) := ⟨h3_⟩
    have n4_ : Aside0 (w22.heap[gb152]? = some (.cells #[.slice A0_0 l0_0.length c0_0] 28 (0, 0))) := ⟨h4_⟩
    have n5_ : Aside0 (Kept w w22 (fun k_ => P3_ k_ ∨ P4_ k_)) := ⟨h5_⟩
    have n6_ : Aside0 (Below w0.heap.size w0 w22) := ⟨h6_⟩
    clear HO_3
    clear HO_4
    clear BK152
    clear HK
    clear HB
    clear h0_ h1_ h2_ h3_ h4_ h5_ h6_
    have HO156 := n0_
    have HO159 := n1_
    have HO_3 := n2_
    have HO_4 := n3_
    have BK152 := n4_
    have HK := n5_
    have HB := n6_
    clear n0_ n1_ n2_ n3_ n4_ n5_ n6_
    have hHeld := trivial
    refine norm_ (a' := ?_) ?_ ?_
    rotate_left
    ·simp only [putAll, Act.put, List.setIfInBounds_toArray, List.set_cons_zero, List.set_cons_succ]
     rfl
    refine pure_ (i := 3) (N := some 11) (v := ?_) (a' := ?_) #[true, true, true, true] rfl rfl (by kernel_rfl) (fun _ _ _ h => h) (Or.inl ⟨by rfl, ?_⟩) ?_ ?_
    rotate_left
    ·intro w'
     go_simp
     with_reducible rfl
    rotate_left
    ·simp only [Act.put, List.setIfInBounds_toArray, List.set_cons_zero, List.set_cons_succ, i64_w, i32_w]
     rfl
    refine done_ (by kernel_rfl) ?_
    try go_wp2
    go_ret2
    exact ⟨_, _, z4_, by exact Kd.R_mono HO156.out (fun _ hk => ⟨hk.1, hk.2.1⟩), by exact Kd.R_mono HO159.out (fun _ hk => ⟨hk.1, hk.2.1⟩), z12_, z21_⟩
   ·replace c15 := Bool.eq_false_iff.mpr c15
    subst c15
    replace H := iff_ H
    obtain ⟨c23, H⟩ := ifs_ H
    have LMc23 := Aside0.mk c23
    clear c23
    obtain ⟨y160, hy160⟩ : ∃ y_ : List Int, y_ = (l3 ++ [a1]) := ⟨_, rfl⟩
    replace H : (if l4.length < 17592186044416 then (if 0 ≤ a1 then (if a1 < (l0_0.length : Int) then (spec_l16Walk.l0 kj5 a2 y160 (l4 ++ [a2]) ((rd_T72 l0_0 a1).f3) l0_0) else (none)) else (none)) else (none)) = some (r1, r2) := by (rw [hy160]; with_reducible exact H)
    have Ny160 := Aside0.mk hy160
    clear hy160
    obtain ⟨c24, H⟩ := ifs_ H
    have LMc24 := Aside0.mk c24
    clear c24
    obtain ⟨y163, hy163⟩ : ∃ y_ : List Int, y_ = (l4 ++ [a2]) := ⟨_, rfl⟩
    replace H : (if 0 ≤ a1 then (if a1 < (l0_0.length : Int) then (spec_l16Walk.l0 kj5 a2 y160 y163 ((rd_T72 l0_0 a1).f3) l0_0) else (none)) else (none)) = some (r1, r2) := by (rw [hy163]; with_reducible exact H)
    have Ny163 := Aside0.mk hy163
    clear hy163
    obtain ⟨c25b0, H⟩ := ifd_ H
    obtain ⟨c26b0, H⟩ := ifd_ H
    have H' := Aside0.mk H
    clear H
    go_wp2_with (first | ((with_reducible refine gate_builtin (b := .append) (xs := #[.tmp 31, .tmp 33]) rfl ?_); (try (refine gate_guard (by rfl) ?_; dsimp only)); at_builtin; refine Kd.R_append (Kd.int .i64) (w0 := w0) w0.heap.size rfl (.tmp 31) (.tmp 33) 49 3 (.int .i64 0) 8 rfl Try.underlying49 info3 rfl (by decide) (by omega) u9000_ l3 a1 [.int .i64 a1] (fun k_ => ((P3_ k_ ∨ P4_ k_) ∨ w.heap.size ≤ k_) ∧ some k_ ≠ (u9001_ : Value).ownBlock) (fun _ => False) rfl rfl ?aP (fun _ hk => hk.elim) ?aF ?aO ?aB ?aS ?aL ?_; (case aP => exact rfl); (case aB => exact z212_); (case aF => exact (fun k_ hk => ⟨(.inr (Nat.le_trans z40_ hk)), Kd.fresh' (Kd.R_lt z28_) k_ hk⟩)); (case aO => exact z189_); (case aS => exact z204_); (case aL => have := LMc23.out; omega); intro v161 w27 ho hb hg hat; rw [← Ny160.out] at ho; replace HO_4 := Aside0.mk (Kd.R_after (ok := (fun k_ => ((P3_ k_ ∨ P4_ k_) ∨ w.heap.size ≤ k_))) z28_ hg hat); replace BK152 := Aside0.mk (blk_grown (g := gb152) (o := .cells #[.slice A0_0 l0_0.length c0_0] 28 (0, 0)) z47_ hg (Kd.R_ne HO_3.out BK152.out (by decide))); replace HB := Aside0.mk (hb); replace HK := Aside0.mk (Kept.of_grown (S := (fun k_ => P3_ k_ ∨ P4_ k_)) hg z21_ (fun k_ e_ => (HO_3.out.1 k_ e_).1)); have HO162 := Aside0.mk (ho); clear HO_3; clear ho hb hg hat) | ((with_reducible refine gate_builtin (b := .append) (xs := #[.tmp 35, .tmp 37]) rfl ?_); (try (refine gate_guard (by rfl) ?_; dsimp only)); at_builtin; refine Kd.R_append (Kd.int .i64) (w0 := w0) w0.heap.size rfl (.tmp 35) (.tmp 37) 49 3 (.int .i64 0) 8 rfl Try.underlying49 info3 rfl (by decide) (by omega) u9001_ l4 a2 [.int .i64 a2] (fun k_ => ((P3_ k_ ∨ P4_ k_) ∨ w.heap.size ≤ k_) ∧ some k_ ≠ (v161 : Value).ownBlock) (fun _ => False) rfl rfl ?aP (fun _ hk => hk.elim) ?aF ?aO ?aB ?aS ?aL ?_; (case aP => exact rfl); (case aB => exact z212_); (case aF => exact (fun k_ hk => ⟨(.inr (Nat.le_trans z40_ hk)), Kd.fresh' (Kd.R_lt z231_) k_ hk⟩)); (case aO => exact z190_); (case aS => exact z204_); (case aL => have := LMc24.out; omega); intro v164 w28 ho hb hg hat; rw [← Ny163.out] at ho; replace BK152 := Aside0.mk (blk_grown (g := gb152) (o := .cells #[.slice A0_0 l0_0.length c0_0] 28 (0, 0)) z47_ hg (Kd.R_ne HO_4.out BK152.out (by decide))); replace HO162 := Aside0.mk (Kd.R_after (ok := (fun k_ => ((P3_ k_ ∨ P4_ k_) ∨ w.heap.size ≤ k_))) z231_ hg hat); replace HB := Aside0.mk (hb); replace HK := Aside0.mk (Kept.of_grown (S := (fun k_ => P3_ k_ ∨ P4_ k_)) hg z21_ (fun k_ e_ => (HO_4.out.1 k_ e_).1)); have HO165 := Aside0.mk (ho); clear HO_4; clear ho hb hg hat; have hcz29_0 : w28.cell? ⟨gb152, 0, none⟩ = some (.slice A0_0 l0_0.length c0_0) := (blk_cell BK152.out 0).trans rfl; have hfz29_0 := blk_frozen BK152.out 0; have p166 : 0 ≤ (a1 : Int) := odt_; have q166 : a1 < (l0_0.length : Int) := odt_; obtain ⟨ad166, e166, hx166_0, hx166_1, hx166_2, hx166_3, hx166_4, hx166_5, hx166_6⟩ := at_T72 (Kd.C_kept_now HR0_0.out HK.out) a1 p166 q166; cases e166; replace p166 := eq_true p166; replace q166 := eq_true q166))
    go_loopg [3, 4, 12] kj5 (fun kq v3 v4 v12 w' => ∃ (x3_2 : List Int) (x4_2 : List Int) (x12_2 : Int), v12 = .int .i64 x12_2 ∧ Aside0 (spec_l16Walk.l0 kq a2 x3_2 x4_2 x12_2 l0_0 = some (r1, r2)) ∧ Aside0 (kq ≤ kj5) ∧ Aside0 (Kd.R (Kd.int .i64) 3 w' w0.heap.size (fun k_ => ((P3_ k_ ∨ P4_ k_) ∨ w.heap.size ≤ k_) ∧ some k_ ≠ (v4 : Value).ownBlock) v3 x3_2) ∧ Aside0 (Kd.R (Kd.int .i64) 3 w' w0.heap.size (fun k_ => ((P3_ k_ ∨ P4_ k_) ∨ w.heap.size ≤ k_) ∧ some k_ ≠ (v3 : Value).ownBlock) v4 x4_2) ∧ Aside0 (w'.heap[gb152]? = some (.cells #[(.slice (some ad166) l0_0.length c0_0)] 28 (0, 0))) ∧ Aside0 (Kept w w' (fun k_ => P3_ k_ ∨ P4_ k_)) ∧ Aside0 (Below w0.heap.size w0 w'))
    case atStart => exact ⟨(y160), (y163), ((rd_T72 l0_0 a1).f3), z17_, H', ⟨Nat.le_refl _⟩, ⟨z231_⟩, ⟨by exact HO165.out⟩, ⟨z47_⟩, ⟨z21_⟩, ⟨z12_⟩⟩
    case round =>
     clear H' c25b0 c26b0 hcz29_0 hfz29_0 hx166_0 hx166_1 hx166_2 hx166_3 hx166_4 hx166_5 hx166_6 p166 q166
     obtain ⟨x3_2, x4_2, x12_2, rfl, HA, HK2, HO_3, HO_4, BK152, HK, HB⟩ := hrel
     cases gk with
     | zero => exact absurd HA.out (by simp [spec_l16Walk.l0])
     | succ k2 =>
      have H := HA.out
      clear HA
      simp only [spec_l16Walk.l0] at H
      have HC30 := Aside0.mk H
      clear H
      go_upto_region 6 with (fail)
      go_cut [51] (fun v51 wc => ∃ (kq : Nat) (x51_29 : Bool), v51 = .bool x51_29 ∧ Aside0 (spec_l16Walk.j2 kq a2 x3_2 x4_2 x12_2 x51_29 l0_0 = some (r1, r2)) ∧ Aside0 (kq ≤ k2) ∧ Aside0 (Kd.R (Kd.int .i64) 3 wc w0.heap.size (fun k_ => ((P3_ k_ ∨ P4_ k_) ∨ w.heap.size ≤ k_) ∧ some k_ ≠ (u4 : Value).ownBlock) u3 x3_2) ∧ Aside0 (Kd.R (Kd.int .i64) 3 wc w0.heap.size (fun k_ => ((P3_ k_ ∨ P4_ k_) ∨ w.heap.size ≤ k_) ∧ some k_ ≠ (u3 : Value).ownBlock) u4 x4_2) ∧ Aside0 (wc.heap[gb152]? = some (.cells #[(.slice (some ad166) l0_0.length c0_0)] 28 (0, 0))) ∧ Aside0 (Kept w wc (fun k_ => P3_ k_ ∨ P4_ k_)) ∧ Aside0 (Below w0.heap.size w0 wc))
      case first =>
       have H := HC30.out
       clear HC30
       by_cases c31 : x12_2 = (-1)
       ·rw [if_pos c31] at H
        have c31b0 : (x12_2 == (-1)) = true := beq_iff_eq.mpr c31
        have c31b1 : (x12_2 != (-1)) = false := bne_eq_false_iff_eq.mpr c31
        clear c31
        have H' := Aside0.mk H
        clear H
        go_wp2
        go_meet
        case rel => exact ⟨_, (false), z17_, H', ⟨by have := HJ5.out; have := HK2.out; omega⟩, ⟨z25_⟩, ⟨z28_⟩, ⟨z47_⟩, ⟨z21_⟩, ⟨z12_⟩⟩
       ·rw [if_neg c31] at H
        have c31b0 : (x12_2 == (-1)) = false := beq_eq_false_iff_ne.mpr c31
        have c31b1 : (x12_2 != (-1)) = true := bne_iff_ne.mpr c31
        have H' := Aside0.mk H
        clear H
        obtain ⟨Ao32, co32, eo32⟩ := Kd.R_slice HO_3.out
        subst eo32
        go_wp2
        go_meet
        case rel => exact ⟨_, (decide ((x3_2.length : Int) ≤ 24)), z17_, H', ⟨by have := HJ5.out; have := HK2.out; omega⟩, ⟨z25_⟩, ⟨z28_⟩, ⟨z47_⟩, ⟨z21_⟩, ⟨z12_⟩⟩
      case rest =>
       clear HC30
       obtain ⟨kq, x51_29, rfl, HA, HJ29, HO_3, HO_4, BK152, HK, HB⟩ := hcut
       cases kq with
       | zero => exact absurd HA.out (by simp [spec_l16Walk.j2])
       | succ kj29 =>
        have H := HA.out
        clear HA
        simp only [spec_l16Walk.j2] at H
        by_cases c33 : x51_29 = true
        ·subst c33
         replace H := ift_ H
         obtain ⟨t167, A34, H⟩ := bnd_ H
         by_cases c35 : t167 = true
         ·subst c35
          replace H := ift_ H
          replace H := Option.bind_eq_some_iff.mp H
          obtain ⟨⟨t168, t171⟩, A360, H⟩ := H
          replace H : (if 0 ≤ x12_2 then (if x12_2 < (l0_0.length : Int) then (spec_l16Walk.l0 kj29 a2 t168 t171 ((rd_T72 l0_0 x12_2).f6) l0_0) else (none)) else (none)) = some (r1, r2) := H
          have A36 := Aside0.mk A360
          clear A360
          obtain ⟨c37b0, H⟩ := ifd_ H
          obtain ⟨c38b0, H⟩ := ifd_ H
          have H' := Aside0.mk H
          clear H
          have hcz39_0 : wc.cell? ⟨gb152, 0, none⟩ = some (.slice (some ad166) l0_0.length c0_0) := (blk_cell BK152.out 0).trans rfl
          have hfz39_0 := blk_frozen BK152.out 0
          go_wp2_with (first | ((with_reducible refine gate_callee (f := 58) rfl ?_); refine goesL_ (some 57) rfl rfl Try.func58 (by kernel_rfl) rfl #[.int .i64 x12_2, .int .i64 0, .int .i64 (wrap64 ((l0_0.length : Int) - 1))] rfl z2_ ?_; (with_reducible refine (spec_l1In.calls x12_2 0 (wrap64 ((l0_0.length : Int) - 1)) true _ A34.out).mono ?_); rintro e w' ⟨rfl, ⟨nd, rfl⟩⟩; refine ⟨_, rfl, ?_⟩; obtain ⟨Ao40, co40, eo40⟩ := Kd.R_slice HO_3.out; subst eo40; obtain ⟨Ao41, co41, eo41⟩ := Kd.R_slice HO_4.out; subst eo41) | ((with_reducible refine gate_callee (f := 61) rfl ?_); refine goesL_ (some 68) rfl rfl Try.func61 (by kernel_rfl) rfl #[.agg #[.slice (some ad166) l0_0.length c0_0], .int .i64 x12_2, .int .i64 (wrap64 (a2 + 1)), .slice Ao40 x3_2.length co40, .slice Ao41 x4_2.length co41] rfl z2_ ?_; (with_reducible refine (ih kj29 (by have := HJ5.out; have := HK2.out; have := HJ29.out; omega) _ _ l0_0 x12_2 (wrap64 (a2 + 1)) (fun k_ => some k_ = (.slice Ao40 x3_2.length co40 : Value).ownBlock) (.slice Ao40 x3_2.length co40) x3_2 (fun k_ => some k_ = (.slice Ao41 x4_2.length co41 : Value).ownBlock) (.slice Ao41 x4_2.length co41) x4_2 t168 t171 w0 _ ?side1 ?side2 ?side3 ?side4 ?side5 ?side6 ?side7 A36.out).mono ?_); (case side1 => exact z12_); (case side2 => exact Kd.C_kept_call HR0_0.out z21_ (fun k_ hs_ => Or.elim hs_ (fun e_ => (fun e_ => (HO_3.out.1 k_ e_.symm).1) e_) (fun e_ => (fun e_ => (HO_4.out.1 k_ e_.symm).1) e_))); (case side3 => exact HC0_0.out); (case side4 => exact z294_); (case side5 => exact fun k_ e_ => (HO_3.out.1 k_ e_.symm).2); (case side6 => exact z295_); (case side7 => exact fun k_ e_ => (HO_4.out.1 k_ e_.symm).2); rintro e w42 ⟨v169, v172, rfl, ho0, ho1, hb, hkp⟩; refine ⟨_, rfl, ?_⟩; replace BK152 := Aside0.mk (blk_kept z47_ hkp (fun hs_ => Or.elim hs_ (fun e_ => (fun e_ => (Kd.R_ne HO_3.out BK152.out (by decide)) e_) e_) (fun e_ => (fun e_ => (Kd.R_ne HO_4.out BK152.out (by decide)) e_) e_))); have HO170 := Aside0.mk (Kd.R_mono (ok' := fun k_ => ((P3_ k_ ∨ P4_ k_) ∨ w.heap.size ≤ k_) ∧ some k_ ≠ (v172 : Value).ownBlock) ho0 (fun k_ hk_ => ⟨Or.elim hk_.1 (fun hs_ => Or.elim hs_ (fun hs_ => (HO_3.out.1 k_ (hs_).symm).1) (fun hs_ => (HO_4.out.1 k_ (hs_).symm).1)) (fun hn_ => (.inr (Nat.le_trans z40_ hn_))), hk_.2⟩)); have HO173 := Aside0.mk (Kd.R_mono (ok' := fun k_ => ((P3_ k_ ∨ P4_ k_) ∨ w.heap.size ≤ k_) ∧ some k_ ≠ (v169 : Value).ownBlock) ho1 (fun k_ hk_ => ⟨Or.elim hk_.1 (fun hs_ => Or.elim hs_ (fun hs_ => (HO_3.out.1 k_ (hs_).symm).1) (fun hs_ => (HO_4.out.1 k_ (hs_).symm).1)) (fun hn_ => (.inr (Nat.le_trans z40_ hn_))), hk_.2⟩)); replace HK := Aside0.mk (Kept.then_ (S := (fun k_ => P3_ k_ ∨ P4_ k_)) z21_ hkp (fun k_ hs_ => Or.elim hs_ (fun e_ => (fun e_ => (HO_3.out.1 k_ e_.symm).1) e_) (fun e_ => (fun e_ => (HO_4.out.1 k_ e_.symm).1) e_))); replace HB := Aside0.mk (hb); clear HO_3 HO_4; (try clear hb hkp ho0 ho1); have hcz43_0 : w42.cell? ⟨gb152, 0, none⟩ = some (.slice (some ad166) l0_0.length c0_0) := (blk_cell BK152.out 0).trans rfl; have hfz43_0 := blk_frozen BK152.out 0; have p174 : 0 ≤ (x12_2 : Int) := odt_; have q174 : x12_2 < (l0_0.length : Int) := odt_; obtain ⟨ad174, e174, hx174_0, hx174_1, hx174_2, hx174_3, hx174_4, hx174_5, hx174_6⟩ := at_T72 (Kd.C_kept_now HR0_0.out HK.out) x12_2 p174 q174; obtain rfl : ad166 = ad174 := (by injection e174); replace p174 := eq_true p174; replace q174 := eq_true q174))
          go_roundg kj29
          case measure => have := HJ5.out; have := HK2.out; have := HJ29.out; omega
          case rel => exact ⟨(t168), (t171), ((rd_T72 l0_0 x12_2).f6), z17_, H', ⟨by have := HJ5.out; have := HK2.out; have := HJ29.out; omega⟩, ⟨by exact HO170.out⟩, ⟨by exact HO173.out⟩, ⟨z47_⟩, ⟨z21_⟩, ⟨z12_⟩⟩
         ·replace c35 := Bool.eq_false_iff.mpr c35
          subst c35
          replace H := iff_ H
          obtain ⟨c44b0, c44b1, H⟩ := ife_ H
          obtain ⟨y175, hy175⟩ : ∃ y_ : List Int, y_ = (List.replicate 25 0) := ⟨_, rfl⟩
          replace H : (some (y175, (List.replicate 25 0))) = some (r1, r2) := by (rw [hy175]; with_reducible exact H)
          have Ny175 := Aside0.mk hy175
          clear hy175
          obtain ⟨y178, hy178⟩ : ∃ y_ : List Int, y_ = (List.replicate 25 0) := ⟨_, rfl⟩
          replace H : (some (y175, y178)) = some (r1, r2) := by (rw [hy178]; with_reducible exact H)
          have Ny178 := Aside0.mk hy178
          clear hy178
          simp only [Option.some.injEq, Prod.mk.injEq] at H
          obtain ⟨rfl, rfl⟩ := H
          have hcz45_0 : wc.cell? ⟨gb152, 0, none⟩ = some (.slice (some ad166) l0_0.length c0_0) := (blk_cell BK152.out 0).trans rfl
          have hfz45_0 := blk_frozen BK152.out 0
          try go_wp2_with (((with_reducible refine gate_callee (f := 58) rfl ?_); refine goesL_ (some 57) rfl rfl Try.func58 (by kernel_rfl) rfl #[.int .i64 x12_2, .int .i64 0, .int .i64 (wrap64 ((l0_0.length : Int) - 1))] rfl z2_ ?_; (with_reducible refine (spec_l1In.calls x12_2 0 (wrap64 ((l0_0.length : Int) - 1)) false _ A34.out).mono ?_); rintro e w' ⟨rfl, ⟨nd, rfl⟩⟩; refine ⟨_, rfl, ?_⟩))
          (try (rw [drewN_self wc]; generalize hq_ : World.drewN wc _ = wc; have n0_ : Aside0 (Kd.R (Kd.int .i64) 3 wc w0.heap.size (fun k_ => ((P3_ k_ ∨ P4_ k_) ∨ w.heap.size ≤ k_) ∧ some k_ ≠ (u4 : Value).ownBlock) u3 x3_2) := ⟨by rw [← hq_]; exact z25_⟩; have n1_ : Aside0 (Kd.R (Kd.int .i64) 3 wc w0.heap.size (fun k_ => ((P3_ k_ ∨ P4_ k_) ∨ w.heap.size ≤ k_) ∧ some k_ ≠ (u3 : Value).ownBlock) u4 x4_2) := ⟨by rw [← hq_]; exact z28_⟩; have n2_ : Aside0 (wc.heap[gb152]? = some (.cells #[.slice (some ad166) l0_0.length c0_0] 28 (0, 0))) := ⟨by rw [← hq_]; exact z47_⟩; have n3_ : Aside0 (Kept w wc (fun k_ => P3_ k_ ∨ P4_ k_)) := ⟨by rw [← hq_]; exact z21_⟩; have n4_ : Aside0 (Below w0.heap.size w0 wc) := ⟨by rw [← hq_]; exact z12_⟩; clear HO_3 HO_4 BK152 HK HB hq_; have HO_3 := n0_; have HO_4 := n1_; have BK152 := n2_; have HK := n3_; have HB := n4_; clear n0_ n1_ n2_ n3_ n4_))
          have n0_ := Aside0.mk (Kd.R_drew HO_3.out)
          have n1_ := Aside0.mk (Kd.R_drew HO_4.out)
          have n2_ := Aside0.mk (blk_drew BK152.out)
          have n3_ := Aside0.mk (Kept.drew HK.out)
          have n4_ := Aside0.mk (below_drew1 HB.out)
          clear HO_3
          clear HO_4
          clear BK152
          clear HK
          clear HB
          have HO_3 := n0_
          have HO_4 := n1_
          have BK152 := n2_
          have HK := n3_
          have HB := n4_
          clear n0_ n1_ n2_ n3_ n4_
          refine start_ (n := 4) (S := fun w' => True) (ds := []) (fl_ 4 0) (by kernel_rfl) rfl (fl_zero _) trivial (fun hHeld => ?_)
          generalize wc.drew = w46 at HO_3 HO_4 BK152 HK HB hHeld ⊢
          refine join_ (σ := Value × Value) 1 #[true, true, true, false] (fun s_ => [(59, s_.1), (60, s_.2), (10, s_.1)]) (fun s_ w' => (Kd.R (Kd.int .i64) 3 w' w0.heap.size (fun k_ => ((P3_ k_ ∨ P4_ k_) ∨ w.heap.size ≤ k_) ∧ some k_ ≠ (s_.2 : Value).ownBlock ∧ some k_ ≠ (u3 : Value).ownBlock ∧ some k_ ≠ (u4 : Value).ownBlock) s_.1 y175) ∧ (Kd.R (Kd.int .i64) 3 w' w0.heap.size (fun k_ => ((P3_ k_ ∨ P4_ k_) ∨ w.heap.size ≤ k_) ∧ some k_ ≠ (s_.1 : Value).ownBlock ∧ some k_ ≠ (u3 : Value).ownBlock ∧ some k_ ≠ (u4 : Value).ownBlock) s_.2 y178) ∧ (Kd.R (Kd.int .i64) 3 w' w0.heap.size (fun k_ => ((P3_ k_ ∨ P4_ k_) ∨ w.heap.size ≤ k_) ∧ some k_ ≠ (s_.1 : Value).ownBlock ∧ some k_ ≠ (s_.2 : Value).ownBlock ∧ some k_ ≠ (u4 : Value).ownBlock) u3 x3_2) ∧ (Kd.R (Kd.int .i64) 3 w' w0.heap.size (fun k_ => ((P3_ k_ ∨ P4_ k_) ∨ w.heap.size ≤ k_) ∧ some k_ ≠ (s_.1 : Value).ownBlock ∧ some k_ ≠ (s_.2 : Value).ownBlock ∧ some k_ ≠ (u3 : Value).ownBlock) u4 x4_2) ∧ (w'.heap[gb152]? = some (.cells #[.slice (some ad166) l0_0.length c0_0] 28 (0, 0))) ∧ (Kept w w' (fun k_ => P3_ k_ ∨ P4_ k_)) ∧ (Below w0.heap.size w0 w')) ?_ ?_
          rotate_left
          ·intro hCont
           refine two_ (i := 0) (j := 1) (Ni := some 59) (Nj := some 60) #[true, false, false, false] #[false, true, false, false] rfl rfl rfl rfl (by kernel_rfl) (by decide) (by decide) (fun K hK => ?_) (fun K hK => ?_)
           ·skip
            refine Kd.R_make_step (Kd.int .i64) _ 3 (by rfl) (N := 59) rfl 49 _ _ rfl 25 rfl rfl Try.underlying49 (.int .i64 0) 8 info3 rfl (by decide) (by omega) 0 (ok := fun _ => True) (okp := fun _ => True) rfl (fun _ hk => hk) trivial (by omega) (by omega) (Below.refl _ _) (Nat.le_refl _) ?_
            intro v176 w47 ho48 hb hg_ hnew_
            clear hg_ hnew_
            ((simp only [Int.reduceToNat] at ho48; rw [← Ny175.out] at ho48))
            have n0_ := Aside0.mk (Kd.R_elder' z25_ (Kd.R_base ho48) hb)
            have n1_ := Aside0.mk (Kd.R_elder' z28_ (Kd.R_base ho48) hb)
            have n2_ := Aside0.mk (Kd.R_lower (Kd.R_new' (Kd.R_new' (Kd.R_newM (M := fun k_ => ((P3_ k_ ∨ P4_ k_) ∨ w.heap.size ≤ k_)) ho48 z40_ (fun k_ h_ => .inr h_)) (Kd.R_lt z25_)) (Kd.R_lt z28_)) (below_size z12_))
            have n3_ := Aside0.mk (blk_below (g := gb152) (o := .cells #[.slice (some ad166) l0_0.length c0_0] 28 (0, 0)) z47_ hb)
            have n4_ := Aside0.mk (Kept.below (S := (fun k_ => P3_ k_ ∨ P4_ k_)) z21_ hb)
            have n5_ := Aside0.mk (below_step z12_ hb)
            clear HO_3
            clear HO_4
            clear BK152
            clear HK
            clear HB
            have HO_3 := n0_
            have HO_4 := n1_
            have HO177 := n2_
            have BK152 := n3_
            have HK := n4_
            have HB := n5_
            clear n0_ n1_ n2_ n3_ n4_ n5_
            clear hb ho48
            refine hK.out _ _ trivial (fun hHeld => ?_)
            clear hK K
            refine zn_ rfl ?_
            refine pure_ (i := 2) (N := some 10) (v := ?_) (a' := ?_) #[true, false, true, false] rfl rfl (by kernel_rfl) (fun _ _ _ h => h) (Or.inl ⟨by rfl, ?_⟩) ?_ ?_
            rotate_left
            ·intro w'
             go_simp
             with_reducible rfl
            rotate_left
            ·simp only [Act.put, List.setIfInBounds_toArray, List.set_cons_zero, List.set_cons_succ, i64_w, i32_w]
             rfl
            refine one_ (i := 1) (N := some 60) (fl_ 4 3) rfl rfl (by kernel_rfl) (by decide) (fun K hK => ?_)
            refine Kd.R_make_step (Kd.int .i64) _ 3 (by rfl) (N := 60) rfl 49 _ _ rfl 25 rfl rfl Try.underlying49 (.int .i64 0) 8 info3 rfl (by decide) (by omega) 0 (ok := fun _ => True) (okp := fun _ => True) rfl (fun _ hk => hk) trivial (by omega) (by omega) (Below.refl _ _) (Nat.le_refl _) ?_
            intro v179 w49 ho50 hb hg_ hnew_
            clear hg_ hnew_
            ((simp only [Int.reduceToNat] at ho50; rw [← Ny178.out] at ho50))
            have n0_ := Aside0.mk (Kd.R_elder' z25_ (Kd.R_base ho50) hb)
            have n1_ := Aside0.mk (Kd.R_elder' z28_ (Kd.R_base ho50) hb)
            have n2_ := Aside0.mk (Kd.R_elder' z284_ (Kd.R_base ho50) hb)
            have n3_ := Aside0.mk (Kd.R_lower (Kd.R_new' (Kd.R_new' (Kd.R_new' (Kd.R_newM (M := fun k_ => ((P3_ k_ ∨ P4_ k_) ∨ w.heap.size ≤ k_)) ho50 z40_ (fun k_ h_ => .inr h_)) (Kd.R_lt z25_)) (Kd.R_lt z28_)) (Kd.R_lt z284_)) (below_size z12_))
            have n4_ := Aside0.mk (blk_below (g := gb152) (o := .cells #[.slice (some ad166) l0_0.length c0_0] 28 (0, 0)) z47_ hb)
            have n5_ := Aside0.mk (Kept.below (S := (fun k_ => P3_ k_ ∨ P4_ k_)) z21_ hb)
            have n6_ := Aside0.mk (below_step z12_ hb)
            clear HO_3
            clear HO_4
            clear HO177
            clear BK152
            clear HK
            clear HB
            have HO_3 := n0_
            have HO_4 := n1_
            have HO177 := n2_
            have HO180 := n3_
            have BK152 := n4_
            have HK := n5_
            have HB := n6_
            clear n0_ n1_ n2_ n3_ n4_ n5_ n6_
            clear hb ho50
            refine hK.out _ _ trivial (fun hHeld => ?_)
            clear hK K
            refine zn_ rfl ?_
            exact norm_ z106_ (hCont (v176, v179) _ ⟨z220_, z221_, z222_, z223_, z47_, z21_, z12_⟩)
           ·skip
            refine Kd.R_make_step (Kd.int .i64) _ 3 (by rfl) (N := 60) rfl 49 _ _ rfl 25 rfl rfl Try.underlying49 (.int .i64 0) 8 info3 rfl (by decide) (by omega) 0 (ok := fun _ => True) (okp := fun _ => True) rfl (fun _ hk => hk) trivial (by omega) (by omega) (Below.refl _ _) (Nat.le_refl _) ?_
            intro v179 w47 ho48 hb hg_ hnew_
            clear hg_ hnew_
            ((simp only [Int.reduceToNat] at ho48; rw [← Ny178.out] at ho48))
            have n0_ := Aside0.mk (Kd.R_elder' z25_ (Kd.R_base ho48) hb)
            have n1_ := Aside0.mk (Kd.R_elder' z28_ (Kd.R_base ho48) hb)
            have n2_ := Aside0.mk (Kd.R_lower (Kd.R_new' (Kd.R_new' (Kd.R_newM (M := fun k_ => ((P3_ k_ ∨ P4_ k_) ∨ w.heap.size ≤ k_)) ho48 z40_ (fun k_ h_ => .inr h_)) (Kd.R_lt z25_)) (Kd.R_lt z28_)) (below_size z12_))
            have n3_ := Aside0.mk (blk_below (g := gb152) (o := .cells #[.slice (some ad166) l0_0.length c0_0] 28 (0, 0)) z47_ hb)
            have n4_ := Aside0.mk (Kept.below (S := (fun k_ => P3_ k_ ∨ P4_ k_)) z21_ hb)
            have n5_ := Aside0.mk (below_step z12_ hb)
            clear HO_3
            clear HO_4
            clear BK152
            clear HK
            clear HB
            have HO_3 := n0_
            have HO_4 := n1_
            have HO180 := n2_
            have BK152 := n3_
            have HK := n4_
            have HB := n5_
            clear n0_ n1_ n2_ n3_ n4_ n5_
            clear hb ho48
            refine hK.out _ _ trivial (fun hHeld => ?_)
            clear hK K
            refine zn_ rfl ?_
            refine one_ (i := 0) (N := some 59) (fl_ 4 2) rfl rfl (by kernel_rfl) (by decide) (fun K hK => ?_)
            refine Kd.R_make_step (Kd.int .i64) _ 3 (by rfl) (N := 59) rfl 49 _ _ rfl 25 rfl rfl Try.underlying49 (.int .i64 0) 8 info3 rfl (by decide) (by omega) 0 (ok := fun _ => True) (okp := fun _ => True) rfl (fun _ hk => hk) trivial (by omega) (by omega) (Below.refl _ _) (Nat.le_refl _) ?_
            intro v176 w49 ho50 hb hg_ hnew_
            clear hg_ hnew_
            ((simp only [Int.reduceToNat] at ho50; rw [← Ny175.out] at ho50))
            have n0_ := Aside0.mk (Kd.R_elder' z25_ (Kd.R_base ho50) hb)
            have n1_ := Aside0.mk (Kd.R_elder' z28_ (Kd.R_base ho50) hb)
            have n2_ := Aside0.mk (Kd.R_elder' z285_ (Kd.R_base ho50) hb)
            have n3_ := Aside0.mk (Kd.R_lower (Kd.R_new' (Kd.R_new' (Kd.R_new' (Kd.R_newM (M := fun k_ => ((P3_ k_ ∨ P4_ k_) ∨ w.heap.size ≤ k_)) ho50 z40_ (fun k_ h_ => .inr h_)) (Kd.R_lt z25_)) (Kd.R_lt z28_)) (Kd.R_lt z285_)) (below_size z12_))
            have n4_ := Aside0.mk (blk_below (g := gb152) (o := .cells #[.slice (some ad166) l0_0.length c0_0] 28 (0, 0)) z47_ hb)
            have n5_ := Aside0.mk (Kept.below (S := (fun k_ => P3_ k_ ∨ P4_ k_)) z21_ hb)
            have n6_ := Aside0.mk (below_step z12_ hb)
            clear HO_3
            clear HO_4
            clear HO180
            clear BK152
            clear HK
            clear HB
            have HO_3 := n0_
            have HO_4 := n1_
            have HO180 := n2_
            have HO177 := n3_
            have BK152 := n4_
            have HK := n5_
            have HB := n6_
            clear n0_ n1_ n2_ n3_ n4_ n5_ n6_
            clear hb ho50
            refine hK.out _ _ trivial (fun hHeld => ?_)
            clear hK K
            refine zn_ rfl ?_
            refine pure_ (i := 2) (N := some 10) (v := ?_) (a' := ?_) #[true, true, true, false] rfl rfl (by kernel_rfl) (fun _ _ _ h => h) (Or.inl ⟨by rfl, ?_⟩) ?_ ?_
            rotate_left
            ·intro w'
             go_simp
             with_reducible rfl
            rotate_left
            ·simp only [Act.put, List.setIfInBounds_toArray, List.set_cons_zero, List.set_cons_succ, i64_w, i32_w]
             rfl
            exact norm_ z106_ (hCont (v176, v179) _ ⟨z220_, z221_, z224_, z225_, z47_, z21_, z12_⟩)
          rintro ⟨v176, v179⟩ w51 ⟨h0_, h1_, h2_, h3_, h4_, h5_, h6_⟩
          have n0_ : Aside0 (Kd.R (Kd.int .i64) 3 w51 w0.heap.size (fun k_ => ((P3_ k_ ∨ P4_ k_) ∨ w.heap.size ≤ k_) ∧ some k_ ≠ (v179 : Value).ownBlock ∧ some k_ ≠ (u3 : Value).ownBlock ∧ some k_ ≠ (u4 : Value).ownBlock) v176 y175) := ⟨h0_⟩
          have n1_ : Aside0 (Kd.R (Kd.int .i64) 3 w51 w0.heap.size (fun k_ => ((P3_ k_ ∨ P4_ k_) ∨ w.heap.size ≤ k_) ∧ some k_ ≠ (v176 : Value).ownBlock ∧ some k_ ≠ (u3 : Value).ownBlock ∧ some k_ ≠ (u4 : Value).ownBlock) v179 y178) := ⟨h1_⟩
          have n2_ : Aside0 (Kd.R (Kd.int .i64) 3 w51 w0.heap.size (fun k_ => ((P3_ k_ ∨ P4_ k_) ∨ w.heap.size ≤ k_) ∧ some k_ ≠ (v176 : Value).ownBlock ∧ some k_ ≠ (v179 : Value).ownBlock ∧ some k_ ≠ (u4 : Value).ownBlock) u3 x3_2) := ⟨h2_⟩
          have n3_ : Aside0 (Kd.R (Kd.int .i64) 3 w51 w0.heap.size (fun k_ => ((P3_ k_ ∨ P4_ k_) ∨ w.heap.size ≤ k_) ∧ some k_ ≠ (v176 : Value).ownBlock ∧ some k_ ≠ (v179 : Value).ownBlock ∧ some k_ ≠ (u3 : Value).ownBlock) u4 x4_2) := ⟨h3_⟩
          have n4_ : Aside0 (w51.heap[gb152]? = some (.cells #[.slice (some ad166) l0_0.length c0_0] 28 (0, 0))) := ⟨h4_⟩
          have n5_ : Aside0 (Kept w w51 (fun k_ => P3_ k_ ∨ P4_ k_)) := ⟨h5_⟩
          have n6_ : Aside0 (Below w0.heap.size w0 w51) := ⟨h6_⟩
          clear HO_3
          clear HO_4
          clear BK152
          clear HK
          clear HB
          clear h0_ h1_ h2_ h3_ h4_ h5_ h6_
          have HO177 := n0_
          have HO180 := n1_
          have HO_3 := n2_
          have HO_4 := n3_
          have BK152 := n4_
          have HK := n5_
          have HB := n6_
          clear n0_ n1_ n2_ n3_ n4_ n5_ n6_
          have hHeld := trivial
          refine norm_ (a' := ?_) ?_ ?_
          rotate_left
          ·simp only [putAll, Act.put, List.setIfInBounds_toArray, List.set_cons_zero, List.set_cons_succ]
           rfl
          refine pure_ (i := 3) (N := some 11) (v := ?_) (a' := ?_) #[true, true, true, true] rfl rfl (by kernel_rfl) (fun _ _ _ h => h) (Or.inl ⟨by rfl, ?_⟩) ?_ ?_
          rotate_left
          ·intro w'
           go_simp
           with_reducible rfl
          rotate_left
          ·simp only [Act.put, List.setIfInBounds_toArray, List.set_cons_zero, List.set_cons_succ, i64_w, i32_w]
           rfl
          refine done_ (by kernel_rfl) ?_
          try go_wp2
          go_ret2
          exact ⟨_, _, z4_, by exact Kd.R_mono HO177.out (fun _ hk => ⟨hk.1, hk.2.1⟩), by exact Kd.R_mono HO180.out (fun _ hk => ⟨hk.1, hk.2.1⟩), z12_, z21_⟩
        ·replace c33 := Bool.eq_false_iff.mpr c33
         subst c33
         replace H := iff_ H
         simp only [Option.some.injEq, Prod.mk.injEq] at H
         obtain ⟨rfl, rfl⟩ := H
         go_wp2
         go_ret2
         exact ⟨_, _, z4_, z25_, z28_, z12_, z21_⟩

end Go.Proofs.Ytdapeboajjidmab.PFnExactDomInsert
