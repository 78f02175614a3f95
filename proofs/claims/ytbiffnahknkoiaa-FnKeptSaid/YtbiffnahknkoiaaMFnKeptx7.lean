/- Laid by a program of this session out of the kit's print for the law FnKept: what it says of the machine is proved here, function by function; each contract under the conditions that it names. -/
import Derived.Test.YtbiffnahknkoiaaMFnKeptx0
namespace Go.Proofs.Ytbiffnahknkoiaa.PFnKept
open Go.RowKit Go.Proofs.YtbiffnahknkoiaaW.PrintWords Go.Proofs.YtbiffnahknkoiaaW.PrintLast Go.Proofs.YtbiffnahknkoiaaW.PrintMore
attribute [local go_sem] max2_int min2_int max_two min_two max_three min_three max_four min_four   -- for this text's walks alone
set_option linter.unusedVariables false
set_option linter.unusedSimpArgs false

/-! ### spec_UnitCost: function 111 -/
mutual
def spec_UnitCost.l0 : Nat → Int → List Int → List Int → List Int → Option (List Int × List Int × List Int)
 | 0, _, _, _, _ => none
 | k + 1, x2, x280000, x280001, x280002 => if x2 < 6 then (if x280000.length < 17592186044416 then (if x280001.length < 17592186044416 then (spec_UnitCost.l1 k x2 0 (x280000 ++ [1]) (x280001 ++ [1]) x280002) else (none)) else (none)) else (some (x280000, x280001, x280002))
def spec_UnitCost.l1 : Nat → Int → Int → List Int → List Int → List Int → Option (List Int × List Int × List Int)
 | 0, _, _, _, _, _ => none
 | k + 1, x2, x3, x280000, x280001, x280002 => if x3 < 6 then (if x2 = x3 then (if x280002.length < 17592186044416 then (spec_UnitCost.l1 k x2 (wrap64 (x3 + 1)) x280000 x280001 (x280002 ++ [0])) else (none)) else (if x280002.length < 17592186044416 then (spec_UnitCost.l1 k x2 (wrap64 (x3 + 1)) x280000 x280001 (x280002 ++ [1])) else (none))) else (spec_UnitCost.l0 k (wrap64 (x2 + 1)) x280000 x280001 x280002)
end
def spec_UnitCost.f (k : Nat)  : Option (List Int × List Int × List Int) := spec_UnitCost.l0 k 0 ([] : List Int) ([] : List Int) ([] : List Int)
set_option maxHeartbeats 8000000 in
set_option maxRecDepth 100000 in
theorem spec_UnitCost.calls (k : Nat)  (r1 : List Int) (r2 : List Int) (r3 : List Int) (w : World) (h : spec_UnitCost.f k  = some (r1, r2, r3)) :
  Calls Try.prog 111 #[] w fun e w' => ∃ v0_ v1_ v2_ : Value, e = .returned (.agg #[v0_, v1_, v2_]) ∧ Kd.R (Kd.int .i64) 3 w' w.heap.size (fun k_ => some k_ ≠ (v1_ : Value).ownBlock ∧ some k_ ≠ (v2_ : Value).ownBlock) v0_ r1 ∧ Kd.R (Kd.int .i64) 3 w' w.heap.size (fun k_ => some k_ ≠ (v0_ : Value).ownBlock ∧ some k_ ≠ (v2_ : Value).ownBlock) v1_ r2 ∧ Kd.R (Kd.int .i64) 3 w' w.heap.size (fun k_ => some k_ ≠ (v0_ : Value).ownBlock ∧ some k_ ≠ (v1_ : Value).ownBlock) v2_ r3 ∧ Below w.heap.size w w' := by
 have hu33 := Try.underlying33
 have HB := Aside0.mk (Below.refl w.heap.size w)
 have H : (spec_UnitCost.l0 k 0 ([] : List Int) ([] : List Int) ([] : List Int)) = some (r1, r2, r3) := h
 clear h
 have H' := Aside0.mk H
 clear H
 go_enter Try.func111, Try.ntmps111
 go_wp2_with (first | ((with_reducible refine gate_dst (N := 0) rfl ?_); refine box_event ?hg (N := 0) ?hd (cs := #[.slice none 0 0, .slice none 0 0, .slice none 0 0]) (t := 33) ?hr ?_; (case hd => rfl); (case hg => rfl); (case hr => exact z26_); intro gb278 hg w1 hbox hb; have BK278 := Aside0.mk (hbox); have GW278 := Aside0.mk ((by rw [hg]; exact (below_size z0_) : w.heap.size ≤ gb278)); have GE278 := Aside0.mk ((by rw [hg]; exact (below_size z0_) : w.heap.size ≤ gb278)); replace HB := Aside0.mk (below_step z0_ hb); clear hb hbox hg) | ((with_reducible refine gate_dst (N := 1) rfl ?_); refine box_event ?hg (N := 1) ?hd (cs := #[.slice none 0 0, .slice none 0 0, .slice none 0 0]) (t := 33) ?hr ?_; (case hd => rfl); (case hg => rfl); (case hr => exact z26_); intro gb279 hg w2 hbox hb; have BK279 := Aside0.mk (hbox); have GW279 := Aside0.mk ((by rw [hg]; exact (below_size z142_) : w.heap.size ≤ gb279)); have GE279 := Aside0.mk ((by rw [hg]; exact (below_size z142_) : w.heap.size ≤ gb279)); replace HB := Aside0.mk (below_step z142_ hb); have NB278_279 := Aside0.mk ((by rw [hg]; exact Nat.ne_of_lt (blk_lt (g := gb278) (o := .cells #[.slice none 0 0, .slice none 0 0, .slice none 0 0] 33 (0, 0)) z102_) : gb278 ≠ gb279)); have NB279_278 := Aside0.mk ((by rw [hg]; exact Nat.ne_of_gt (blk_lt (g := gb278) (o := .cells #[.slice none 0 0, .slice none 0 0, .slice none 0 0] 33 (0, 0)) z102_) : gb279 ≠ gb278)); replace BK278 := Aside0.mk (blk_below (g := gb278) (o := .cells #[.slice none 0 0, .slice none 0 0, .slice none 0 0] 33 (0, 0)) z102_ hb); clear hb hbox hg; have hnb3 := NB279_278.out; have hnc3 := NB278_279.out; obtain ⟨hcz4_0, hcz4_1, hcz4_2, hfz4_0, hfz4_1, hfz4_2⟩ := bx3_ BK279.out))
 go_loopg [2] k (fun kq v2 w' => ∃ (x2_1 : Int) (x280000_1 : List Int) (x280001_1 : List Int) (x280002_1 : List Int) (u280000 : Value) (u280001 : Value) (u280002 : Value), v2 = .int .i64 x2_1 ∧ Aside0 (spec_UnitCost.l0 kq x2_1 x280000_1 x280001_1 x280002_1 = some (r1, r2, r3)) ∧ Aside0 (kq ≤ k) ∧ Aside0 (Kd.R (Kd.int .i64) 3 w' w.heap.size (fun k_ => some k_ ≠ (u280001 : Value).ownBlock ∧ some k_ ≠ (u280002 : Value).ownBlock) u280000 x280000_1) ∧ Aside0 (Kd.R (Kd.int .i64) 3 w' w.heap.size (fun k_ => some k_ ≠ (u280000 : Value).ownBlock ∧ some k_ ≠ (u280002 : Value).ownBlock) u280001 x280001_1) ∧ Aside0 (Kd.R (Kd.int .i64) 3 w' w.heap.size (fun k_ => some k_ ≠ (u280000 : Value).ownBlock ∧ some k_ ≠ (u280001 : Value).ownBlock) u280002 x280002_1) ∧ Aside0 (w'.heap[gb278]? = some (.cells #[(.slice none 0 0), (.slice none 0 0), (.slice none 0 0)] 33 (0, 0))) ∧ Aside0 (w'.heap[gb279]? = some (.cells #[u280000, u280001, u280002] 33 (0, 0))) ∧ Aside0 (Below w.heap.size w w'))
 case atStart => exact ⟨(0), (([] : List Int)), (([] : List Int)), (([] : List Int)), (.slice none 0 0), (.slice none 0 0), (.slice none 0 0), z9_, H', ⟨Nat.le_refl _⟩, ⟨z152_⟩, ⟨z152_⟩, ⟨z152_⟩, ⟨by (with_reducible repeat (first | refine blk_drewN ?_ _ | refine blk_drew ?_ | refine blk_alloc ?_ _)); refine blk_far ?_ NB278_279.out _; (with_reducible repeat (first | refine blk_drewN ?_ _ | refine blk_drew ?_ | refine blk_alloc ?_ _)); refine blk_far ?_ NB278_279.out _; (with_reducible repeat (first | refine blk_drewN ?_ _ | refine blk_drew ?_ | refine blk_alloc ?_ _)); refine blk_far ?_ NB278_279.out _; (with_reducible repeat (first | refine blk_drewN ?_ _ | refine blk_drew ?_ | refine blk_alloc ?_ _)); exact BK278.out⟩, ⟨by (with_reducible repeat (first | refine blk_drewN ?_ _ | refine blk_drew ?_ | refine blk_alloc ?_ _)); refine blk_put (cs := #[.slice none 0 0, .slice none 0 0, .slice none 0 0]) ?_ 2 _ rfl; (with_reducible repeat (first | refine blk_drewN ?_ _ | refine blk_drew ?_ | refine blk_alloc ?_ _)); refine blk_put (cs := #[.slice none 0 0, .slice none 0 0, .slice none 0 0]) ?_ 1 _ rfl; (with_reducible repeat (first | refine blk_drewN ?_ _ | refine blk_drew ?_ | refine blk_alloc ?_ _)); refine blk_put (cs := #[.slice none 0 0, .slice none 0 0, .slice none 0 0]) ?_ 0 _ rfl; (with_reducible repeat (first | refine blk_drewN ?_ _ | refine blk_drew ?_ | refine blk_alloc ?_ _)); exact BK279.out⟩, ⟨z32_⟩⟩
 case round =>
  clear H'
  try clear c1
  try clear p2
  try clear c3
  try clear hcz4_0
  try clear hcz4_1
  try clear hcz4_2
  try clear hfz4_0
  try clear hfz4_1
  try clear hfz4_2
  obtain ⟨x2_1, x280000_1, x280001_1, x280002_1, u280000, u280001, u280002, rfl, HA, HK1, HO_280000, HO_280001, HO_280002, BK278, BK279, HB⟩ := hrel
  cases gk with
  | zero => exact absurd HA.out (by simp [spec_UnitCost.l0])
  | succ k1 =>
   have H := HA.out
   clear HA
   simp only [spec_UnitCost.l0] at H
   by_cases c5 : x2_1 < 6
   ·rw [if_pos c5] at H
    have c5b0 := decide_eq_true c5
    clear c5
    obtain ⟨c6, H⟩ := ifs_ H
    have LMc6 := Aside0.mk c6
    clear c6
    first | ((with_reducible have hz_ := gy_ H); obtain ⟨y280, Ny280, H⟩ := hz_) | (generalize hy_ : ((x280000_1 ++ [1]) : List Int) = y280 at H; have Ny280 := Aside0.mk hy_.symm; clear hy_)
    obtain ⟨c7, H⟩ := ifs_ H
    have LMc7 := Aside0.mk c7
    clear c7
    first | ((with_reducible have hz_ := gy_ H); obtain ⟨y283, Ny283, H⟩ := hz_) | (generalize hy_ : ((x280001_1 ++ [1]) : List Int) = y283 at H; have Ny283 := Aside0.mk hy_.symm; clear hy_)
    have H' := Aside0.mk H
    clear H
    have hnb8 := NB279_278.out
    have hnc8 := NB278_279.out
    obtain ⟨hcz9_0, hcz9_1, hcz9_2, hfz9_0, hfz9_1, hfz9_2⟩ := bx3_ BK279.out
    go_wp2_with (first | ((with_reducible refine gate_builtin (b := .append) (xs := #[.tmp 11, .tmp 12]) rfl ?_); at_builtin; refine Kd.R_append (Kd.int .i64) (w0 := w) w.heap.size rfl (.tmp 11) (.tmp 12) 31 3 (.int .i64 0) 8 rfl Try.underlying31 info3 rfl (by decide) (by omega) u280000 x280000_1 1 [.int .i64 1] (fun k_ => some k_ ≠ (u280001 : Value).ownBlock ∧ some k_ ≠ (u280002 : Value).ownBlock) (fun _ => False) rfl rfl ?aP (fun _ hk => hk.elim) ?aF ?aO ?aB ?aS ?aL ?_; (case aP => exact rfl); (case aB => exact z101_); (case aF => exact (fun k_ hk => ⟨Kd.fresh' (Kd.R_lt z118_) k_ hk, Kd.fresh' (Kd.R_lt z149_) k_ hk⟩)); (case aO => exact z119_); (case aS => exact z95_); (case aL => have := LMc6.out; omega); intro v281 w10 ho hb hg hat; rw [← Ny280.out] at ho; replace HO_280001 := Aside0.mk (Kd.R_after (ok := (fun k_ => some k_ ≠ (u280002 : Value).ownBlock)) (by (with_reducible repeat (first | apply Kd.R_alloc | apply Kd.R_drewN | apply Kd.R_drew)); exact Kd.R_mono HO_280001.out (fun _ hk => ⟨hk.2, hk.1⟩)) hg hat); replace HO_280002 := Aside0.mk (Kd.R_after (ok := (fun k_ => some k_ ≠ (u280001 : Value).ownBlock)) (by (with_reducible repeat (first | apply Kd.R_alloc | apply Kd.R_drewN | apply Kd.R_drew)); exact Kd.R_mono HO_280002.out (fun _ hk => ⟨hk.2, hk.1⟩)) hg hat); replace BK278 := Aside0.mk (blk_grown (g := gb278) (o := .cells #[.slice none 0 0, .slice none 0 0, .slice none 0 0] 33 (0, 0)) z102_ hg (Kd.R_ne HO_280000.out BK278.out (by decide))); replace BK279 := Aside0.mk (blk_grown (g := gb279) (o := .cells #[u280000, u280001, u280002] 33 (0, 0)) z147_ hg (Kd.R_ne HO_280000.out BK279.out (by decide))); replace HB := Aside0.mk (hb); have HO282 := Aside0.mk (ho); clear HO_280000; clear ho hb hg hat; obtain ⟨Ao11, co11, eo11⟩ := Kd.R_slice HO282.out; subst eo11; obtain ⟨hcz12_0, hcz12_1, hcz12_2, hfz12_0, hfz12_1, hfz12_2⟩ := bx3_ BK279.out) | ((with_reducible refine gate_builtin (b := .append) (xs := #[.tmp 16, .tmp 17]) rfl ?_); at_builtin; refine Kd.R_append (Kd.int .i64) (w0 := w) w.heap.size rfl (.tmp 16) (.tmp 17) 31 3 (.int .i64 0) 8 rfl Try.underlying31 info3 rfl (by decide) (by omega) u280001 x280001_1 1 [.int .i64 1] (fun k_ => some k_ ≠ (u280002 : Value).ownBlock ∧ some k_ ≠ (.slice Ao11 y280.length co11 : Value).ownBlock) (fun _ => False) rfl z26_ ?aP (fun _ hk => hk.elim) ?aF ?aO ?aB ?aS ?aL ?_; (case aP => exact rfl); (case aB => exact z101_); (case aF => exact (fun k_ hk => ⟨Kd.fresh' (Kd.R_lt (by (with_reducible repeat (first | apply Kd.R_alloc | apply Kd.R_drewN | apply Kd.R_drew)); exact (Kd.R_mono (Kd.R_far (p := ⟨gb279, 0, none⟩) (Kd.R_types HO_280002.out BK279.out (by decide)) (fun _ hk => hk.2) (.slice Ao11 y280.length co11)) (fun _ h_ => h_.1)))) k_ hk, Kd.fresh' (Kd.R_lt (by (with_reducible repeat (first | apply Kd.R_alloc | apply Kd.R_drewN | apply Kd.R_drew)); exact (Kd.R_mono (Kd.R_far (p := ⟨gb279, 0, none⟩) (Kd.R_types HO282.out BK279.out (by decide)) (fun _ hk => hk.2) (.slice Ao11 y280.length co11)) (fun _ h_ => h_.1)))) k_ hk⟩)); (case aO => exact (by (with_reducible repeat (first | apply Kd.R_alloc | apply Kd.R_drewN | apply Kd.R_drew)); exact Kd.R_mono (Kd.R_far (p := ⟨gb279, 0, none⟩) (Kd.R_types HO_280001.out BK279.out (by decide)) (fun _ hk => hk.2) (.slice Ao11 y280.length co11)) (fun _ hk => ⟨hk.1.1, hk.1.2⟩))); (case aS => exact z95_); (case aL => have := LMc7.out; omega); intro v284 w13 ho hb hg hat; rw [← Ny283.out] at ho; replace HO_280002 := Aside0.mk (Kd.R_after (ok := (fun k_ => some k_ ≠ (.slice Ao11 y280.length co11 : Value).ownBlock)) (by (with_reducible repeat (first | apply Kd.R_alloc | apply Kd.R_drewN | apply Kd.R_drew)); exact Kd.R_mono (Kd.R_far (p := ⟨gb279, 0, none⟩) (Kd.R_types HO_280002.out BK279.out (by decide)) (fun _ hk => hk.2) (.slice Ao11 y280.length co11)) (fun _ hk => ⟨hk.1.2, hk.1.1⟩)) hg hat); replace BK278 := Aside0.mk (blk_grown (g := gb278) (o := .cells #[.slice none 0 0, .slice none 0 0, .slice none 0 0] 33 (0, 0)) z85_ hg (Kd.R_ne HO_280001.out BK278.out (by decide))); replace HO282 := Aside0.mk (Kd.R_after (ok := (fun k_ => some k_ ≠ (u280002 : Value).ownBlock)) (by (with_reducible repeat (first | apply Kd.R_alloc | apply Kd.R_drewN | apply Kd.R_drew)); exact Kd.R_mono (Kd.R_far (p := ⟨gb279, 0, none⟩) (Kd.R_types HO282.out BK279.out (by decide)) (fun _ hk => hk.2) (.slice Ao11 y280.length co11)) (fun _ hk => ⟨hk.1.2, hk.1.1⟩)) hg hat); replace BK279 := Aside0.mk (blk_grown (g := gb279) (o := .cells #[.slice Ao11 y280.length co11, u280001, u280002] 33 (0, 0)) (by (with_reducible repeat (first | refine blk_drewN ?_ _ | refine blk_drew ?_ | refine blk_alloc ?_ _)); refine blk_put (cs := #[u280000, u280001, u280002]) ?_ 0 _ rfl; (with_reducible repeat (first | refine blk_drewN ?_ _ | refine blk_drew ?_ | refine blk_alloc ?_ _)); exact BK279.out) hg (Kd.R_ne HO_280001.out BK279.out (by decide))); replace HB := Aside0.mk (hb); have HO285 := Aside0.mk (ho); clear HO_280001; clear ho hb hg hat; obtain ⟨Ao14, co14, eo14⟩ := Kd.R_slice HO285.out; subst eo14; obtain ⟨hcz15_0, hcz15_1, hcz15_2, hfz15_0, hfz15_1, hfz15_2⟩ := bx3_ BK279.out))
    go_loopg [3] k1 (fun kq v3 w' => ∃ (x3_2 : Int) (x280002_2 : List Int) (u280002 : Value), v3 = .int .i64 x3_2 ∧ Aside0 (spec_UnitCost.l1 kq x2_1 x3_2 y280 y283 x280002_2 = some (r1, r2, r3)) ∧ Aside0 (kq ≤ k1) ∧ Aside0 (Kd.R (Kd.int .i64) 3 w' w.heap.size (fun k_ => some k_ ≠ ((.slice Ao14 y283.length co14) : Value).ownBlock ∧ some k_ ≠ (u280002 : Value).ownBlock) (.slice Ao11 y280.length co11) y280) ∧ Aside0 (Kd.R (Kd.int .i64) 3 w' w.heap.size (fun k_ => some k_ ≠ ((.slice Ao11 y280.length co11) : Value).ownBlock ∧ some k_ ≠ (u280002 : Value).ownBlock) (.slice Ao14 y283.length co14) y283) ∧ Aside0 (Kd.R (Kd.int .i64) 3 w' w.heap.size (fun k_ => some k_ ≠ ((.slice Ao11 y280.length co11) : Value).ownBlock ∧ some k_ ≠ ((.slice Ao14 y283.length co14) : Value).ownBlock) u280002 x280002_2) ∧ Aside0 (w'.heap[gb278]? = some (.cells #[(.slice none 0 0), (.slice none 0 0), (.slice none 0 0)] 33 (0, 0))) ∧ Aside0 (w'.heap[gb279]? = some (.cells #[(.slice Ao11 y280.length co11), (.slice Ao14 y283.length co14), u280002] 33 (0, 0))) ∧ Aside0 (Below w.heap.size w w'))
    case atStart => exact ⟨(0), (x280002_1), (u280002), z9_, H', ⟨Nat.le_refl _⟩, ⟨by (with_reducible repeat (first | apply Kd.R_alloc | apply Kd.R_drewN | apply Kd.R_drew)); exact Kd.R_mono (Kd.R_far (p := ⟨gb279, 1, none⟩) (Kd.R_types HO282.out BK279.out (by decide)) (fun _ hk => hk.2) (.slice Ao14 y283.length co14)) (fun _ hk => ⟨hk.1.2, hk.1.1⟩)⟩, ⟨by (with_reducible repeat (first | apply Kd.R_alloc | apply Kd.R_drewN | apply Kd.R_drew)); exact Kd.R_mono (Kd.R_far (p := ⟨gb279, 1, none⟩) (Kd.R_types HO285.out BK279.out (by decide)) (fun _ hk => hk.2) (.slice Ao14 y283.length co14)) (fun _ hk => ⟨hk.1.2, hk.1.1⟩)⟩, ⟨by (with_reducible repeat (first | apply Kd.R_alloc | apply Kd.R_drewN | apply Kd.R_drew)); exact Kd.R_mono (Kd.R_far (p := ⟨gb279, 1, none⟩) (Kd.R_types HO_280002.out BK279.out (by decide)) (fun _ hk => hk.2) (.slice Ao14 y283.length co14)) (fun _ hk => ⟨hk.1.1, hk.1.2⟩)⟩, ⟨z85_⟩, ⟨by (with_reducible repeat (first | refine blk_drewN ?_ _ | refine blk_drew ?_ | refine blk_alloc ?_ _)); refine blk_put (cs := #[.slice Ao11 y280.length co11, u280001, u280002]) ?_ 1 _ rfl; (with_reducible repeat (first | refine blk_drewN ?_ _ | refine blk_drew ?_ | refine blk_alloc ?_ _)); exact BK279.out⟩, ⟨z32_⟩⟩
    case round =>
     clear H'
     try clear c1
     try clear p2
     try clear c3
     try clear c5
     try clear c5b0
     try clear c6
     try clear c7
     try clear c8
     try clear c11
     try clear hcz12_0
     try clear hcz12_1
     try clear hcz12_2
     try clear hcz15_0
     try clear hcz15_1
     try clear hcz15_2
     try clear hcz4_0
     try clear hcz4_1
     try clear hcz4_2
     try clear hcz9_0
     try clear hcz9_1
     try clear hcz9_2
     try clear hfz12_0
     try clear hfz12_1
     try clear hfz12_2
     try clear hfz15_0
     try clear hfz15_1
     try clear hfz15_2
     try clear hfz4_0
     try clear hfz4_1
     try clear hfz4_2
     try clear hfz9_0
     try clear hfz9_1
     try clear hfz9_2
     try clear p2
     obtain ⟨x3_2, x280002_2, u280002, rfl, HA, HK2, HO_280000, HO_280001, HO_280002, BK278, BK279, HB⟩ := hrel
     cases gk with
     | zero => exact absurd HA.out (by simp [spec_UnitCost.l1])
     | succ k2 =>
      have H := HA.out
      clear HA
      simp only [spec_UnitCost.l1] at H
      by_cases c16 : x3_2 < 6
      ·rw [if_pos c16] at H
       have c16b0 := decide_eq_true c16
       clear c16
       by_cases c17 : x2_1 = x3_2
       ·rw [if_pos c17] at H
        have c17b0 : (x2_1 == x3_2) = true := beq_iff_eq.mpr c17
        have c17b1 : (x2_1 != x3_2) = false := bne_eq_false_iff_eq.mpr c17
        clear c17
        obtain ⟨c18, H⟩ := ifs_ H
        have LMc18 := Aside0.mk c18
        clear c18
        first | ((with_reducible have hz_ := gy_ H); obtain ⟨y286, Ny286, H⟩ := hz_) | (generalize hy_ : ((x280002_2 ++ [0]) : List Int) = y286 at H; have Ny286 := Aside0.mk hy_.symm; clear hy_)
        have H' := Aside0.mk H
        clear H
        have hnb19 := NB279_278.out
        have hnc19 := NB278_279.out
        obtain ⟨hcz20_0, hcz20_1, hcz20_2, hfz20_0, hfz20_1, hfz20_2⟩ := bx3_ BK279.out
        go_wp2_with (first | ((with_reducible refine gate_builtin (b := .append) (xs := #[.tmp 28, .tmp 30]) rfl ?_); at_builtin; refine Kd.R_append (Kd.int .i64) (w0 := w) w.heap.size rfl (.tmp 28) (.tmp 30) 31 3 (.int .i64 0) 8 rfl Try.underlying31 info3 rfl (by decide) (by omega) u280002 x280002_2 0 [.int .i64 0] (fun k_ => some k_ ≠ (.slice Ao11 y280.length co11 : Value).ownBlock ∧ some k_ ≠ (.slice Ao14 y283.length co14 : Value).ownBlock) (fun _ => False) rfl rfl ?aP (fun _ hk => hk.elim) ?aF ?aO ?aB ?aS ?aL ?_; (case aP => exact rfl); (case aB => exact z101_); (case aF => exact z124_); (case aO => exact z191_); (case aS => exact z95_); (case aL => exact z216_); intro v287 w21 ho hb hg hat; rw [← Ny286.out] at ho; replace HO_280000 := Aside0.mk (Kd.R_after (ok := (fun k_ => some k_ ≠ (.slice Ao14 y283.length co14 : Value).ownBlock)) z119_ hg hat); replace HO_280001 := Aside0.mk (Kd.R_after (ok := (fun k_ => some k_ ≠ (.slice Ao11 y280.length co11 : Value).ownBlock)) z118_ hg hat); replace BK278 := Aside0.mk (blk_grown (g := gb278) (o := .cells #[.slice none 0 0, .slice none 0 0, .slice none 0 0] 33 (0, 0)) z102_ hg (Kd.R_ne HO_280002.out BK278.out (by decide))); replace BK279 := Aside0.mk (blk_grown (g := gb279) (o := .cells #[.slice Ao11 y280.length co11, .slice Ao14 y283.length co14, u280002] 33 (0, 0)) z147_ hg (Kd.R_ne HO_280002.out BK279.out (by decide))); replace HB := Aside0.mk (hb); have HO288 := Aside0.mk (ho); clear HO_280002; clear ho hb hg hat; obtain ⟨Ao22, co22, eo22⟩ := Kd.R_slice HO288.out; subst eo22; obtain ⟨hcz23_0, hcz23_1, hcz23_2, hfz23_0, hfz23_1, hfz23_2⟩ := bx3_ BK279.out))
        go_roundg k2
        case measure => have := HK1.out; have := HK2.out; omega
        case rel => exact ⟨(wrap64 (x3_2 + 1)), (y286), (.slice Ao22 y286.length co22), z9_, H', ⟨z165_⟩, ⟨by (with_reducible repeat (first | apply Kd.R_alloc | apply Kd.R_drewN | apply Kd.R_drew)); exact Kd.R_mono (Kd.R_far (p := ⟨gb279, 2, none⟩) (Kd.R_types HO_280000.out BK279.out (by decide)) (fun _ hk => hk.2) (.slice Ao22 y286.length co22)) (fun _ hk => ⟨hk.1.1, hk.1.2⟩)⟩, ⟨by (with_reducible repeat (first | apply Kd.R_alloc | apply Kd.R_drewN | apply Kd.R_drew)); exact Kd.R_mono (Kd.R_far (p := ⟨gb279, 2, none⟩) (Kd.R_types HO_280001.out BK279.out (by decide)) (fun _ hk => hk.2) (.slice Ao22 y286.length co22)) (fun _ hk => ⟨hk.1.1, hk.1.2⟩)⟩, ⟨by (with_reducible repeat (first | apply Kd.R_alloc | apply Kd.R_drewN | apply Kd.R_drew)); exact Kd.R_mono (Kd.R_far (p := ⟨gb279, 2, none⟩) (Kd.R_types HO288.out BK279.out (by decide)) (fun _ hk => hk.2) (.slice Ao22 y286.length co22)) (fun _ hk => ⟨hk.1.1, hk.1.2⟩)⟩, ⟨z85_⟩, ⟨z117_⟩, ⟨z32_⟩⟩
       ·rw [if_neg c17] at H
        have c17b0 : (x2_1 == x3_2) = false := beq_eq_false_iff_ne.mpr c17
        have c17b1 : (x2_1 != x3_2) = true := bne_iff_ne.mpr c17
        obtain ⟨c24, H⟩ := ifs_ H
        have LMc24 := Aside0.mk c24
        clear c24
        first | ((with_reducible have hz_ := gy_ H); obtain ⟨y289, Ny289, H⟩ := hz_) | (generalize hy_ : ((x280002_2 ++ [1]) : List Int) = y289 at H; have Ny289 := Aside0.mk hy_.symm; clear hy_)
        have H' := Aside0.mk H
        clear H
        have hnb25 := NB279_278.out
        have hnc25 := NB278_279.out
        obtain ⟨hcz26_0, hcz26_1, hcz26_2, hfz26_0, hfz26_1, hfz26_2⟩ := bx3_ BK279.out
        go_wp2_with (first | ((with_reducible refine gate_builtin (b := .append) (xs := #[.tmp 28, .tmp 30]) rfl ?_); at_builtin; refine Kd.R_append (Kd.int .i64) (w0 := w) w.heap.size rfl (.tmp 28) (.tmp 30) 31 3 (.int .i64 0) 8 rfl Try.underlying31 info3 rfl (by decide) (by omega) u280002 x280002_2 1 [.int .i64 1] (fun k_ => some k_ ≠ (.slice Ao11 y280.length co11 : Value).ownBlock ∧ some k_ ≠ (.slice Ao14 y283.length co14 : Value).ownBlock) (fun _ => False) rfl rfl ?aP (fun _ hk => hk.elim) ?aF ?aO ?aB ?aS ?aL ?_; (case aP => exact rfl); (case aB => exact z101_); (case aF => exact z124_); (case aO => exact z191_); (case aS => exact z95_); (case aL => have := LMc24.out; omega); intro v290 w27 ho hb hg hat; rw [← Ny289.out] at ho; replace HO_280000 := Aside0.mk (Kd.R_after (ok := (fun k_ => some k_ ≠ (.slice Ao14 y283.length co14 : Value).ownBlock)) z119_ hg hat); replace HO_280001 := Aside0.mk (Kd.R_after (ok := (fun k_ => some k_ ≠ (.slice Ao11 y280.length co11 : Value).ownBlock)) z118_ hg hat); replace BK278 := Aside0.mk (blk_grown (g := gb278) (o := .cells #[.slice none 0 0, .slice none 0 0, .slice none 0 0] 33 (0, 0)) z102_ hg (Kd.R_ne HO_280002.out BK278.out (by decide))); replace BK279 := Aside0.mk (blk_grown (g := gb279) (o := .cells #[.slice Ao11 y280.length co11, .slice Ao14 y283.length co14, u280002] 33 (0, 0)) z147_ hg (Kd.R_ne HO_280002.out BK279.out (by decide))); replace HB := Aside0.mk (hb); have HO291 := Aside0.mk (ho); clear HO_280002; clear ho hb hg hat; obtain ⟨Ao28, co28, eo28⟩ := Kd.R_slice HO291.out; subst eo28; obtain ⟨hcz29_0, hcz29_1, hcz29_2, hfz29_0, hfz29_1, hfz29_2⟩ := bx3_ BK279.out))
        go_roundg k2
        case measure => have := HK1.out; have := HK2.out; omega
        case rel => exact ⟨(wrap64 (x3_2 + 1)), (y289), (.slice Ao28 y289.length co28), z9_, H', ⟨z165_⟩, ⟨by (with_reducible repeat (first | apply Kd.R_alloc | apply Kd.R_drewN | apply Kd.R_drew)); exact Kd.R_mono (Kd.R_far (p := ⟨gb279, 2, none⟩) (Kd.R_types HO_280000.out BK279.out (by decide)) (fun _ hk => hk.2) (.slice Ao28 y289.length co28)) (fun _ hk => ⟨hk.1.1, hk.1.2⟩)⟩, ⟨by (with_reducible repeat (first | apply Kd.R_alloc | apply Kd.R_drewN | apply Kd.R_drew)); exact Kd.R_mono (Kd.R_far (p := ⟨gb279, 2, none⟩) (Kd.R_types HO_280001.out BK279.out (by decide)) (fun _ hk => hk.2) (.slice Ao28 y289.length co28)) (fun _ hk => ⟨hk.1.1, hk.1.2⟩)⟩, ⟨by (with_reducible repeat (first | apply Kd.R_alloc | apply Kd.R_drewN | apply Kd.R_drew)); exact Kd.R_mono (Kd.R_far (p := ⟨gb279, 2, none⟩) (Kd.R_types HO291.out BK279.out (by decide)) (fun _ hk => hk.2) (.slice Ao28 y289.length co28)) (fun _ hk => ⟨hk.1.1, hk.1.2⟩)⟩, ⟨z85_⟩, ⟨z117_⟩, ⟨z32_⟩⟩
      ·rw [if_neg c16] at H
       have c16b0 := decide_eq_false c16
       clear c16
       have H' := Aside0.mk H
       clear H
       go_wp2
       go_roundg k2
       case measure => have := HK1.out; have := HK2.out; omega
       case rel => exact ⟨(wrap64 (x2_1 + 1)), (y280), (y283), (x280002_2), (.slice Ao11 y280.length co11), (.slice Ao14 y283.length co14), (u280002), z9_, H', ⟨z165_⟩, ⟨z119_⟩, ⟨z118_⟩, ⟨z149_⟩, ⟨z102_⟩, ⟨z147_⟩, ⟨z32_⟩⟩
   ·rw [if_neg c5] at H
    have c5b0 := decide_eq_false c5
    clear c5
    simp only [Option.some.injEq, Prod.mk.injEq] at H
    obtain ⟨rfl, rfl, rfl⟩ := H
    have hnb30 := NB279_278.out
    have hnc30 := NB278_279.out
    obtain ⟨hcz31_0, hcz31_1, hcz31_2, hfz31_0, hfz31_1, hfz31_2⟩ := bx3_ BK279.out
    obtain ⟨Ao32, co32, eo32⟩ := Kd.R_slice HO_280000.out
    subst eo32
    obtain ⟨hcz33_0, hcz33_1, hcz33_2, hfz33_0, hfz33_1, hfz33_2⟩ := bx3_ BK278.out
    obtain ⟨Ao34, co34, eo34⟩ := Kd.R_slice HO_280001.out
    subst eo34
    obtain ⟨Ao35, co35, eo35⟩ := Kd.R_slice HO_280002.out
    subst eo35
    go_wp2
    refine bodyPost_ret (results_cell_row rfl _ _ gb278 33 #[.slice Ao32 x280000_1.length co32, .slice Ao34 x280001_1.length co34, .slice Ao35 x280002_1.length co35] (0, 0) _ rfl (by (with_reducible repeat (first | refine blk_drewN ?_ _ | refine blk_drew ?_ | refine blk_alloc ?_ _)); refine blk_put (cs := #[.slice Ao32 x280000_1.length co32, .slice Ao34 x280001_1.length co34, .slice none 0 0]) ?_ 2 _ rfl; (with_reducible repeat (first | refine blk_drewN ?_ _ | refine blk_drew ?_ | refine blk_alloc ?_ _)); refine blk_put (cs := #[.slice Ao32 x280000_1.length co32, .slice none 0 0, .slice none 0 0]) ?_ 1 _ rfl; (with_reducible repeat (first | refine blk_drewN ?_ _ | refine blk_drew ?_ | refine blk_alloc ?_ _)); refine blk_put (cs := #[.slice none 0 0, .slice none 0 0, .slice none 0 0]) ?_ 0 _ rfl; (with_reducible repeat (first | refine blk_drewN ?_ _ | refine blk_drew ?_ | refine blk_alloc ?_ _)); exact BK278.out) Try.underlying33 rfl (by kernel_rfl)) rfl ?_
    exact ⟨_, _, _, z7_, by (with_reducible repeat (first | apply Kd.R_alloc | apply Kd.R_drewN | apply Kd.R_drew)); exact Kd.R_mono (Kd.R_far (p := ⟨gb278, 2, none⟩) (Kd.R_far (p := ⟨gb278, 1, none⟩) (Kd.R_far (p := ⟨gb278, 0, none⟩) (Kd.R_types HO_280000.out BK278.out (by decide)) (fun _ hk => hk.2) (.slice Ao32 x280000_1.length co32)) (fun _ hk => hk.2) (.slice Ao34 x280001_1.length co34)) (fun _ hk => hk.2) (.slice Ao35 x280002_1.length co35)) (fun _ hk => ⟨hk.1.1, hk.1.2⟩), by (with_reducible repeat (first | apply Kd.R_alloc | apply Kd.R_drewN | apply Kd.R_drew)); exact Kd.R_mono (Kd.R_far (p := ⟨gb278, 2, none⟩) (Kd.R_far (p := ⟨gb278, 1, none⟩) (Kd.R_far (p := ⟨gb278, 0, none⟩) (Kd.R_types HO_280001.out BK278.out (by decide)) (fun _ hk => hk.2) (.slice Ao32 x280000_1.length co32)) (fun _ hk => hk.2) (.slice Ao34 x280001_1.length co34)) (fun _ hk => hk.2) (.slice Ao35 x280002_1.length co35)) (fun _ hk => ⟨hk.1.1, hk.1.2⟩), by (with_reducible repeat (first | apply Kd.R_alloc | apply Kd.R_drewN | apply Kd.R_drew)); exact Kd.R_mono (Kd.R_far (p := ⟨gb278, 2, none⟩) (Kd.R_far (p := ⟨gb278, 1, none⟩) (Kd.R_far (p := ⟨gb278, 0, none⟩) (Kd.R_types HO_280002.out BK278.out (by decide)) (fun _ hk => hk.2) (.slice Ao32 x280000_1.length co32)) (fun _ hk => hk.2) (.slice Ao34 x280001_1.length co34)) (fun _ hk => hk.2) (.slice Ao35 x280002_1.length co35)) (fun _ hk => ⟨hk.1.1, hk.1.2⟩), z32_⟩

end Go.Proofs.Ytbiffnahknkoiaa.PFnKept
