/- Laid by a program of this session out of the kit's print for the law FnJoined: what it says of the machine is proved here, function by function; each contract under the conditions that it names. -/
import Derived.Test.YtdapeboajjidmaaMFnJoinedx0
import Derived.Test.YtdapeboajjidmaaMFnJoinedx2
import Derived.Test.YtdapeboajjidmaaMFnJoinedx5
import Derived.Test.YtdapeboajjidmaaMFnJoinedx11
import Derived.Test.YtdapeboajjidmaaMFnJoinedx12
import Derived.Test.YtdapeboajjidmaaMFnJoinedx17
import Derived.Test.YtdapeboajjidmaaMFnJoinedx19
namespace Go.Proofs.Ytdapeboajjidmaa.PFnJoined
open Go.RowKit Go.Proofs.YtdapeboajjidmaaW.PrintWords Go.Proofs.YtdapeboajjidmaaW.PrintLast Go.Proofs.YtdapeboajjidmaaW.PrintMore
attribute [local go_sem] max2_int min2_int max_two min_two max_three min_three max_four min_four   -- for this text's walks alone
set_option linter.unusedVariables false
set_option linter.unusedSimpArgs false

/-! ### spec_UnitCost: function 40 -/
mutual
def spec_UnitCost.l0 : Nat → Int → List Int → List Int → List Int → Option (List Int × List Int × List Int)
 | 0, _, _, _, _ => none
 | k + 1, x2, x698000, x698001, x698002 => if x2 < 6 then (if x698000.length < 17592186044416 then (if x698001.length < 17592186044416 then (spec_UnitCost.l1 k x2 0 (x698000 ++ [1]) (x698001 ++ [1]) x698002) else (none)) else (none)) else (some (x698000, x698001, x698002))
def spec_UnitCost.l1 : Nat → Int → Int → List Int → List Int → List Int → Option (List Int × List Int × List Int)
 | 0, _, _, _, _, _ => none
 | k + 1, x2, x3, x698000, x698001, x698002 => if x3 < 6 then (if x2 = x3 then (if x698002.length < 17592186044416 then (spec_UnitCost.l1 k x2 (wrap64 (x3 + 1)) x698000 x698001 (x698002 ++ [0])) else (none)) else (if x698002.length < 17592186044416 then (spec_UnitCost.l1 k x2 (wrap64 (x3 + 1)) x698000 x698001 (x698002 ++ [1])) else (none))) else (spec_UnitCost.l0 k (wrap64 (x2 + 1)) x698000 x698001 x698002)
end
def spec_UnitCost.f (k : Nat)  : Option (List Int × List Int × List Int) := spec_UnitCost.l0 k 0 ([] : List Int) ([] : List Int) ([] : List Int)
set_option maxHeartbeats 8000000 in
set_option maxRecDepth 100000 in
theorem spec_UnitCost.calls (k : Nat)  (r1 : List Int) (r2 : List Int) (r3 : List Int) (w : World) (h : spec_UnitCost.f k  = some (r1, r2, r3)) :
  Calls Try.prog 40 #[] w fun e w' => ∃ v0_ v1_ v2_ : Value, e = .returned (.agg #[v0_, v1_, v2_]) ∧ Kd.R (Kd.int .i64) 3 w' w.heap.size (fun k_ => some k_ ≠ (v1_ : Value).ownBlock ∧ some k_ ≠ (v2_ : Value).ownBlock) v0_ r1 ∧ Kd.R (Kd.int .i64) 3 w' w.heap.size (fun k_ => some k_ ≠ (v0_ : Value).ownBlock ∧ some k_ ≠ (v2_ : Value).ownBlock) v1_ r2 ∧ Kd.R (Kd.int .i64) 3 w' w.heap.size (fun k_ => some k_ ≠ (v0_ : Value).ownBlock ∧ some k_ ≠ (v1_ : Value).ownBlock) v2_ r3 ∧ Below w.heap.size w w' := by
 have hu63 := Try.underlying63
 have HB := Aside0.mk (Below.refl w.heap.size w)
 have H : (spec_UnitCost.l0 k 0 ([] : List Int) ([] : List Int) ([] : List Int)) = some (r1, r2, r3) := h
 clear h
 have H' := Aside0.mk H
 clear H
 go_enter Try.func40, Try.ntmps40
 go_wp2_with (first | ((with_reducible refine gate_dst (N := 0) rfl ?_); refine box_event ?hg (N := 0) ?hd (cs := #[.slice none 0 0, .slice none 0 0, .slice none 0 0]) (t := 63) ?hr ?_; (case hd => rfl); (case hg => rfl); (case hr => exact z20_); intro gb696 hg w1 hbox hb; have BK696 := Aside0.mk (hbox); have GW696 := Aside0.mk ((by rw [hg]; exact (below_size z0_) : w.heap.size ≤ gb696)); have GE696 := Aside0.mk ((by rw [hg]; exact (below_size z0_) : w.heap.size ≤ gb696)); replace HB := Aside0.mk (below_step z0_ hb); clear hb hbox hg) | ((with_reducible refine gate_dst (N := 1) rfl ?_); refine box_event ?hg (N := 1) ?hd (cs := #[.slice none 0 0, .slice none 0 0, .slice none 0 0]) (t := 63) ?hr ?_; (case hd => rfl); (case hg => rfl); (case hr => exact z20_); intro gb697 hg w2 hbox hb; have BK697 := Aside0.mk (hbox); have GW697 := Aside0.mk ((by rw [hg]; exact (below_size z128_) : w.heap.size ≤ gb697)); have GE697 := Aside0.mk ((by rw [hg]; exact (below_size z128_) : w.heap.size ≤ gb697)); replace HB := Aside0.mk (below_step z128_ hb); have NB696_697 := Aside0.mk ((by rw [hg]; exact Nat.ne_of_lt (blk_lt (g := gb696) (o := .cells #[.slice none 0 0, .slice none 0 0, .slice none 0 0] 63 (0, 0)) z95_) : gb696 ≠ gb697)); have NB697_696 := Aside0.mk ((by rw [hg]; exact Nat.ne_of_gt (blk_lt (g := gb696) (o := .cells #[.slice none 0 0, .slice none 0 0, .slice none 0 0] 63 (0, 0)) z95_) : gb697 ≠ gb696)); replace BK696 := Aside0.mk (blk_below (g := gb696) (o := .cells #[.slice none 0 0, .slice none 0 0, .slice none 0 0] 63 (0, 0)) z95_ hb); clear hb hbox hg; have hnb3 := NB697_696.out; have hnc3 := NB696_697.out; obtain ⟨hcz4_0, hcz4_1, hcz4_2, hfz4_0, hfz4_1, hfz4_2⟩ := bx3_ BK697.out))
 go_loopg [2] k (fun kq v2 w' => ∃ (x2_1 : Int) (x698000_1 : List Int) (x698001_1 : List Int) (x698002_1 : List Int) (u698000 : Value) (u698001 : Value) (u698002 : Value), v2 = .int .i64 x2_1 ∧ Aside0 (spec_UnitCost.l0 kq x2_1 x698000_1 x698001_1 x698002_1 = some (r1, r2, r3)) ∧ Aside0 (kq ≤ k) ∧ Aside0 (Kd.R (Kd.int .i64) 3 w' w.heap.size (fun k_ => some k_ ≠ (u698001 : Value).ownBlock ∧ some k_ ≠ (u698002 : Value).ownBlock) u698000 x698000_1) ∧ Aside0 (Kd.R (Kd.int .i64) 3 w' w.heap.size (fun k_ => some k_ ≠ (u698000 : Value).ownBlock ∧ some k_ ≠ (u698002 : Value).ownBlock) u698001 x698001_1) ∧ Aside0 (Kd.R (Kd.int .i64) 3 w' w.heap.size (fun k_ => some k_ ≠ (u698000 : Value).ownBlock ∧ some k_ ≠ (u698001 : Value).ownBlock) u698002 x698002_1) ∧ Aside0 (w'.heap[gb696]? = some (.cells #[(.slice none 0 0), (.slice none 0 0), (.slice none 0 0)] 63 (0, 0))) ∧ Aside0 (w'.heap[gb697]? = some (.cells #[u698000, u698001, u698002] 63 (0, 0))) ∧ Aside0 (Below w.heap.size w w'))
 case atStart => exact ⟨(0), (([] : List Int)), (([] : List Int)), (([] : List Int)), (.slice none 0 0), (.slice none 0 0), (.slice none 0 0), z11_, H', ⟨Nat.le_refl _⟩, ⟨z140_⟩, ⟨z140_⟩, ⟨z140_⟩, ⟨by (with_reducible repeat (first | refine blk_drewN ?_ _ | refine blk_drew ?_ | refine blk_alloc ?_ _)); refine blk_far ?_ NB696_697.out _; (with_reducible repeat (first | refine blk_drewN ?_ _ | refine blk_drew ?_ | refine blk_alloc ?_ _)); refine blk_far ?_ NB696_697.out _; (with_reducible repeat (first | refine blk_drewN ?_ _ | refine blk_drew ?_ | refine blk_alloc ?_ _)); refine blk_far ?_ NB696_697.out _; (with_reducible repeat (first | refine blk_drewN ?_ _ | refine blk_drew ?_ | refine blk_alloc ?_ _)); exact BK696.out⟩, ⟨by (with_reducible repeat (first | refine blk_drewN ?_ _ | refine blk_drew ?_ | refine blk_alloc ?_ _)); refine blk_put (cs := #[.slice none 0 0, .slice none 0 0, .slice none 0 0]) ?_ 2 _ rfl; (with_reducible repeat (first | refine blk_drewN ?_ _ | refine blk_drew ?_ | refine blk_alloc ?_ _)); refine blk_put (cs := #[.slice none 0 0, .slice none 0 0, .slice none 0 0]) ?_ 1 _ rfl; (with_reducible repeat (first | refine blk_drewN ?_ _ | refine blk_drew ?_ | refine blk_alloc ?_ _)); refine blk_put (cs := #[.slice none 0 0, .slice none 0 0, .slice none 0 0]) ?_ 0 _ rfl; (with_reducible repeat (first | refine blk_drewN ?_ _ | refine blk_drew ?_ | refine blk_alloc ?_ _)); exact BK697.out⟩, ⟨z31_⟩⟩
 case round =>
  clear H'
  try clear p2
  try clear c3
  try clear c4
  try clear hcz4_0
  try clear hcz4_1
  try clear hcz4_2
  try clear hfz4_0
  try clear hfz4_1
  try clear hfz4_2
  obtain ⟨x2_1, x698000_1, x698001_1, x698002_1, u698000, u698001, u698002, rfl, HA, HK1, HO_698000, HO_698001, HO_698002, BK696, BK697, HB⟩ := hrel
  cases gk with
  | zero => exact absurd HA.out (by simp [spec_UnitCost.l0])
  | succ k1 =>
   have H := HA.out
   clear HA
   simp only [spec_UnitCost.l0] at H
   by_cases c5 : x2_1 < 6
   ·rw [if_pos c5] at H
    have c5b0 := decide_eq_true c5
    clear c5
    obtain ⟨c6, H⟩ := ifs_ H
    have LMc6 := Aside0.mk c6
    clear c6
    first | ((with_reducible have hz_ := gy_ H); obtain ⟨y698, Ny698, H⟩ := hz_) | (generalize hy_ : (x698000_1 ++ [1]) = y698 at H; have Ny698 := Aside0.mk hy_.symm; clear hy_)
    obtain ⟨c7, H⟩ := ifs_ H
    have LMc7 := Aside0.mk c7
    clear c7
    first | ((with_reducible have hz_ := gy_ H); obtain ⟨y701, Ny701, H⟩ := hz_) | (generalize hy_ : (x698001_1 ++ [1]) = y701 at H; have Ny701 := Aside0.mk hy_.symm; clear hy_)
    have H' := Aside0.mk H
    clear H
    have hnb8 := NB697_696.out
    have hnc8 := NB696_697.out
    obtain ⟨hcz9_0, hcz9_1, hcz9_2, hfz9_0, hfz9_1, hfz9_2⟩ := bx3_ BK697.out
    go_wp2_with (first | ((with_reducible refine gate_builtin (b := .append) (xs := #[.tmp 11, .tmp 12]) rfl ?_); at_builtin; refine Kd.R_append (Kd.int .i64) (w0 := w) w.heap.size rfl (.tmp 11) (.tmp 12) 61 3 (.int .i64 0) 8 rfl Try.underlying61 info3 rfl (by decide) (by omega) u698000 x698000_1 1 [.int .i64 1] (fun k_ => some k_ ≠ (u698001 : Value).ownBlock ∧ some k_ ≠ (u698002 : Value).ownBlock) (fun _ => False) rfl rfl ?aP (fun _ hk => hk.elim) ?aF ?aO ?aB ?aS ?aL ?_; (case aP => exact rfl); (case aB => exact z88_); (case aF => exact (fun k_ hk => ⟨Kd.fresh' (Kd.R_lt z112_) k_ hk, Kd.fresh' (Kd.R_lt z138_) k_ hk⟩)); (case aO => exact z113_); (case aS => exact z82_); (case aL => have := LMc6.out; omega); intro v699 w10 ho hb hg hat; rw [← Ny698.out] at ho; replace HO_698001 := Aside0.mk (Kd.R_after (ok := (fun k_ => some k_ ≠ (u698002 : Value).ownBlock)) (by (with_reducible repeat (first | apply Kd.R_alloc | apply Kd.R_drewN | apply Kd.R_drew)); exact Kd.R_mono HO_698001.out (fun _ hk => ⟨hk.2, hk.1⟩)) hg hat); replace HO_698002 := Aside0.mk (Kd.R_after (ok := (fun k_ => some k_ ≠ (u698001 : Value).ownBlock)) (by (with_reducible repeat (first | apply Kd.R_alloc | apply Kd.R_drewN | apply Kd.R_drew)); exact Kd.R_mono HO_698002.out (fun _ hk => ⟨hk.2, hk.1⟩)) hg hat); replace BK696 := Aside0.mk (blk_grown (g := gb696) (o := .cells #[.slice none 0 0, .slice none 0 0, .slice none 0 0] 63 (0, 0)) z95_ hg (Kd.R_ne HO_698000.out BK696.out (by decide))); replace BK697 := Aside0.mk (blk_grown (g := gb697) (o := .cells #[u698000, u698001, u698002] 63 (0, 0)) z135_ hg (Kd.R_ne HO_698000.out BK697.out (by decide))); replace HB := Aside0.mk (hb); have HO700 := Aside0.mk (ho); clear HO_698000; clear ho hb hg hat; obtain ⟨Ao11, co11, eo11⟩ := Kd.R_slice HO700.out; subst eo11; obtain ⟨hcz12_0, hcz12_1, hcz12_2, hfz12_0, hfz12_1, hfz12_2⟩ := bx3_ BK697.out) | ((with_reducible refine gate_builtin (b := .append) (xs := #[.tmp 16, .tmp 17]) rfl ?_); at_builtin; refine Kd.R_append (Kd.int .i64) (w0 := w) w.heap.size rfl (.tmp 16) (.tmp 17) 61 3 (.int .i64 0) 8 rfl Try.underlying61 info3 rfl (by decide) (by omega) u698001 x698001_1 1 [.int .i64 1] (fun k_ => some k_ ≠ (u698002 : Value).ownBlock ∧ some k_ ≠ (.slice Ao11 y698.length co11 : Value).ownBlock) (fun _ => False) rfl z20_ ?aP (fun _ hk => hk.elim) ?aF ?aO ?aB ?aS ?aL ?_; (case aP => exact rfl); (case aB => exact z88_); (case aF => exact (fun k_ hk => ⟨Kd.fresh' (Kd.R_lt (by (with_reducible repeat (first | apply Kd.R_alloc | apply Kd.R_drewN | apply Kd.R_drew)); exact (Kd.R_mono (Kd.R_far (p := ⟨gb697, 0, none⟩) (Kd.R_types HO_698002.out BK697.out (by decide)) (fun _ hk => hk.2) (.slice Ao11 y698.length co11)) (fun _ h_ => h_.1)))) k_ hk, Kd.fresh' (Kd.R_lt (by (with_reducible repeat (first | apply Kd.R_alloc | apply Kd.R_drewN | apply Kd.R_drew)); exact (Kd.R_mono (Kd.R_far (p := ⟨gb697, 0, none⟩) (Kd.R_types HO700.out BK697.out (by decide)) (fun _ hk => hk.2) (.slice Ao11 y698.length co11)) (fun _ h_ => h_.1)))) k_ hk⟩)); (case aO => exact (by (with_reducible repeat (first | apply Kd.R_alloc | apply Kd.R_drewN | apply Kd.R_drew)); exact Kd.R_mono (Kd.R_far (p := ⟨gb697, 0, none⟩) (Kd.R_types HO_698001.out BK697.out (by decide)) (fun _ hk => hk.2) (.slice Ao11 y698.length co11)) (fun _ hk => ⟨hk.1.1, hk.1.2⟩))); (case aS => exact z82_); (case aL => have := LMc7.out; omega); intro v702 w13 ho hb hg hat; rw [← Ny701.out] at ho; replace HO_698002 := Aside0.mk (Kd.R_after (ok := (fun k_ => some k_ ≠ (.slice Ao11 y698.length co11 : Value).ownBlock)) (by (with_reducible repeat (first | apply Kd.R_alloc | apply Kd.R_drewN | apply Kd.R_drew)); exact Kd.R_mono (Kd.R_far (p := ⟨gb697, 0, none⟩) (Kd.R_types HO_698002.out BK697.out (by decide)) (fun _ hk => hk.2) (.slice Ao11 y698.length co11)) (fun _ hk => ⟨hk.1.2, hk.1.1⟩)) hg hat); replace BK696 := Aside0.mk (blk_grown (g := gb696) (o := .cells #[.slice none 0 0, .slice none 0 0, .slice none 0 0] 63 (0, 0)) z72_ hg (Kd.R_ne HO_698001.out BK696.out (by decide))); replace HO700 := Aside0.mk (Kd.R_after (ok := (fun k_ => some k_ ≠ (u698002 : Value).ownBlock)) (by (with_reducible repeat (first | apply Kd.R_alloc | apply Kd.R_drewN | apply Kd.R_drew)); exact Kd.R_mono (Kd.R_far (p := ⟨gb697, 0, none⟩) (Kd.R_types HO700.out BK697.out (by decide)) (fun _ hk => hk.2) (.slice Ao11 y698.length co11)) (fun _ hk => ⟨hk.1.2, hk.1.1⟩)) hg hat); replace BK697 := Aside0.mk (blk_grown (g := gb697) (o := .cells #[.slice Ao11 y698.length co11, u698001, u698002] 63 (0, 0)) (by (with_reducible repeat (first | refine blk_drewN ?_ _ | refine blk_drew ?_ | refine blk_alloc ?_ _)); refine blk_put (cs := #[u698000, u698001, u698002]) ?_ 0 _ rfl; (with_reducible repeat (first | refine blk_drewN ?_ _ | refine blk_drew ?_ | refine blk_alloc ?_ _)); exact BK697.out) hg (Kd.R_ne HO_698001.out BK697.out (by decide))); replace HB := Aside0.mk (hb); have HO703 := Aside0.mk (ho); clear HO_698001; clear ho hb hg hat; obtain ⟨Ao14, co14, eo14⟩ := Kd.R_slice HO703.out; subst eo14; obtain ⟨hcz15_0, hcz15_1, hcz15_2, hfz15_0, hfz15_1, hfz15_2⟩ := bx3_ BK697.out))
    go_loopg [3] k1 (fun kq v3 w' => ∃ (x3_2 : Int) (x698002_2 : List Int) (u698002 : Value), v3 = .int .i64 x3_2 ∧ Aside0 (spec_UnitCost.l1 kq x2_1 x3_2 y698 y701 x698002_2 = some (r1, r2, r3)) ∧ Aside0 (kq ≤ k1) ∧ Aside0 (Kd.R (Kd.int .i64) 3 w' w.heap.size (fun k_ => some k_ ≠ ((.slice Ao14 y701.length co14) : Value).ownBlock ∧ some k_ ≠ (u698002 : Value).ownBlock) (.slice Ao11 y698.length co11) y698) ∧ Aside0 (Kd.R (Kd.int .i64) 3 w' w.heap.size (fun k_ => some k_ ≠ ((.slice Ao11 y698.length co11) : Value).ownBlock ∧ some k_ ≠ (u698002 : Value).ownBlock) (.slice Ao14 y701.length co14) y701) ∧ Aside0 (Kd.R (Kd.int .i64) 3 w' w.heap.size (fun k_ => some k_ ≠ ((.slice Ao11 y698.length co11) : Value).ownBlock ∧ some k_ ≠ ((.slice Ao14 y701.length co14) : Value).ownBlock) u698002 x698002_2) ∧ Aside0 (w'.heap[gb696]? = some (.cells #[(.slice none 0 0), (.slice none 0 0), (.slice none 0 0)] 63 (0, 0))) ∧ Aside0 (w'.heap[gb697]? = some (.cells #[(.slice Ao11 y698.length co11), (.slice Ao14 y701.length co14), u698002] 63 (0, 0))) ∧ Aside0 (Below w.heap.size w w'))
    case atStart => exact ⟨(0), (x698002_1), (u698002), z11_, H', ⟨Nat.le_refl _⟩, ⟨by (with_reducible repeat (first | apply Kd.R_alloc | apply Kd.R_drewN | apply Kd.R_drew)); exact Kd.R_mono (Kd.R_far (p := ⟨gb697, 1, none⟩) (Kd.R_types HO700.out BK697.out (by decide)) (fun _ hk => hk.2) (.slice Ao14 y701.length co14)) (fun _ hk => ⟨hk.1.2, hk.1.1⟩)⟩, ⟨by (with_reducible repeat (first | apply Kd.R_alloc | apply Kd.R_drewN | apply Kd.R_drew)); exact Kd.R_mono (Kd.R_far (p := ⟨gb697, 1, none⟩) (Kd.R_types HO703.out BK697.out (by decide)) (fun _ hk => hk.2) (.slice Ao14 y701.length co14)) (fun _ hk => ⟨hk.1.2, hk.1.1⟩)⟩, ⟨by (with_reducible repeat (first | apply Kd.R_alloc | apply Kd.R_drewN | apply Kd.R_drew)); exact Kd.R_mono (Kd.R_far (p := ⟨gb697, 1, none⟩) (Kd.R_types HO_698002.out BK697.out (by decide)) (fun _ hk => hk.2) (.slice Ao14 y701.length co14)) (fun _ hk => ⟨hk.1.1, hk.1.2⟩)⟩, ⟨z72_⟩, ⟨by (with_reducible repeat (first | refine blk_drewN ?_ _ | refine blk_drew ?_ | refine blk_alloc ?_ _)); refine blk_put (cs := #[.slice Ao11 y698.length co11, u698001, u698002]) ?_ 1 _ rfl; (with_reducible repeat (first | refine blk_drewN ?_ _ | refine blk_drew ?_ | refine blk_alloc ?_ _)); exact BK697.out⟩, ⟨z31_⟩⟩
    case round =>
     clear H'
     try clear p2
     try clear c3
     try clear c4
     try clear c5
     try clear c5b0
     try clear c6
     try clear c7
     try clear c8
     try clear hcz12_0
     try clear hcz12_1
     try clear hcz12_2
     try clear hcz15_0
     try clear hcz15_1
     try clear hcz15_2
     try clear hcz4_0
     try clear hcz4_1
     try clear hcz4_2
     try clear hcz9_0
     try clear hcz9_1
     try clear hcz9_2
     try clear hfz12_0
     try clear hfz12_1
     try clear hfz12_2
     try clear hfz15_0
     try clear hfz15_1
     try clear hfz15_2
     try clear hfz4_0
     try clear hfz4_1
     try clear hfz4_2
     try clear hfz9_0
     try clear hfz9_1
     try clear hfz9_2
     try clear p2
     obtain ⟨x3_2, x698002_2, u698002, rfl, HA, HK2, HO_698000, HO_698001, HO_698002, BK696, BK697, HB⟩ := hrel
     cases gk with
     | zero => exact absurd HA.out (by simp [spec_UnitCost.l1])
     | succ k2 =>
      have H := HA.out
      clear HA
      simp only [spec_UnitCost.l1] at H
      by_cases c16 : x3_2 < 6
      ·rw [if_pos c16] at H
       have c16b0 := decide_eq_true c16
       clear c16
       by_cases c17 : x2_1 = x3_2
       ·rw [if_pos c17] at H
        have c17b0 : (x2_1 == x3_2) = true := beq_iff_eq.mpr c17
        have c17b1 : (x2_1 != x3_2) = false := bne_eq_false_iff_eq.mpr c17
        clear c17
        obtain ⟨c18, H⟩ := ifs_ H
        have LMc18 := Aside0.mk c18
        clear c18
        first | ((with_reducible have hz_ := gy_ H); obtain ⟨y704, Ny704, H⟩ := hz_) | (generalize hy_ : (x698002_2 ++ [0]) = y704 at H; have Ny704 := Aside0.mk hy_.symm; clear hy_)
        have H' := Aside0.mk H
        clear H
        have hnb19 := NB697_696.out
        have hnc19 := NB696_697.out
        obtain ⟨hcz20_0, hcz20_1, hcz20_2, hfz20_0, hfz20_1, hfz20_2⟩ := bx3_ BK697.out
        go_wp2_with (first | ((with_reducible refine gate_builtin (b := .append) (xs := #[.tmp 28, .tmp 30]) rfl ?_); at_builtin; refine Kd.R_append (Kd.int .i64) (w0 := w) w.heap.size rfl (.tmp 28) (.tmp 30) 61 3 (.int .i64 0) 8 rfl Try.underlying61 info3 rfl (by decide) (by omega) u698002 x698002_2 0 [.int .i64 0] (fun k_ => some k_ ≠ (.slice Ao11 y698.length co11 : Value).ownBlock ∧ some k_ ≠ (.slice Ao14 y701.length co14 : Value).ownBlock) (fun _ => False) rfl rfl ?aP (fun _ hk => hk.elim) ?aF ?aO ?aB ?aS ?aL ?_; (case aP => exact rfl); (case aB => exact z88_); (case aF => exact z115_); (case aO => exact z196_); (case aS => exact z82_); (case aL => exact z222_); intro v705 w21 ho hb hg hat; rw [← Ny704.out] at ho; replace HO_698000 := Aside0.mk (Kd.R_after (ok := (fun k_ => some k_ ≠ (.slice Ao14 y701.length co14 : Value).ownBlock)) z113_ hg hat); replace HO_698001 := Aside0.mk (Kd.R_after (ok := (fun k_ => some k_ ≠ (.slice Ao11 y698.length co11 : Value).ownBlock)) z112_ hg hat); replace BK696 := Aside0.mk (blk_grown (g := gb696) (o := .cells #[.slice none 0 0, .slice none 0 0, .slice none 0 0] 63 (0, 0)) z95_ hg (Kd.R_ne HO_698002.out BK696.out (by decide))); replace BK697 := Aside0.mk (blk_grown (g := gb697) (o := .cells #[.slice Ao11 y698.length co11, .slice Ao14 y701.length co14, u698002] 63 (0, 0)) z135_ hg (Kd.R_ne HO_698002.out BK697.out (by decide))); replace HB := Aside0.mk (hb); have HO706 := Aside0.mk (ho); clear HO_698002; clear ho hb hg hat; obtain ⟨Ao22, co22, eo22⟩ := Kd.R_slice HO706.out; subst eo22; obtain ⟨hcz23_0, hcz23_1, hcz23_2, hfz23_0, hfz23_1, hfz23_2⟩ := bx3_ BK697.out))
        go_roundg k2
        case measure => have := HK1.out; have := HK2.out; omega
        case rel => exact ⟨(wrap64 (x3_2 + 1)), (y704), (.slice Ao22 y704.length co22), z11_, H', ⟨z218_⟩, ⟨by (with_reducible repeat (first | apply Kd.R_alloc | apply Kd.R_drewN | apply Kd.R_drew)); exact Kd.R_mono (Kd.R_far (p := ⟨gb697, 2, none⟩) (Kd.R_types HO_698000.out BK697.out (by decide)) (fun _ hk => hk.2) (.slice Ao22 y704.length co22)) (fun _ hk => ⟨hk.1.1, hk.1.2⟩)⟩, ⟨by (with_reducible repeat (first | apply Kd.R_alloc | apply Kd.R_drewN | apply Kd.R_drew)); exact Kd.R_mono (Kd.R_far (p := ⟨gb697, 2, none⟩) (Kd.R_types HO_698001.out BK697.out (by decide)) (fun _ hk => hk.2) (.slice Ao22 y704.length co22)) (fun _ hk => ⟨hk.1.1, hk.1.2⟩)⟩, ⟨by (with_reducible repeat (first | apply Kd.R_alloc | apply Kd.R_drewN | apply Kd.R_drew)); exact Kd.R_mono (Kd.R_far (p := ⟨gb697, 2, none⟩) (Kd.R_types HO706.out BK697.out (by decide)) (fun _ hk => hk.2) (.slice Ao22 y704.length co22)) (fun _ hk => ⟨hk.1.1, hk.1.2⟩)⟩, ⟨z72_⟩, ⟨z111_⟩, ⟨z31_⟩⟩
       ·rw [if_neg c17] at H
        have c17b0 : (x2_1 == x3_2) = false := beq_eq_false_iff_ne.mpr c17
        have c17b1 : (x2_1 != x3_2) = true := bne_iff_ne.mpr c17
        obtain ⟨c24, H⟩ := ifs_ H
        have LMc24 := Aside0.mk c24
        clear c24
        first | ((with_reducible have hz_ := gy_ H); obtain ⟨y707, Ny707, H⟩ := hz_) | (generalize hy_ : (x698002_2 ++ [1]) = y707 at H; have Ny707 := Aside0.mk hy_.symm; clear hy_)
        have H' := Aside0.mk H
        clear H
        have hnb25 := NB697_696.out
        have hnc25 := NB696_697.out
        obtain ⟨hcz26_0, hcz26_1, hcz26_2, hfz26_0, hfz26_1, hfz26_2⟩ := bx3_ BK697.out
        go_wp2_with (first | ((with_reducible refine gate_builtin (b := .append) (xs := #[.tmp 28, .tmp 30]) rfl ?_); at_builtin; refine Kd.R_append (Kd.int .i64) (w0 := w) w.heap.size rfl (.tmp 28) (.tmp 30) 61 3 (.int .i64 0) 8 rfl Try.underlying61 info3 rfl (by decide) (by omega) u698002 x698002_2 1 [.int .i64 1] (fun k_ => some k_ ≠ (.slice Ao11 y698.length co11 : Value).ownBlock ∧ some k_ ≠ (.slice Ao14 y701.length co14 : Value).ownBlock) (fun _ => False) rfl rfl ?aP (fun _ hk => hk.elim) ?aF ?aO ?aB ?aS ?aL ?_; (case aP => exact rfl); (case aB => exact z88_); (case aF => exact z115_); (case aO => exact z196_); (case aS => exact z82_); (case aL => have := LMc24.out; omega); intro v708 w27 ho hb hg hat; rw [← Ny707.out] at ho; replace HO_698000 := Aside0.mk (Kd.R_after (ok := (fun k_ => some k_ ≠ (.slice Ao14 y701.length co14 : Value).ownBlock)) z113_ hg hat); replace HO_698001 := Aside0.mk (Kd.R_after (ok := (fun k_ => some k_ ≠ (.slice Ao11 y698.length co11 : Value).ownBlock)) z112_ hg hat); replace BK696 := Aside0.mk (blk_grown (g := gb696) (o := .cells #[.slice none 0 0, .slice none 0 0, .slice none 0 0] 63 (0, 0)) z95_ hg (Kd.R_ne HO_698002.out BK696.out (by decide))); replace BK697 := Aside0.mk (blk_grown (g := gb697) (o := .cells #[.slice Ao11 y698.length co11, .slice Ao14 y701.length co14, u698002] 63 (0, 0)) z135_ hg (Kd.R_ne HO_698002.out BK697.out (by decide))); replace HB := Aside0.mk (hb); have HO709 := Aside0.mk (ho); clear HO_698002; clear ho hb hg hat; obtain ⟨Ao28, co28, eo28⟩ := Kd.R_slice HO709.out; subst eo28; obtain ⟨hcz29_0, hcz29_1, hcz29_2, hfz29_0, hfz29_1, hfz29_2⟩ := bx3_ BK697.out))
        go_roundg k2
        case measure => have := HK1.out; have := HK2.out; omega
        case rel => exact ⟨(wrap64 (x3_2 + 1)), (y707), (.slice Ao28 y707.length co28), z11_, H', ⟨z218_⟩, ⟨by (with_reducible repeat (first | apply Kd.R_alloc | apply Kd.R_drewN | apply Kd.R_drew)); exact Kd.R_mono (Kd.R_far (p := ⟨gb697, 2, none⟩) (Kd.R_types HO_698000.out BK697.out (by decide)) (fun _ hk => hk.2) (.slice Ao28 y707.length co28)) (fun _ hk => ⟨hk.1.1, hk.1.2⟩)⟩, ⟨by (with_reducible repeat (first | apply Kd.R_alloc | apply Kd.R_drewN | apply Kd.R_drew)); exact Kd.R_mono (Kd.R_far (p := ⟨gb697, 2, none⟩) (Kd.R_types HO_698001.out BK697.out (by decide)) (fun _ hk => hk.2) (.slice Ao28 y707.length co28)) (fun _ hk => ⟨hk.1.1, hk.1.2⟩)⟩, ⟨by (with_reducible repeat (first | apply Kd.R_alloc | apply Kd.R_drewN | apply Kd.R_drew)); exact Kd.R_mono (Kd.R_far (p := ⟨gb697, 2, none⟩) (Kd.R_types HO709.out BK697.out (by decide)) (fun _ hk => hk.2) (.slice Ao28 y707.length co28)) (fun _ hk => ⟨hk.1.1, hk.1.2⟩)⟩, ⟨z72_⟩, ⟨z111_⟩, ⟨z31_⟩⟩
      ·rw [if_neg c16] at H
       have c16b0 := decide_eq_false c16
       clear c16
       have H' := Aside0.mk H
       clear H
       go_wp2
       go_roundg k2
       case measure => have := HK1.out; have := HK2.out; omega
       case rel => exact ⟨(wrap64 (x2_1 + 1)), (y698), (y701), (x698002_2), (.slice Ao11 y698.length co11), (.slice Ao14 y701.length co14), (u698002), z11_, H', ⟨z218_⟩, ⟨z113_⟩, ⟨z112_⟩, ⟨z138_⟩, ⟨z95_⟩, ⟨z135_⟩, ⟨z31_⟩⟩
   ·rw [if_neg c5] at H
    have c5b0 := decide_eq_false c5
    clear c5
    simp only [Option.some.injEq, Prod.mk.injEq] at H
    obtain ⟨rfl, rfl, rfl⟩ := H
    have hnb30 := NB697_696.out
    have hnc30 := NB696_697.out
    obtain ⟨hcz31_0, hcz31_1, hcz31_2, hfz31_0, hfz31_1, hfz31_2⟩ := bx3_ BK697.out
    obtain ⟨Ao32, co32, eo32⟩ := Kd.R_slice HO_698000.out
    subst eo32
    obtain ⟨hcz33_0, hcz33_1, hcz33_2, hfz33_0, hfz33_1, hfz33_2⟩ := bx3_ BK696.out
    obtain ⟨Ao34, co34, eo34⟩ := Kd.R_slice HO_698001.out
    subst eo34
    obtain ⟨Ao35, co35, eo35⟩ := Kd.R_slice HO_698002.out
    subst eo35
    go_wp2
    refine bodyPost_ret (results_cell_row rfl _ _ gb696 63 #[.slice Ao32 x698000_1.length co32, .slice Ao34 x698001_1.length co34, .slice Ao35 x698002_1.length co35] (0, 0) _ rfl (by (with_reducible repeat (first | refine blk_drewN ?_ _ | refine blk_drew ?_ | refine blk_alloc ?_ _)); refine blk_put (cs := #[.slice Ao32 x698000_1.length co32, .slice Ao34 x698001_1.length co34, .slice none 0 0]) ?_ 2 _ rfl; (with_reducible repeat (first | refine blk_drewN ?_ _ | refine blk_drew ?_ | refine blk_alloc ?_ _)); refine blk_put (cs := #[.slice Ao32 x698000_1.length co32, .slice none 0 0, .slice none 0 0]) ?_ 1 _ rfl; (with_reducible repeat (first | refine blk_drewN ?_ _ | refine blk_drew ?_ | refine blk_alloc ?_ _)); refine blk_put (cs := #[.slice none 0 0, .slice none 0 0, .slice none 0 0]) ?_ 0 _ rfl; (with_reducible repeat (first | refine blk_drewN ?_ _ | refine blk_drew ?_ | refine blk_alloc ?_ _)); exact BK696.out) Try.underlying63 rfl (by kernel_rfl)) rfl ?_
    exact ⟨_, _, _, z6_, by (with_reducible repeat (first | apply Kd.R_alloc | apply Kd.R_drewN | apply Kd.R_drew)); exact Kd.R_mono (Kd.R_far (p := ⟨gb696, 2, none⟩) (Kd.R_far (p := ⟨gb696, 1, none⟩) (Kd.R_far (p := ⟨gb696, 0, none⟩) (Kd.R_types HO_698000.out BK696.out (by decide)) (fun _ hk => hk.2) (.slice Ao32 x698000_1.length co32)) (fun _ hk => hk.2) (.slice Ao34 x698001_1.length co34)) (fun _ hk => hk.2) (.slice Ao35 x698002_1.length co35)) (fun _ hk => ⟨hk.1.1, hk.1.2⟩), by (with_reducible repeat (first | apply Kd.R_alloc | apply Kd.R_drewN | apply Kd.R_drew)); exact Kd.R_mono (Kd.R_far (p := ⟨gb696, 2, none⟩) (Kd.R_far (p := ⟨gb696, 1, none⟩) (Kd.R_far (p := ⟨gb696, 0, none⟩) (Kd.R_types HO_698001.out BK696.out (by decide)) (fun _ hk => hk.2) (.slice Ao32 x698000_1.length co32)) (fun _ hk => hk.2) (.slice Ao34 x698001_1.length co34)) (fun _ hk => hk.2) (.slice Ao35 x698002_1.length co35)) (fun _ hk => ⟨hk.1.1, hk.1.2⟩), by (with_reducible repeat (first | apply Kd.R_alloc | apply Kd.R_drewN | apply Kd.R_drew)); exact Kd.R_mono (Kd.R_far (p := ⟨gb696, 2, none⟩) (Kd.R_far (p := ⟨gb696, 1, none⟩) (Kd.R_far (p := ⟨gb696, 0, none⟩) (Kd.R_types HO_698002.out BK696.out (by decide)) (fun _ hk => hk.2) (.slice Ao32 x698000_1.length co32)) (fun _ hk => hk.2) (.slice Ao34 x698001_1.length co34)) (fun _ hk => hk.2) (.slice Ao35 x698002_1.length co35)) (fun _ hk => ⟨hk.1.1, hk.1.2⟩), z31_⟩

/-! ### laws_FnJoined: function 7 -/
def laws_FnJoined.j0 : Nat → List (S80) → List (S78) → List (S78) → Bool → Option (Bool)
 | 0, _, _, _, _ => none
 | k + 1, x3, x4, x5, x57 => if x57 = true then (none) else ((impl_Joined.f k x4 x5).bind fun t738 => ((impl_ApplyAll.f k x3 t738).bind fun bt741 => ((spec_ApplyAll.f k x3 x4).bind fun bt746 => (if bt746.2.2 = 0 then ((spec_ApplyAll.f k bt746.1 x5).bind fun bt751 => (if bt741.2.2 = bt751.2.2 then (if bt741.2.1 = (wrap64 (bt746.2.1 + bt751.2.1)) then ((spec_SameTree.f k bt741.1 bt751.1).bind fun t756 => (if t756 = true then ((spec_TreeOk.f k x3).bind fun t757 => (if t757 = true then ((spec_UnitCost.f k).bind fun bt758 => ((impl_ScriptCost.f k x3 x4 bt758.1 bt758.2.1 bt758.2.2).bind fun t767 => (some (decide (t767 ≥ 0))))) else (some true))) else (none))) else (none)) else (none))) else (if bt741.2.2 = bt746.2.2 then (some (bt741.2.1 == bt746.2.1)) else (none))))))
def laws_FnJoined.f (k : Nat) (l0 : List Int) : Option (Bool) := (laws_big.f l0).bind fun t710 => (if t710 = true then (some true) else ((spec_DrawApplyAll.f k l0).bind fun bt711 => ((spec_DrawJoined.f k l0).bind fun bt717 => ((impl_Joined.f k bt717.1 bt717.2).bind fun t723 => (if (t723.length : Int) = (wrap64 ((bt717.1.length : Int) + (bt717.2.length : Int))) then (if 0 ≤ (bt717.1.length : Int) then (if (bt717.1.length : Int) ≤ (t723.length : Int) then ((spec_SameOps.f k (t723.take ((bt717.1.length : Int) : Int).toNat) bt717.1).bind fun t731 => (if t731 = true then ((spec_SameOps.f k (t723.drop ((bt717.1.length : Int) : Int).toNat) bt717.2).bind fun t737 => (laws_FnJoined.j0 k bt711.1 bt711.2 bt717.1 (!t737))) else (laws_FnJoined.j0 k bt711.1 bt711.2 bt717.1 true))) else (none)) else (none)) else (laws_FnJoined.j0 k bt711.1 bt711.2 bt717.1 true))))))
set_option maxHeartbeats 8000000 in
set_option maxRecDepth 100000 in
theorem laws_FnJoined.calls (k : Nat) (A0 : Option Addr) (c0 : Nat) (l0 : List Int) (r : Bool) (w : World) (hr0 : Kd.C (Kd.int .u8) w A0 l0.length l0) (hc0 : l0.length ≤ c0) (h : laws_FnJoined.f k l0 = some r) :
  Calls Try.prog 7 #[.slice A0 l0.length c0] w fun e w' => e = .returned (.bool r) ∧ Below w.heap.size w w' := by
 have HR0 := Aside0.mk hr0
 have HC0 := Aside0.mk hc0
 clear hr0 hc0
 have HB := Aside0.mk (Below.refl w.heap.size w)
 have H : ((laws_big.f l0).bind fun t710 => (if t710 = true then (some true) else ((spec_DrawApplyAll.f k l0).bind fun bt711 => ((spec_DrawJoined.f k l0).bind fun bt717 => ((impl_Joined.f k bt717.1 bt717.2).bind fun t723 => (if (t723.length : Int) = (wrap64 ((bt717.1.length : Int) + (bt717.2.length : Int))) then (if 0 ≤ (bt717.1.length : Int) then (if (bt717.1.length : Int) ≤ (t723.length : Int) then ((spec_SameOps.f k (t723.take ((bt717.1.length : Int) : Int).toNat) bt717.1).bind fun t731 => (if t731 = true then ((spec_SameOps.f k (t723.drop ((bt717.1.length : Int) : Int).toNat) bt717.2).bind fun t737 => (laws_FnJoined.j0 k bt711.1 bt711.2 bt717.1 (!t737))) else (laws_FnJoined.j0 k bt711.1 bt711.2 bt717.1 true))) else (none)) else (none)) else (laws_FnJoined.j0 k bt711.1 bt711.2 bt717.1 true))))))) = some r := h
 clear h
 obtain ⟨t710, A2, H⟩ := bnd_ H
 by_cases c3 : t710 = true
 ·subst c3
  replace H := ift_ H
  obtain rfl := Option.some.inj H
  go_enter Try.func7, Try.ntmps7
  go_wp2_with (first | ((with_reducible refine gate_callee (f := 31) rfl ?_); refine goesL_ (some 18) rfl rfl Try.func31 (by kernel_rfl) rfl #[.slice A0 l0.length c0] rfl z1_ ?_; (with_reducible refine (laws_big.calls _ _ l0 true _ ?side1 ?side2 A2.out).mono ?_); (case side1 => exact z17_); (case side2 => exact HC0.out); rintro e w' ⟨rfl, ⟨nd, rfl⟩⟩; refine ⟨_, rfl, ?_⟩))
  go_ret
  exact ⟨z6_, z0_⟩
 ·replace c3 := Bool.eq_false_iff.mpr c3
  subst c3
  replace H := iff_ H
  replace H := Option.bind_eq_some_iff.mp H
  obtain ⟨⟨t711, t712⟩, A40, H⟩ := H
  try dsimp only at H
  have A4 := Aside0.mk A40
  clear A40
  replace H := Option.bind_eq_some_iff.mp H
  obtain ⟨⟨t717, t718⟩, A50, H⟩ := H
  try dsimp only at H
  have A5 := Aside0.mk A50
  clear A50
  obtain ⟨t723, A6, H⟩ := bnd_ H
  have HC7 := Aside0.mk H
  clear H
  go_enter Try.func7, Try.ntmps7
  go_upto_region 6 with (first | ((with_reducible refine gate_callee (f := 31) rfl ?_); refine goesL_ (some 18) rfl rfl Try.func31 (by kernel_rfl) rfl #[.slice A0 l0.length c0] rfl z1_ ?_; (with_reducible refine (laws_big.calls _ _ l0 false _ ?side1 ?side2 A2.out).mono ?_); (case side1 => exact z17_); (case side2 => exact HC0.out); rintro e w' ⟨rfl, ⟨nd, rfl⟩⟩; refine ⟨_, rfl, ?_⟩) | ((with_reducible refine gate_callee (f := 32) rfl ?_); refine goesL_ (some 21) rfl rfl Try.func32 (by kernel_rfl) rfl #[.slice A0 l0.length c0] rfl z1_ ?_; (with_reducible refine (spec_DrawApplyAll.calls k _ _ l0 t711 t712 _ ?side1 ?side2 A4.out).mono ?_); (case side1 => exact z17_); (case side2 => exact HC0.out); rintro e w8 ⟨v713, v715, rfl, ho0, ho1, hb⟩; refine ⟨_, rfl, ?_⟩; have HO714 := Aside0.mk (Kd.Q_lower ho0 (below_size z0_)); have HO716 := Aside0.mk (Kd.N_lower (Kd.N_mono (ok' := fun k_ => some k_ ≠ (v713 : Value).ownBlock) (Kd.S_N (Kd.S_bound (Kd.S_apart' ho1 (Kd.Q_typed ho0) (by decide)))) (fun k_ hk_ => hk_.1.2)) (below_size z0_)); replace HB := Aside0.mk (below_step z0_ hb); (try clear hb ho0 ho1)) | ((with_reducible refine gate_callee (f := 33) rfl ?_); refine goesL_ (some 26) rfl rfl Try.func33 (by kernel_rfl) rfl #[.slice A0 l0.length c0] rfl z1_ ?_; (with_reducible refine (spec_DrawJoined.calls k _ _ l0 t717 t718 _ ?side1 ?side2 A5.out).mono ?_); (case side1 => exact z5_); (case side2 => exact HC0.out); rintro e w9 ⟨v719, v721, rfl, ho0, ho1, hb⟩; refine ⟨_, rfl, ?_⟩; have HO720 := Aside0.mk (Kd.N_lower (Kd.N_mono (ok' := fun k_ => some k_ ≠ (v721 : Value).ownBlock ∧ some k_ ≠ (v713 : Value).ownBlock ∧ some k_ ≠ (v715 : Value).ownBlock) (Kd.S_N (Kd.S_bound ho0)) (fun k_ hk_ => ⟨hk_.1, (Kd.fresh' (Kd.Q_lt z67_) k_ hk_.2.1), (Kd.fresh' (Kd.N_lt z86_) k_ hk_.2.1)⟩)) (below_size z0_)); have HO722 := Aside0.mk (Kd.N_lower (Kd.N_mono (ok' := fun k_ => some k_ ≠ (v719 : Value).ownBlock ∧ some k_ ≠ (v713 : Value).ownBlock ∧ some k_ ≠ (v715 : Value).ownBlock) (Kd.S_N (Kd.S_bound ho1)) (fun k_ hk_ => ⟨hk_.1, (Kd.fresh' (Kd.Q_lt z67_) k_ hk_.2.1), (Kd.fresh' (Kd.N_lt z86_) k_ hk_.2.1)⟩)) (below_size z0_)); replace HO714 := Aside0.mk (Kd.Q_below z67_ hb); replace HO716 := Aside0.mk (Kd.N_mono (Kd.N_told (Kd.N_told (Kd.N_old z86_ hb) (Kd.N_base (Kd.S_N ho0))) (Kd.N_base (Kd.S_N ho1))) (fun _ h_ => h_.1)); replace HB := Aside0.mk (below_step z0_ hb); (try clear hb ho0 ho1); obtain ⟨Ao10, co10, eo10⟩ := Kd.N_slice HO720.out; subst eo10; obtain ⟨Ao11, co11, eo11⟩ := Kd.N_slice HO722.out; subst eo11) | ((with_reducible refine gate_callee (f := 30) rfl ?_); refine goesL_ (some 31) rfl rfl Try.func30 (by kernel_rfl) rfl #[.slice Ao10 t717.length co10, .slice Ao11 t718.length co11] rfl z1_ ?_; (with_reducible refine (impl_Joined.calls k (fun k_ => (some k_ ≠ (.slice Ao11 t718.length co11 : Value).ownBlock ∧ (some k_ ≠ (v713 : Value).ownBlock ∧ some k_ ≠ (v715 : Value).ownBlock))) _ _ t717 (fun k_ => (some k_ ≠ (.slice Ao10 t717.length co10 : Value).ownBlock ∧ (some k_ ≠ (v713 : Value).ownBlock ∧ some k_ ≠ (v715 : Value).ownBlock))) _ _ t718 t723 _ ?side1 ?side2 A6.out).mono ?_); (case side1 => exact Kd.N_V (HO720.out)); (case side2 => exact Kd.N_V (HO722.out)); rintro e w12 ⟨v724, rfl, ho0, hb⟩; refine ⟨_, rfl, ?_⟩; replace HO720 := Aside0.mk (Kd.N_elder' z146_ (Kd.N_base ho0) hb); replace HO722 := Aside0.mk (Kd.N_elder' z147_ (Kd.N_base ho0) hb); have HO725 := Aside0.mk (Kd.N_lower (Kd.N_mono (ok' := fun k_ => some k_ ≠ (v713 : Value).ownBlock ∧ some k_ ≠ (v715 : Value).ownBlock) ho0 (fun k_ hk_ => ⟨Or.elim hk_ (fun hs_ => Or.elim hs_ (fun hs_ => hs_.2.1) (fun hs_ => hs_.2.1)) (fun hn_ => (Kd.fresh' (Kd.Q_lt z67_) k_ hn_)), Or.elim hk_ (fun hs_ => Or.elim hs_ (fun hs_ => hs_.2.2) (fun hs_ => hs_.2.2)) (fun hn_ => (Kd.fresh' (Kd.N_lt z86_) k_ hn_))⟩)) (below_size z0_)); replace HO714 := Aside0.mk (Kd.Q_below z67_ hb); replace HO716 := Aside0.mk (Kd.N_elder' z86_ (Kd.N_base ho0) hb); replace HB := Aside0.mk (below_step z0_ hb); (try clear hb ho0)))
  (try simp only [Act.put, List.setIfInBounds_toArray, List.set_cons_zero, List.set_cons_succ])
  go_cut [57] (fun v57 wc => ∃ (kq : Nat) (x57_6 : Bool), v57 = .bool x57_6 ∧ Aside0 (laws_FnJoined.j0 kq t711 t712 t717 x57_6 = some r) ∧ Aside0 (kq ≤ k) ∧ Aside0 (Kd.Q k80 80 wc w.heap.size (fun _ => True) v713 t711) ∧ Aside0 (Kd.N k78 78 wc w.heap.size (fun k_ => some k_ ≠ (v713 : Value).ownBlock ∧ some k_ ≠ ((.slice Ao10 t717.length co10) : Value).ownBlock) v715 t712) ∧ Aside0 (Kd.N k78 78 wc w.heap.size (fun k_ => some k_ ≠ (v713 : Value).ownBlock ∧ some k_ ≠ (v715 : Value).ownBlock) (.slice Ao10 t717.length co10) t717) ∧ Aside0 (Below w.heap.size w wc))
  case first =>
   have H := HC7.out
   clear HC7
   by_cases c13 : (t723.length : Int) = (wrap64 ((t717.length : Int) + (t718.length : Int)))
   ·rw [if_pos c13] at H
    have c13b0 : ((t723.length : Int) == (wrap64 ((t717.length : Int) + (t718.length : Int)))) = true := beq_iff_eq.mpr c13
    have c13b1 : ((t723.length : Int) != (wrap64 ((t717.length : Int) + (t718.length : Int)))) = false := bne_eq_false_iff_eq.mpr c13
    clear c13
    (first | rw [c13b0] | rw [c13b1] | (simp only [i64_w, i32_w]; rw [c13b0]) | skip)
    obtain ⟨c14b0, c14b1, H⟩ := ife_ H
    obtain ⟨c15b0, c15b1, H⟩ := ife_ H
    first | ((with_reducible have hz_ := gy_ H); obtain ⟨y726, Ny726, H⟩ := hz_) | (generalize hy_ : (t723.take ((t717.length : Int) : Int).toNat) = y726 at H; have Ny726 := Aside0.mk hy_.symm; clear hy_)
    obtain ⟨t731, A16, H⟩ := bnd_ H
    by_cases c17 : t731 = true
    ·subst c17
     replace H := ift_ H
     have c18b0 := eq_true (odt_ : 0 ≤ (t717.length : Int))
     have c19b0 := eq_true (odt_ : (t717.length : Int) ≤ (t723.length : Int))
     first | ((with_reducible have hz_ := gy_ H); obtain ⟨y732, Ny732, H⟩ := hz_) | (generalize hy_ : (t723.drop ((t717.length : Int) : Int).toNat) = y732 at H; have Ny732 := Aside0.mk hy_.symm; clear hy_)
     obtain ⟨t737, A20, H⟩ := bnd_ H
     have H' := Aside0.mk H
     clear H
     obtain ⟨Ao21, co21, eo21⟩ := Kd.N_slice HO725.out
     subst eo21
     have q22 : ((t717.length : Int) : Int) ≤ ((t723.length : Int) : Int) := odt_
     obtain ⟨i022, hi022, _, hsz22, _⟩ := info_parts info78
     have hroom22 : t723.length ≤ co21 := (Kd.N_reads' HO725.out).2.1
     have hC22 : Kd.F k78 _ _ Ao21 t723.length t723 := (Kd.V_at (base := w.heap.size) (Kd.N_V HO725.out)).2.2
     have hcut22 := cut_to (P := Try.prog) 26 78 .i64 Try.underlying26 hi022 Ao21 t723.length co21 (t717.length : Int) (odt_) q22 hroom22
     have hr22 := Kd.F_take (m := ((t717.length : Int) : Int).toNat) hC22 (by omega)
     have hy22 : y726.length = ((t717.length : Int) : Int).toNat := (by rw [Ny726.out, List.length_take]; omega)
     rw [← Ny726.out] at hr22
     rw [← hy22] at hcut22
     have HO730 := Aside0.mk (show Kd.V k78 78 _ w.heap.size _ (.slice Ao21 y726.length co21) y726 from Kd.V_mk (by omega) hr22)
     have HC730 := Aside0.mk (show y726.length ≤ co21 from by omega)
     clear hr22 hC22 hroom22 hi022 hsz22
     have KY22 := Aside0.mk hy22
     clear hy22
     replace q22 := eq_true q22
     go_wp2_with (first | (go_at_call 34; (with_reducible refine (spec_SameOps.calls k _ _ y726 _ _ t717 true _ ?side1 ?side2 ?side3 ?side4 A16.out).mono ?_); (case side1 => exact z162_); (case side2 => exact (Kd.V_reads' HO730.out).2.1); (case side3 => exact z163_); (case side4 => exact (Kd.N_reads' HO720.out).2.1); rintro e w23 ⟨rfl, hb⟩; replace HO714 := Aside0.mk (Kd.Q_below z67_ hb); replace HO716 := Aside0.mk (Kd.N_below z86_ hb); replace HO720 := Aside0.mk (Kd.N_below z146_ hb); replace HO722 := Aside0.mk (Kd.N_below z147_ hb); replace HO725 := Aside0.mk (Kd.N_below z175_ hb); replace HO730 := Aside0.mk (Kd.V_below z176_ hb); replace HB := Aside0.mk (below_step z0_ hb); (try clear hb); have q24 : ((t717.length : Int) : Int) ≤ ((t723.length : Int) : Int) := odt_; obtain ⟨i024, hi024, _, hsz24, _⟩ := info_parts info78; have hroom24 : t723.length ≤ co21 := (Kd.N_reads' HO725.out).2.1; have hC24 : Kd.F k78 _ _ Ao21 t723.length t723 := (Kd.V_at (base := w.heap.size) (Kd.N_V HO725.out)).2.2; have q024 : (0 : Int) ≤ ((t717.length : Int) : Int) := odt_; have hcut24 := cut_from (P := Try.prog) 26 78 .i64 Try.underlying26 hi024 5 hsz24 Ao21 t723.length co21 (t717.length : Int) q024 q24; have hr24 := Kd.F_cut (m := ((t717.length : Int) : Int).toNat) (c := co21) hC24 (by omega) hroom24; obtain ⟨A24, hA24⟩ : ∃ A1, A1 = (if co21 = ((t717.length : Int) : Int).toNat then Ao21 else (Ao21 : Option Addr).map (·.add (((t717.length : Int) : Int).toNat * 5))) := ⟨_, rfl⟩; obtain ⟨c24, hc24⟩ : ∃ c1, c1 = co21 - ((t717.length : Int) : Int).toNat := ⟨_, rfl⟩; have hy24 : y732.length = t723.length - ((t717.length : Int) : Int).toNat := (by rw [Ny732.out, List.length_drop] <;> omega); rw [show (t723).drop ((t717.length : Int) : Int).toNat = y732 from Ny732.out.symm] at hr24; replace hr24 : Kd.F k78 _ _ A24 y732.length y732 := (by rw [hA24]; exact hr24); rw [← hy24, ← hA24, ← hc24] at hcut24; have HO736 := Aside0.mk (show Kd.V k78 78 _ w.heap.size _ (.slice A24 y732.length c24) y732 from Kd.V_mk (by rw [hy24, hc24]; exact Nat.sub_le_sub_right hroom24 _) hr24); have HC736 := Aside0.mk (show y732.length ≤ c24 from by rw [hy24, hc24]; exact Nat.sub_le_sub_right hroom24 _); clear hr24 hC24 hroom24 hi024 hsz24 hc24; have KY24 := Aside0.mk hy24; have KA24 := Aside0.mk hA24; clear hy24 hA24; replace q24 := eq_true q24) | (go_at_call 34; (with_reducible refine (spec_SameOps.calls k _ _ y732 _ _ t718 t737 _ ?side1 ?side2 ?side3 ?side4 A20.out).mono ?_); (case side1 => repeat (first | exact (Kd.V_reads' HO736.out).2.2 | (with_reducible refine Kd.C_alloc ?_ _) | (with_reducible refine Kd.C_drewN ?_ _) | (with_reducible refine Kd.C_drew ?_))); (case side2 => exact (Kd.V_reads' HO736.out).2.1); (case side3 => repeat (first | exact (Kd.N_reads' HO722.out).2.2 | (with_reducible refine Kd.C_alloc ?_ _) | (with_reducible refine Kd.C_drewN ?_ _) | (with_reducible refine Kd.C_drew ?_))); (case side4 => exact (Kd.N_reads' HO722.out).2.1); rintro e w25 ⟨rfl, hb⟩; replace HO714 := Aside0.mk (Kd.Q_below z67_ hb); replace HO716 := Aside0.mk (Kd.N_below z86_ hb); replace HO720 := Aside0.mk (Kd.N_below z146_ hb); replace HO722 := Aside0.mk (Kd.N_below z147_ hb); replace HO725 := Aside0.mk (Kd.N_below z175_ hb); replace HO730 := Aside0.mk (Kd.V_below z176_ hb); replace HO736 := Aside0.mk (Kd.V_below (by (with_reducible repeat (first | apply Kd.V_alloc | apply Kd.V_drewN | apply Kd.V_drew)); exact HO736.out) hb); replace HB := Aside0.mk (below_step z0_ hb); (try clear hb)))
     go_meet
     case rel => exact ⟨_, (!t737), z11_, H', ⟨z129_⟩, ⟨z67_⟩, ⟨z136_⟩, ⟨z137_⟩, ⟨z0_⟩⟩
    ·replace c17 := Bool.eq_false_iff.mpr c17
     subst c17
     replace H := iff_ H
     have H' := Aside0.mk H
     clear H
     obtain ⟨Ao26, co26, eo26⟩ := Kd.N_slice HO725.out
     subst eo26
     have q27 : ((t717.length : Int) : Int) ≤ ((t723.length : Int) : Int) := odt_
     obtain ⟨i027, hi027, _, hsz27, _⟩ := info_parts info78
     have hroom27 : t723.length ≤ co26 := (Kd.N_reads' HO725.out).2.1
     have hC27 : Kd.F k78 _ _ Ao26 t723.length t723 := (Kd.V_at (base := w.heap.size) (Kd.N_V HO725.out)).2.2
     have hcut27 := cut_to (P := Try.prog) 26 78 .i64 Try.underlying26 hi027 Ao26 t723.length co26 (t717.length : Int) (odt_) q27 hroom27
     have hr27 := Kd.F_take (m := ((t717.length : Int) : Int).toNat) hC27 (by omega)
     have hy27 : y726.length = ((t717.length : Int) : Int).toNat := (by rw [Ny726.out, List.length_take]; omega)
     rw [← Ny726.out] at hr27
     rw [← hy27] at hcut27
     have HO730 := Aside0.mk (show Kd.V k78 78 _ w.heap.size _ (.slice Ao26 y726.length co26) y726 from Kd.V_mk (by omega) hr27)
     have HC730 := Aside0.mk (show y726.length ≤ co26 from by omega)
     clear hr27 hC27 hroom27 hi027 hsz27
     have KY27 := Aside0.mk hy27
     clear hy27
     replace q27 := eq_true q27
     go_wp2_with (first | (go_at_call 34; (with_reducible refine (spec_SameOps.calls k _ _ y726 _ _ t717 false _ ?side1 ?side2 ?side3 ?side4 A16.out).mono ?_); (case side1 => exact z162_); (case side2 => exact (Kd.V_reads' HO730.out).2.1); (case side3 => exact z163_); (case side4 => exact (Kd.N_reads' HO720.out).2.1); rintro e w28 ⟨rfl, hb⟩; replace HO714 := Aside0.mk (Kd.Q_below z67_ hb); replace HO716 := Aside0.mk (Kd.N_below z86_ hb); replace HO720 := Aside0.mk (Kd.N_below z146_ hb); replace HO722 := Aside0.mk (Kd.N_below z147_ hb); replace HO725 := Aside0.mk (Kd.N_below z175_ hb); replace HO730 := Aside0.mk (Kd.V_below z176_ hb); replace HB := Aside0.mk (below_step z0_ hb); (try clear hb)))
     go_meet
     case rel => exact ⟨_, (true), z11_, H', ⟨z129_⟩, ⟨z67_⟩, ⟨z136_⟩, ⟨z137_⟩, ⟨z0_⟩⟩
   ·rw [if_neg c13] at H
    have c13b0 : ((t723.length : Int) == (wrap64 ((t717.length : Int) + (t718.length : Int)))) = false := beq_eq_false_iff_ne.mpr c13
    have c13b1 : ((t723.length : Int) != (wrap64 ((t717.length : Int) + (t718.length : Int)))) = true := bne_iff_ne.mpr c13
    (first | rw [c13b0] | rw [c13b1] | (simp only [i64_w, i32_w]; rw [c13b0]) | skip)
    have H' := Aside0.mk H
    clear H
    obtain ⟨Ao29, co29, eo29⟩ := Kd.N_slice HO725.out
    subst eo29
    go_wp2
    go_meet
    case rel => exact ⟨_, (true), z11_, H', ⟨z129_⟩, ⟨z67_⟩, ⟨z136_⟩, ⟨z137_⟩, ⟨z0_⟩⟩
  case rest =>
   clear HC7
   try clear c1
   try clear c2
   try clear p2
   try clear q2
   try clear c3
   try clear p6
   try clear c7
   try clear c13
   try clear c13b0
   try clear c13b1
   try clear c14
   try clear c14b0
   try clear c14b1
   try clear c15
   try clear c15b0
   try clear c15b1
   try clear c17
   try clear c18
   try clear c18b0
   try clear c19
   try clear c19b0
   try clear q22
   try clear c24
   try clear q24
   try clear q27
   try clear q024
   try clear q22
   try clear q24
   try clear q27
   obtain ⟨kq, x57_6, rfl, HA, HJ6, HO_3, HO_4, HO_5, HB⟩ := hcut
   cases kq with
   | zero => exact absurd HA.out (by simp [laws_FnJoined.j0])
   | succ kj6 =>
    have H := HA.out
    clear HA
    simp only [laws_FnJoined.j0] at H
    by_cases c30 : x57_6 = true
    ·subst c30
     rw [if_pos rfl] at H
     exact absurd H (by simp)
    ·replace c30 := Bool.eq_false_iff.mpr c30
     subst c30
     replace H := iff_ H
     obtain ⟨t738, A31, H⟩ := bnd_ H
     replace H := Option.bind_eq_some_iff.mp H
     obtain ⟨⟨t741, t742, t743⟩, A320, H⟩ := H
     try dsimp only at H
     have A32 := Aside0.mk A320
     clear A320
     replace H := Option.bind_eq_some_iff.mp H
     obtain ⟨⟨t746, t747, t748⟩, A330, H⟩ := H
     try dsimp only at H
     have A33 := Aside0.mk A330
     clear A330
     by_cases c34 : t748 = 0
     ·rw [if_pos c34] at H
      have c34b0 : (t748 == 0) = true := beq_iff_eq.mpr c34
      have c34b1 : (t748 != 0) = false := bne_eq_false_iff_eq.mpr c34
      clear c34
      replace H := Option.bind_eq_some_iff.mp H
      obtain ⟨⟨t751, t752, t753⟩, A350, H⟩ := H
      try dsimp only at H
      have A35 := Aside0.mk A350
      clear A350
      obtain ⟨c36, H⟩ := ifs_ H
      have c36b0 : (t743 == t753) = true := beq_iff_eq.mpr c36
      have c36b1 : (t743 != t753) = false := bne_eq_false_iff_eq.mpr c36
      clear c36
      obtain ⟨c37, H⟩ := ifs_ H
      have c37b0 : (t742 == (wrap64 (t747 + t752))) = true := beq_iff_eq.mpr c37
      have c37b1 : (t742 != (wrap64 (t747 + t752))) = false := bne_eq_false_iff_eq.mpr c37
      clear c37
      obtain ⟨t756, A38, H⟩ := bnd_ H
      by_cases c39 : t756 = true
      ·subst c39
       replace H := ift_ H
       obtain ⟨t757, A40, H⟩ := bnd_ H
       by_cases c41 : t757 = true
       ·subst c41
        replace H := ift_ H
        replace H := Option.bind_eq_some_iff.mp H
        obtain ⟨⟨t758, t761, t764⟩, A420, H⟩ := H
        try dsimp only at H
        have A42 := Aside0.mk A420
        clear A420
        obtain ⟨t767, A43, H⟩ := bnd_ H
        obtain rfl := Option.some.inj H
        obtain ⟨Ao44, co44, eo44⟩ := Kd.N_slice HO_4.out
        subst eo44
        go_wp2_with (first | ((with_reducible refine gate_callee (f := 30) rfl ?_); refine goesL_ (some 62) rfl rfl Try.func30 (by kernel_rfl) rfl #[.slice Ao44 t712.length co44, .slice Ao10 t717.length co10] rfl z1_ ?_; (with_reducible refine (impl_Joined.calls kj6 (fun k_ => (some k_ ≠ (v713 : Value).ownBlock ∧ some k_ ≠ (.slice Ao10 t717.length co10 : Value).ownBlock)) _ _ t712 (fun k_ => (some k_ ≠ (v713 : Value).ownBlock ∧ some k_ ≠ (.slice Ao44 t712.length co44 : Value).ownBlock)) _ _ t717 t738 _ ?side1 ?side2 A31.out).mono ?_); (case side1 => exact Kd.N_V (HO_4.out)); (case side2 => exact Kd.N_V (HO_5.out)); rintro e w45 ⟨v739, rfl, ho0, hb⟩; refine ⟨_, rfl, ?_⟩; replace HO_4 := Aside0.mk (Kd.N_elder' z56_ (Kd.N_base ho0) hb); replace HO_5 := Aside0.mk (Kd.N_elder' z52_ (Kd.N_base ho0) hb); have HO740 := Aside0.mk (Kd.N_lower (Kd.N_mono (ok' := fun k_ => some k_ ≠ (v713 : Value).ownBlock) ho0 (fun k_ hk_ => Or.elim hk_ (fun hs_ => Or.elim hs_ (fun hs_ => hs_.1) (fun hs_ => hs_.1)) (fun hn_ => (Kd.fresh' (Kd.Q_lt z32_) k_ hn_)))) (below_size z0_)); replace HO_3 := Aside0.mk (Kd.Q_below z32_ hb); replace HB := Aside0.mk (below_step z0_ hb); (try clear hb ho0); obtain ⟨Ao46, co46, eo46, _⟩ := Kd.Q_slice HO_3.out; subst eo46; obtain ⟨Ao47, co47, eo47⟩ := Kd.N_slice HO740.out; subst eo47) | ((with_reducible refine gate_callee (f := 35) rfl ?_); refine goesL_ (some 63) rfl rfl Try.func35 (by kernel_rfl) rfl #[.slice Ao46 t711.length co46, .slice Ao47 t738.length co47] rfl z1_ ?_; (with_reducible refine (impl_ApplyAll.calls kj6 _ _ t711 _ _ t738 t741 t742 t743 _ ?side1 ?side2 ?side3 ?side4 A32.out).mono ?_); (case side1 => exact z55_); (case side2 => exact z182_); (case side3 => exact z124_); (case side4 => exact (Kd.N_reads' HO740.out).2.1); rintro e w48 ⟨v744, rfl, ho0, hb⟩; refine ⟨_, rfl, ?_⟩; replace HO_4 := Aside0.mk (Kd.N_elder' z56_ (Kd.R_base ho0) hb); replace HO_5 := Aside0.mk (Kd.N_elder' z52_ (Kd.R_base ho0) hb); replace HO740 := Aside0.mk (Kd.N_elder' z65_ (Kd.R_base ho0) hb); have HO745 := Aside0.mk (Kd.R_lower (Kd.R_new' ho0 (Kd.Q_lt z32_)) (below_size z0_)); replace HO_3 := Aside0.mk (Kd.Q_elder' z32_ (Kd.R_base ho0) hb); replace HB := Aside0.mk (below_step z0_ hb); (try clear hb ho0)) | ((with_reducible refine gate_callee (f := 36) rfl ?_); refine goesL_ (some 70) rfl rfl Try.func36 (by kernel_rfl) rfl #[.slice Ao46 t711.length co46, .slice Ao44 t712.length co44] rfl z1_ ?_; (with_reducible refine (spec_ApplyAll.calls kj6 _ _ t711 _ _ t712 t746 t747 t748 _ ?side1 ?side2 ?side3 ?side4 A33.out).mono ?_); (case side1 => exact z55_); (case side2 => exact z182_); (case side3 => exact z104_); (case side4 => exact z221_); rintro e w49 ⟨v749, rfl, ho0, hb⟩; refine ⟨_, rfl, ?_⟩; replace HO_4 := Aside0.mk (Kd.N_elder' z56_ (Kd.R_base ho0) hb); replace HO_5 := Aside0.mk (Kd.N_elder' z52_ (Kd.R_base ho0) hb); replace HO740 := Aside0.mk (Kd.N_elder' z65_ (Kd.R_base ho0) hb); have HO750 := Aside0.mk (Kd.R_lower (Kd.R_new' (Kd.R_new' ho0 (Kd.Q_lt z32_)) (Kd.R_lt z58_)) (below_size z0_)); replace HO_3 := Aside0.mk (Kd.Q_elder' z32_ (Kd.R_base ho0) hb); replace HO745 := Aside0.mk (Kd.R_elder' z58_ (Kd.R_base ho0) hb); replace HB := Aside0.mk (below_step z0_ hb); (try clear hb ho0); obtain ⟨Ao50, co50, eo50⟩ := Kd.R_slice HO750.out; subst eo50) | ((with_reducible refine gate_callee (f := 36) rfl ?_); refine goesL_ (some 87) rfl rfl Try.func36 (by kernel_rfl) rfl #[.slice Ao50 t746.length co50, .slice Ao10 t717.length co10] rfl z1_ ?_; (with_reducible refine (spec_ApplyAll.calls kj6 _ _ t746 _ _ t717 t751 t752 t753 _ ?side1 ?side2 ?side3 ?side4 A35.out).mono ?_); (case side1 => exact z164_); (case side2 => exact (Kd.R_reads' HO750.out).2.1); (case side3 => exact z168_); (case side4 => exact (Kd.N_reads' HO_5.out).2.1); rintro e w51 ⟨v754, rfl, ho0, hb⟩; refine ⟨_, rfl, ?_⟩; replace HO_4 := Aside0.mk (Kd.N_elder' z56_ (Kd.R_base ho0) hb); replace HO_5 := Aside0.mk (Kd.N_elder' z52_ (Kd.R_base ho0) hb); replace HO740 := Aside0.mk (Kd.N_elder' z65_ (Kd.R_base ho0) hb); have HO755 := Aside0.mk (Kd.R_lower (Kd.R_new' (Kd.R_new' (Kd.R_new' ho0 (Kd.Q_lt z32_)) (Kd.R_lt z58_)) (Kd.R_lt z87_)) (below_size z0_)); replace HO_3 := Aside0.mk (Kd.Q_elder' z32_ (Kd.R_base ho0) hb); replace HO745 := Aside0.mk (Kd.R_elder' z58_ (Kd.R_base ho0) hb); replace HO750 := Aside0.mk (Kd.R_elder' z87_ (Kd.R_base ho0) hb); replace HB := Aside0.mk (below_step z0_ hb); (try clear hb ho0); obtain ⟨Ao52, co52, eo52⟩ := Kd.R_slice HO745.out; subst eo52; obtain ⟨Ao53, co53, eo53⟩ := Kd.R_slice HO755.out; subst eo53) | (go_at_call 37; (with_reducible refine (spec_SameTree.calls kj6 _ _ t741 _ _ t751 true _ ?side1 ?side2 ?side3 ?side4 A38.out).mono ?_); (case side1 => exact z165_); (case side2 => exact (Kd.R_reads' HO745.out).2.1); (case side3 => exact z166_); (case side4 => exact (Kd.R_reads' HO755.out).2.1); rintro e w' ⟨rfl, ⟨nd, rfl⟩⟩) | (go_at_call 38; (with_reducible refine (spec_TreeOk.calls kj6 _ _ t711 true _ ?side1 ?side2 A40.out).mono ?_); (case side1 => exact z55_); (case side2 => exact z182_); rintro e w54 ⟨rfl, hb⟩; replace HO_3 := Aside0.mk (Kd.Q_below z32_ hb); replace HO_4 := Aside0.mk (Kd.N_below z56_ hb); replace HO_5 := Aside0.mk (Kd.N_below z52_ hb); replace HO740 := Aside0.mk (Kd.N_below z65_ hb); replace HO745 := Aside0.mk (Kd.R_below z58_ hb); replace HO750 := Aside0.mk (Kd.R_below z87_ hb); replace HO755 := Aside0.mk (Kd.R_below z148_ hb); replace HB := Aside0.mk (below_step z0_ hb); (try clear hb)) | (go_at_call 40; (with_reducible refine (spec_UnitCost.calls kj6  t758 t761 t764 _ A42.out).mono ?_); rintro e w55 ⟨v759, v762, v765, rfl, ho0, ho1, ho2, hb⟩; replace HO_3 := Aside0.mk (Kd.Q_below z32_ hb); replace HO_4 := Aside0.mk (Kd.N_mono (Kd.N_told (Kd.N_told (Kd.N_told (Kd.N_old z56_ hb) (Kd.R_base ho0)) (Kd.R_base ho1)) (Kd.R_base ho2)) (fun _ h_ => h_.1)); replace HO_5 := Aside0.mk (Kd.N_mono (Kd.N_told (Kd.N_told (Kd.N_told (Kd.N_old z52_ hb) (Kd.R_base ho0)) (Kd.R_base ho1)) (Kd.R_base ho2)) (fun _ h_ => h_.1)); replace HO740 := Aside0.mk (Kd.N_mono (Kd.N_told (Kd.N_told (Kd.N_told (Kd.N_old z65_ hb) (Kd.R_base ho0)) (Kd.R_base ho1)) (Kd.R_base ho2)) (fun _ h_ => h_.1)); replace HO745 := Aside0.mk (Kd.R_below z58_ hb); replace HO750 := Aside0.mk (Kd.R_below z87_ hb); replace HO755 := Aside0.mk (Kd.R_below z148_ hb); have HO760 := Aside0.mk (Kd.R_lower ho0 (below_size z0_)); have HO763 := Aside0.mk (Kd.R_lower ho1 (below_size z0_)); have HO766 := Aside0.mk (Kd.R_lower ho2 (below_size z0_)); replace HB := Aside0.mk (below_step z0_ hb); (try clear hb ho0 ho1 ho2); obtain ⟨Ao56, co56, eo56⟩ := Kd.R_slice HO760.out; subst eo56; obtain ⟨Ao57, co57, eo57⟩ := Kd.R_slice HO763.out; subst eo57; obtain ⟨Ao58, co58, eo58⟩ := Kd.R_slice HO766.out; subst eo58) | (go_at_call 39; (with_reducible refine (impl_ScriptCost.calls kj6 _ _ t711 _ _ t712 _ _ t758 _ _ t761 _ _ t764 t767 _ ?side1 ?side2 ?side3 ?side4 ?side5 ?side6 ?side7 ?side8 ?side9 ?side10 A43.out).mono ?_); (case side1 => exact z55_); (case side2 => exact z182_); (case side3 => exact z104_); (case side4 => exact z221_); (case side5 => repeat (first | exact (Kd.R_reads' HO760.out).2.2 | (with_reducible refine Kd.C_alloc ?_ _) | (with_reducible refine Kd.C_drewN ?_ _) | (with_reducible refine Kd.C_drew ?_))); (case side6 => exact (Kd.R_reads' HO760.out).2.1); (case side7 => repeat (first | exact (Kd.R_reads' HO763.out).2.2 | (with_reducible refine Kd.C_alloc ?_ _) | (with_reducible refine Kd.C_drewN ?_ _) | (with_reducible refine Kd.C_drew ?_))); (case side8 => exact (Kd.R_reads' HO763.out).2.1); (case side9 => repeat (first | exact (Kd.R_reads' HO766.out).2.2 | (with_reducible refine Kd.C_alloc ?_ _) | (with_reducible refine Kd.C_drewN ?_ _) | (with_reducible refine Kd.C_drew ?_))); (case side10 => exact (Kd.R_reads' HO766.out).2.1); rintro e w59 ⟨rfl, hb⟩; replace HO_3 := Aside0.mk (Kd.Q_below z32_ hb); replace HO_4 := Aside0.mk (Kd.N_below z56_ hb); replace HO_5 := Aside0.mk (Kd.N_below z52_ hb); replace HO740 := Aside0.mk (Kd.N_below z65_ hb); replace HO745 := Aside0.mk (Kd.R_below z58_ hb); replace HO750 := Aside0.mk (Kd.R_below z87_ hb); replace HO755 := Aside0.mk (Kd.R_below z148_ hb); replace HO760 := Aside0.mk (Kd.R_below (by (with_reducible repeat (first | apply Kd.R_alloc | apply Kd.R_drewN | apply Kd.R_drew)); exact HO760.out) hb); replace HO763 := Aside0.mk (Kd.R_below (by (with_reducible repeat (first | apply Kd.R_alloc | apply Kd.R_drewN | apply Kd.R_drew)); exact HO763.out) hb); replace HO766 := Aside0.mk (Kd.R_below (by (with_reducible repeat (first | apply Kd.R_alloc | apply Kd.R_drewN | apply Kd.R_drew)); exact HO766.out) hb); replace HB := Aside0.mk (below_step z0_ hb); (try clear hb)))
        go_ret
        exact ⟨z6_, z0_⟩
       ·replace c41 := Bool.eq_false_iff.mpr c41
        subst c41
        replace H := iff_ H
        obtain rfl := Option.some.inj H
        obtain ⟨Ao60, co60, eo60⟩ := Kd.N_slice HO_4.out
        subst eo60
        go_wp2_with (first | ((with_reducible refine gate_callee (f := 30) rfl ?_); refine goesL_ (some 62) rfl rfl Try.func30 (by kernel_rfl) rfl #[.slice Ao60 t712.length co60, .slice Ao10 t717.length co10] rfl z1_ ?_; (with_reducible refine (impl_Joined.calls kj6 (fun k_ => (some k_ ≠ (v713 : Value).ownBlock ∧ some k_ ≠ (.slice Ao10 t717.length co10 : Value).ownBlock)) _ _ t712 (fun k_ => (some k_ ≠ (v713 : Value).ownBlock ∧ some k_ ≠ (.slice Ao60 t712.length co60 : Value).ownBlock)) _ _ t717 t738 _ ?side1 ?side2 A31.out).mono ?_); (case side1 => exact Kd.N_V (HO_4.out)); (case side2 => exact Kd.N_V (HO_5.out)); rintro e w61 ⟨v739, rfl, ho0, hb⟩; refine ⟨_, rfl, ?_⟩; replace HO_4 := Aside0.mk (Kd.N_elder' z56_ (Kd.N_base ho0) hb); replace HO_5 := Aside0.mk (Kd.N_elder' z52_ (Kd.N_base ho0) hb); have HO740 := Aside0.mk (Kd.N_lower (Kd.N_mono (ok' := fun k_ => some k_ ≠ (v713 : Value).ownBlock) ho0 (fun k_ hk_ => Or.elim hk_ (fun hs_ => Or.elim hs_ (fun hs_ => hs_.1) (fun hs_ => hs_.1)) (fun hn_ => (Kd.fresh' (Kd.Q_lt z32_) k_ hn_)))) (below_size z0_)); replace HO_3 := Aside0.mk (Kd.Q_below z32_ hb); replace HB := Aside0.mk (below_step z0_ hb); (try clear hb ho0); obtain ⟨Ao62, co62, eo62, _⟩ := Kd.Q_slice HO_3.out; subst eo62; obtain ⟨Ao63, co63, eo63⟩ := Kd.N_slice HO740.out; subst eo63) | ((with_reducible refine gate_callee (f := 35) rfl ?_); refine goesL_ (some 63) rfl rfl Try.func35 (by kernel_rfl) rfl #[.slice Ao62 t711.length co62, .slice Ao63 t738.length co63] rfl z1_ ?_; (with_reducible refine (impl_ApplyAll.calls kj6 _ _ t711 _ _ t738 t741 t742 t743 _ ?side1 ?side2 ?side3 ?side4 A32.out).mono ?_); (case side1 => exact z55_); (case side2 => exact z182_); (case side3 => exact z124_); (case side4 => exact (Kd.N_reads' HO740.out).2.1); rintro e w64 ⟨v744, rfl, ho0, hb⟩; refine ⟨_, rfl, ?_⟩; replace HO_4 := Aside0.mk (Kd.N_elder' z56_ (Kd.R_base ho0) hb); replace HO_5 := Aside0.mk (Kd.N_elder' z52_ (Kd.R_base ho0) hb); replace HO740 := Aside0.mk (Kd.N_elder' z65_ (Kd.R_base ho0) hb); have HO745 := Aside0.mk (Kd.R_lower (Kd.R_new' ho0 (Kd.Q_lt z32_)) (below_size z0_)); replace HO_3 := Aside0.mk (Kd.Q_elder' z32_ (Kd.R_base ho0) hb); replace HB := Aside0.mk (below_step z0_ hb); (try clear hb ho0)) | ((with_reducible refine gate_callee (f := 36) rfl ?_); refine goesL_ (some 70) rfl rfl Try.func36 (by kernel_rfl) rfl #[.slice Ao62 t711.length co62, .slice Ao60 t712.length co60] rfl z1_ ?_; (with_reducible refine (spec_ApplyAll.calls kj6 _ _ t711 _ _ t712 t746 t747 t748 _ ?side1 ?side2 ?side3 ?side4 A33.out).mono ?_); (case side1 => exact z55_); (case side2 => exact z182_); (case side3 => exact z104_); (case side4 => exact z221_); rintro e w65 ⟨v749, rfl, ho0, hb⟩; refine ⟨_, rfl, ?_⟩; replace HO_4 := Aside0.mk (Kd.N_elder' z56_ (Kd.R_base ho0) hb); replace HO_5 := Aside0.mk (Kd.N_elder' z52_ (Kd.R_base ho0) hb); replace HO740 := Aside0.mk (Kd.N_elder' z65_ (Kd.R_base ho0) hb); have HO750 := Aside0.mk (Kd.R_lower (Kd.R_new' (Kd.R_new' ho0 (Kd.Q_lt z32_)) (Kd.R_lt z58_)) (below_size z0_)); replace HO_3 := Aside0.mk (Kd.Q_elder' z32_ (Kd.R_base ho0) hb); replace HO745 := Aside0.mk (Kd.R_elder' z58_ (Kd.R_base ho0) hb); replace HB := Aside0.mk (below_step z0_ hb); (try clear hb ho0); obtain ⟨Ao66, co66, eo66⟩ := Kd.R_slice HO750.out; subst eo66) | ((with_reducible refine gate_callee (f := 36) rfl ?_); refine goesL_ (some 87) rfl rfl Try.func36 (by kernel_rfl) rfl #[.slice Ao66 t746.length co66, .slice Ao10 t717.length co10] rfl z1_ ?_; (with_reducible refine (spec_ApplyAll.calls kj6 _ _ t746 _ _ t717 t751 t752 t753 _ ?side1 ?side2 ?side3 ?side4 A35.out).mono ?_); (case side1 => exact z164_); (case side2 => exact (Kd.R_reads' HO750.out).2.1); (case side3 => exact z168_); (case side4 => exact (Kd.N_reads' HO_5.out).2.1); rintro e w67 ⟨v754, rfl, ho0, hb⟩; refine ⟨_, rfl, ?_⟩; replace HO_4 := Aside0.mk (Kd.N_elder' z56_ (Kd.R_base ho0) hb); replace HO_5 := Aside0.mk (Kd.N_elder' z52_ (Kd.R_base ho0) hb); replace HO740 := Aside0.mk (Kd.N_elder' z65_ (Kd.R_base ho0) hb); have HO755 := Aside0.mk (Kd.R_lower (Kd.R_new' (Kd.R_new' (Kd.R_new' ho0 (Kd.Q_lt z32_)) (Kd.R_lt z58_)) (Kd.R_lt z87_)) (below_size z0_)); replace HO_3 := Aside0.mk (Kd.Q_elder' z32_ (Kd.R_base ho0) hb); replace HO745 := Aside0.mk (Kd.R_elder' z58_ (Kd.R_base ho0) hb); replace HO750 := Aside0.mk (Kd.R_elder' z87_ (Kd.R_base ho0) hb); replace HB := Aside0.mk (below_step z0_ hb); (try clear hb ho0); obtain ⟨Ao68, co68, eo68⟩ := Kd.R_slice HO745.out; subst eo68; obtain ⟨Ao69, co69, eo69⟩ := Kd.R_slice HO755.out; subst eo69) | (go_at_call 37; (with_reducible refine (spec_SameTree.calls kj6 _ _ t741 _ _ t751 true _ ?side1 ?side2 ?side3 ?side4 A38.out).mono ?_); (case side1 => exact z165_); (case side2 => exact (Kd.R_reads' HO745.out).2.1); (case side3 => exact z166_); (case side4 => exact (Kd.R_reads' HO755.out).2.1); rintro e w' ⟨rfl, ⟨nd, rfl⟩⟩) | (go_at_call 38; (with_reducible refine (spec_TreeOk.calls kj6 _ _ t711 false _ ?side1 ?side2 A40.out).mono ?_); (case side1 => exact z55_); (case side2 => exact z182_); rintro e w70 ⟨rfl, hb⟩; replace HO_3 := Aside0.mk (Kd.Q_below z32_ hb); replace HO_4 := Aside0.mk (Kd.N_below z56_ hb); replace HO_5 := Aside0.mk (Kd.N_below z52_ hb); replace HO740 := Aside0.mk (Kd.N_below z65_ hb); replace HO745 := Aside0.mk (Kd.R_below z58_ hb); replace HO750 := Aside0.mk (Kd.R_below z87_ hb); replace HO755 := Aside0.mk (Kd.R_below z148_ hb); replace HB := Aside0.mk (below_step z0_ hb); (try clear hb)))
        go_ret
        exact ⟨z6_, z0_⟩
      ·replace c39 := Bool.eq_false_iff.mpr c39
       subst c39
       rw [if_neg (show ¬ (false = true) by decide)] at H
       exact absurd H (by simp)
     ·rw [if_neg c34] at H
      have c34b0 : (t748 == 0) = false := beq_eq_false_iff_ne.mpr c34
      have c34b1 : (t748 != 0) = true := bne_iff_ne.mpr c34
      obtain ⟨c97, H⟩ := ifs_ H
      have c97b0 : (t743 == t748) = true := beq_iff_eq.mpr c97
      have c97b1 : (t743 != t748) = false := bne_eq_false_iff_eq.mpr c97
      clear c97
      obtain rfl := Option.some.inj H
      obtain ⟨Ao98, co98, eo98⟩ := Kd.N_slice HO_4.out
      subst eo98
      go_wp2_with (first | ((with_reducible refine gate_callee (f := 30) rfl ?_); refine goesL_ (some 62) rfl rfl Try.func30 (by kernel_rfl) rfl #[.slice Ao98 t712.length co98, .slice Ao10 t717.length co10] rfl z1_ ?_; (with_reducible refine (impl_Joined.calls kj6 (fun k_ => (some k_ ≠ (v713 : Value).ownBlock ∧ some k_ ≠ (.slice Ao10 t717.length co10 : Value).ownBlock)) _ _ t712 (fun k_ => (some k_ ≠ (v713 : Value).ownBlock ∧ some k_ ≠ (.slice Ao98 t712.length co98 : Value).ownBlock)) _ _ t717 t738 _ ?side1 ?side2 A31.out).mono ?_); (case side1 => exact Kd.N_V (HO_4.out)); (case side2 => exact Kd.N_V (HO_5.out)); rintro e w99 ⟨v739, rfl, ho0, hb⟩; refine ⟨_, rfl, ?_⟩; replace HO_4 := Aside0.mk (Kd.N_elder' z56_ (Kd.N_base ho0) hb); replace HO_5 := Aside0.mk (Kd.N_elder' z52_ (Kd.N_base ho0) hb); have HO740 := Aside0.mk (Kd.N_lower (Kd.N_mono (ok' := fun k_ => some k_ ≠ (v713 : Value).ownBlock) ho0 (fun k_ hk_ => Or.elim hk_ (fun hs_ => Or.elim hs_ (fun hs_ => hs_.1) (fun hs_ => hs_.1)) (fun hn_ => (Kd.fresh' (Kd.Q_lt z32_) k_ hn_)))) (below_size z0_)); replace HO_3 := Aside0.mk (Kd.Q_below z32_ hb); replace HB := Aside0.mk (below_step z0_ hb); (try clear hb ho0); obtain ⟨Ao100, co100, eo100, _⟩ := Kd.Q_slice HO_3.out; subst eo100; obtain ⟨Ao101, co101, eo101⟩ := Kd.N_slice HO740.out; subst eo101) | ((with_reducible refine gate_callee (f := 35) rfl ?_); refine goesL_ (some 63) rfl rfl Try.func35 (by kernel_rfl) rfl #[.slice Ao100 t711.length co100, .slice Ao101 t738.length co101] rfl z1_ ?_; (with_reducible refine (impl_ApplyAll.calls kj6 _ _ t711 _ _ t738 t741 t742 t743 _ ?side1 ?side2 ?side3 ?side4 A32.out).mono ?_); (case side1 => exact z55_); (case side2 => exact z182_); (case side3 => exact z124_); (case side4 => exact (Kd.N_reads' HO740.out).2.1); rintro e w102 ⟨v744, rfl, ho0, hb⟩; refine ⟨_, rfl, ?_⟩; replace HO_4 := Aside0.mk (Kd.N_elder' z56_ (Kd.R_base ho0) hb); replace HO_5 := Aside0.mk (Kd.N_elder' z52_ (Kd.R_base ho0) hb); replace HO740 := Aside0.mk (Kd.N_elder' z65_ (Kd.R_base ho0) hb); have HO745 := Aside0.mk (Kd.R_lower (Kd.R_new' ho0 (Kd.Q_lt z32_)) (below_size z0_)); replace HO_3 := Aside0.mk (Kd.Q_elder' z32_ (Kd.R_base ho0) hb); replace HB := Aside0.mk (below_step z0_ hb); (try clear hb ho0)) | ((with_reducible refine gate_callee (f := 36) rfl ?_); refine goesL_ (some 70) rfl rfl Try.func36 (by kernel_rfl) rfl #[.slice Ao100 t711.length co100, .slice Ao98 t712.length co98] rfl z1_ ?_; (with_reducible refine (spec_ApplyAll.calls kj6 _ _ t711 _ _ t712 t746 t747 t748 _ ?side1 ?side2 ?side3 ?side4 A33.out).mono ?_); (case side1 => exact z55_); (case side2 => exact z182_); (case side3 => exact z104_); (case side4 => exact z221_); rintro e w103 ⟨v749, rfl, ho0, hb⟩; refine ⟨_, rfl, ?_⟩; replace HO_4 := Aside0.mk (Kd.N_elder' z56_ (Kd.R_base ho0) hb); replace HO_5 := Aside0.mk (Kd.N_elder' z52_ (Kd.R_base ho0) hb); replace HO740 := Aside0.mk (Kd.N_elder' z65_ (Kd.R_base ho0) hb); have HO750 := Aside0.mk (Kd.R_lower (Kd.R_new' (Kd.R_new' ho0 (Kd.Q_lt z32_)) (Kd.R_lt z58_)) (below_size z0_)); replace HO_3 := Aside0.mk (Kd.Q_elder' z32_ (Kd.R_base ho0) hb); replace HO745 := Aside0.mk (Kd.R_elder' z58_ (Kd.R_base ho0) hb); replace HB := Aside0.mk (below_step z0_ hb); (try clear hb ho0)))
      go_ret
      exact ⟨z6_, z0_⟩
/-- THE ONE PURE STATEMENT of laws_FnJoined: yours. -/
def laws_FnJoined.Pure : Prop := ∀ (l0 : List Int), l0.length ≤ maxLen → l0.length * 1 ≤ 140737488351232 → (∀ x ∈ l0, (Lit.int .u8 x).wf = true) → ∃ k, laws_FnJoined.f k l0 = some true
theorem laws_FnJoined.walk (P : laws_FnJoined.Pure) (a0 : Option Addr) (len0 cap0 : Nat) (z0 : List Int) (w : World) (w0 : (a0 = none ∧ len0 = 0 ∧ cap0 = 0 ∧ z0 = []) ∨ ∃ x, a0 = some x ∧ len0 ≤ cap0 ∧ cap0 ≤ maxLen ∧ z0.length = cap0 ∧ (∀ i, i < z0.length → w.cell? (x.add i) = some (.int .u8 (z0.getD i 0))) ∧ ∀ n ∈ z0, (Lit.int .u8 n).wf = true) (y0 : len0 * 1 ≤ 140737488351232) :
  Calls Try.prog 7 #[.slice a0 len0 cap0] w fun e w' => e = .returned (.bool true) ∧ Below w.heap.size w w' := by
 obtain ⟨l0, rfl, hr0, hm0, hw0, hc0⟩ := ReadsInt.ofRowC w0
 obtain ⟨k, h⟩ := P l0 hm0 y0 hw0
 refine (laws_FnJoined.calls k _ _ l0 true w (Kd.C_of_reads (d := (0 : Int)) (h1 := fun _ => rfl) hr0) hc0 h).mono ?_
 rintro e w' ⟨rfl, hd⟩
 exact ⟨rfl, hd⟩

end Go.Proofs.Ytdapeboajjidmaa.PFnJoined
