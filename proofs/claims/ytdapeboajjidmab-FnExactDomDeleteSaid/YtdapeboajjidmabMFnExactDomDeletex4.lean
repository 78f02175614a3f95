/- Laid by a program of this session out of the kit's print for the law FnExactDomDelete: what it says of the machine is proved here, function by function; each contract under the conditions that it names. -/
import Derived.Test.YtdapeboajjidmabMFnExactDomDeletex0
namespace Go.Proofs.Ytdapeboajjidmab.PFnExactDomDelete
open Go.RowKit Go.Proofs.YtdapeboajjidmabW.PrintWords Go.Proofs.YtdapeboajjidmabW.PrintLast Go.Proofs.YtdapeboajjidmabW.PrintMore
attribute [local go_sem] max2_int min2_int max_two min_two max_three min_three max_four min_four   -- for this text's walks alone
set_option linter.unusedVariables false
set_option linter.unusedSimpArgs false

/-! ### spec_l16Links: function 63 -/
def spec_l16Links.l0 : Nat → Int → Int → Int → List (S72) → Bool → Int → Int → Int → Int → Int → Int → Option (Bool)
 | 0, _, _, _, _, _, _, _, _, _, _, _ => none
 | k + 1, x1, x6, x7, x143000, x145000, x145001, x145002, x145003, x145004, x145005, x145006 => if x7 = (-1) then (some (x145004 == x6)) else (if 0 ≤ x7 then (if x7 < (x143000.length : Int) then (if ((rd_T72 x143000 x7).f2) = x1 then (if ((rd_T72 x143000 x7).f5) = x6 then (spec_l16Links.l0 k x1 x7 ((rd_T72 x143000 x7).f6) x143000 x145000 x145001 x145002 x145003 x145004 x145005 x145006) else (some false)) else (some false)) else (none)) else (none))
def spec_l16Links.f (k : Nat) (l0_0 : List (S72)) (a1 : Int) : Option (Bool) := if 0 ≤ a1 then (if a1 < (l0_0.length : Int) then (spec_l16Links.l0 k a1 (-1) ((rd_T72 l0_0 a1).f3) l0_0 ((rd_T72 l0_0 a1).f0) ((rd_T72 l0_0 a1).f1) ((rd_T72 l0_0 a1).f2) ((rd_T72 l0_0 a1).f3) ((rd_T72 l0_0 a1).f4) ((rd_T72 l0_0 a1).f5) ((rd_T72 l0_0 a1).f6)) else (none)) else (none)
set_option maxHeartbeats 8000000 in
set_option maxRecDepth 100000 in
theorem spec_l16Links.calls (k : Nat) (A0_0 : Option Addr) (c0_0 : Nat) (l0_0 : List (S72)) (a1 : Int) (r : Bool) (w : World) (hr0_0 : Kd.C k72 w A0_0 l0_0.length l0_0) (hc0_0 : l0_0.length ≤ c0_0) (h : spec_l16Links.f k l0_0 a1 = some r) :
  Calls Try.prog 63 #[.agg #[.slice A0_0 l0_0.length c0_0], .int .i64 a1] w fun e w' => e = .returned (.bool r) ∧ Below w.heap.size w w' := by
 have hu28 := Try.underlying28
 have hu72 := Try.underlying72
 have HR0_0 := Aside0.mk hr0_0
 have HC0_0 := Aside0.mk hc0_0
 clear hr0_0 hc0_0
 have HB := Aside0.mk (Below.refl w.heap.size w)
 have H : (if 0 ≤ a1 then (if a1 < (l0_0.length : Int) then (spec_l16Links.l0 k a1 (-1) ((rd_T72 l0_0 a1).f3) l0_0 ((rd_T72 l0_0 a1).f0) ((rd_T72 l0_0 a1).f1) ((rd_T72 l0_0 a1).f2) ((rd_T72 l0_0 a1).f3) ((rd_T72 l0_0 a1).f4) ((rd_T72 l0_0 a1).f5) ((rd_T72 l0_0 a1).f6)) else (none)) else (none)) = some r := h
 clear h
 obtain ⟨c3b0, H⟩ := ifd_ H
 obtain ⟨c4b0, H⟩ := ifd_ H
 have H' := Aside0.mk H
 clear H
 go_enter Try.func63, Try.ntmps63
 go_wp2_with (first | ((with_reducible refine gate_dst (N := 2) rfl ?_); refine box_event ?hg (N := 2) ?hd (cs := #[.slice A0_0 l0_0.length c0_0]) (t := 28) ?hr ?_; (case hd => rfl); (case hg => rfl); (case hr => exact z25_); intro gb142 hg w5 hbox hb; have BK142 := Aside0.mk (hbox); have GW142 := Aside0.mk ((by rw [hg]; exact (below_size z0_) : w.heap.size ≤ gb142)); have GE142 := Aside0.mk ((by rw [hg]; exact (below_size z0_) : w.heap.size ≤ gb142)); replace HB := Aside0.mk (below_step z0_ hb); clear hb hbox hg; have hcz6_0 : w5.cell? ⟨gb142, 0, none⟩ = some (.slice A0_0 l0_0.length c0_0) := (blk_cell BK142.out 0).trans rfl; have hfz6_0 := blk_frozen BK142.out 0; have p143 : 0 ≤ (a1 : Int) := odt_; have q143 : a1 < (l0_0.length : Int) := odt_; obtain ⟨ad143, e143, hx143_0, hx143_1, hx143_2, hx143_3, hx143_4, hx143_5, hx143_6⟩ := at_T72 HR0_0.out a1 p143 q143; cases e143; replace hx143_0 := (HB.out.cell (World.block_lt_of_cell? w _ hx143_0)).trans hx143_0; replace hx143_1 := (HB.out.cell (World.block_lt_of_cell? w _ hx143_1)).trans hx143_1; replace hx143_2 := (HB.out.cell (World.block_lt_of_cell? w _ hx143_2)).trans hx143_2; replace hx143_3 := (HB.out.cell (World.block_lt_of_cell? w _ hx143_3)).trans hx143_3; replace hx143_4 := (HB.out.cell (World.block_lt_of_cell? w _ hx143_4)).trans hx143_4; replace hx143_5 := (HB.out.cell (World.block_lt_of_cell? w _ hx143_5)).trans hx143_5; replace hx143_6 := (HB.out.cell (World.block_lt_of_cell? w _ hx143_6)).trans hx143_6; replace p143 := eq_true p143; replace q143 := eq_true q143) | ((with_reducible refine gate_dst (N := 5) rfl ?_); refine box_event ?hg (N := 5) ?hd (cs := #[.bool false, .int .i64 0, .int .i64 0, .int .i64 0, .int .i64 0, .int .i64 0, .int .i64 0]) (t := 72) ?hr ?_; (case hd => rfl); (case hg => rfl); (case hr => exact z25_); intro gb144 hg w7 hbox hb; have BK144 := Aside0.mk (hbox); have GW144 := Aside0.mk ((by rw [hg]; exact (below_size z156_) : w.heap.size ≤ gb144)); have GE144 := Aside0.mk ((by rw [hg]; exact (below_size z156_) : w.heap.size ≤ gb144)); replace HB := Aside0.mk (below_step z156_ hb); have NB142_144 := Aside0.mk ((by rw [hg]; exact Nat.ne_of_lt (blk_lt (g := gb142) (o := .cells #[.slice (some ad143) l0_0.length c0_0] 28 (0, 0)) z163_) : gb142 ≠ gb144)); have NB144_142 := Aside0.mk ((by rw [hg]; exact Nat.ne_of_gt (blk_lt (g := gb142) (o := .cells #[.slice (some ad143) l0_0.length c0_0] 28 (0, 0)) z163_) : gb144 ≠ gb142)); replace BK142 := Aside0.mk (blk_below (g := gb142) (o := .cells #[.slice (some ad143) l0_0.length c0_0] 28 (0, 0)) z163_ hb); clear hb hbox hg; have hnb8 := NB144_142.out; have hnc8 := NB142_144.out; have hcz9_0 : w7.cell? ⟨gb144, 0, none⟩ = some (.bool false) := (blk_cell BK144.out 0).trans rfl; have hcz9_1 : w7.cell? ⟨gb144, 1, none⟩ = some (.int .i64 0) := (blk_cell BK144.out 1).trans rfl; have hcz9_2 : w7.cell? ⟨gb144, 2, none⟩ = some (.int .i64 0) := (blk_cell BK144.out 2).trans rfl; have hcz9_3 : w7.cell? ⟨gb144, 3, none⟩ = some (.int .i64 0) := (blk_cell BK144.out 3).trans rfl; have hcz9_4 : w7.cell? ⟨gb144, 4, none⟩ = some (.int .i64 0) := (blk_cell BK144.out 4).trans rfl; have hcz9_5 : w7.cell? ⟨gb144, 5, none⟩ = some (.int .i64 0) := (blk_cell BK144.out 5).trans rfl; have hcz9_6 : w7.cell? ⟨gb144, 6, none⟩ = some (.int .i64 0) := (blk_cell BK144.out 6).trans rfl; have hfz9_0 := blk_frozen BK144.out 0; have hfz9_1 := blk_frozen BK144.out 1; have hfz9_2 := blk_frozen BK144.out 2; have hfz9_3 := blk_frozen BK144.out 3; have hfz9_4 := blk_frozen BK144.out 4; have hfz9_5 := blk_frozen BK144.out 5; have hfz9_6 := blk_frozen BK144.out 6))
 go_loopg [6, 7] k (fun kq v6 v7 w' => ∃ (x6_1 : Int) (x7_1 : Int), v6 = .int .i64 x6_1 ∧ v7 = .int .i64 x7_1 ∧ Aside0 (spec_l16Links.l0 kq a1 x6_1 x7_1 l0_0 ((rd_T72 l0_0 a1).f0) ((rd_T72 l0_0 a1).f1) ((rd_T72 l0_0 a1).f2) ((rd_T72 l0_0 a1).f3) ((rd_T72 l0_0 a1).f4) ((rd_T72 l0_0 a1).f5) ((rd_T72 l0_0 a1).f6) = some r) ∧ Aside0 (kq ≤ k) ∧ Aside0 (w'.heap[gb142]? = some (.cells #[(.slice (some ad143) l0_0.length c0_0)] 28 (0, 0))) ∧ Aside0 (w'.heap[gb144]? = some (.cells #[.bool ((rd_T72 l0_0 a1).f0), .int .i64 ((rd_T72 l0_0 a1).f1), .int .i64 ((rd_T72 l0_0 a1).f2), .int .i64 ((rd_T72 l0_0 a1).f3), .int .i64 ((rd_T72 l0_0 a1).f4), .int .i64 ((rd_T72 l0_0 a1).f5), .int .i64 ((rd_T72 l0_0 a1).f6)] 72 (0, 0))) ∧ Aside0 (Below w.heap.size w w'))
 case atStart => exact ⟨((-1)), ((rd_T72 l0_0 a1).f3), z12_, z12_, H', ⟨Nat.le_refl _⟩, ⟨by (with_reducible repeat (first | refine blk_drewN ?_ _ | refine blk_drew ?_ | refine blk_alloc ?_ _)); refine blk_far ?_ NB142_144.out _; (with_reducible repeat (first | refine blk_drewN ?_ _ | refine blk_drew ?_ | refine blk_alloc ?_ _)); refine blk_far ?_ NB142_144.out _; (with_reducible repeat (first | refine blk_drewN ?_ _ | refine blk_drew ?_ | refine blk_alloc ?_ _)); refine blk_far ?_ NB142_144.out _; (with_reducible repeat (first | refine blk_drewN ?_ _ | refine blk_drew ?_ | refine blk_alloc ?_ _)); refine blk_far ?_ NB142_144.out _; (with_reducible repeat (first | refine blk_drewN ?_ _ | refine blk_drew ?_ | refine blk_alloc ?_ _)); refine blk_far ?_ NB142_144.out _; (with_reducible repeat (first | refine blk_drewN ?_ _ | refine blk_drew ?_ | refine blk_alloc ?_ _)); refine blk_far ?_ NB142_144.out _; (with_reducible repeat (first | refine blk_drewN ?_ _ | refine blk_drew ?_ | refine blk_alloc ?_ _)); refine blk_far ?_ NB142_144.out _; (with_reducible repeat (first | refine blk_drewN ?_ _ | refine blk_drew ?_ | refine blk_alloc ?_ _)); exact BK142.out⟩, ⟨by (with_reducible repeat (first | refine blk_drewN ?_ _ | refine blk_drew ?_ | refine blk_alloc ?_ _)); refine blk_put (cs := #[.bool ((rd_T72 l0_0 a1).f0), .int .i64 ((rd_T72 l0_0 a1).f1), .int .i64 ((rd_T72 l0_0 a1).f2), .int .i64 ((rd_T72 l0_0 a1).f3), .int .i64 ((rd_T72 l0_0 a1).f4), .int .i64 ((rd_T72 l0_0 a1).f5), .int .i64 0]) ?_ 6 _ rfl; (with_reducible repeat (first | refine blk_drewN ?_ _ | refine blk_drew ?_ | refine blk_alloc ?_ _)); refine blk_put (cs := #[.bool ((rd_T72 l0_0 a1).f0), .int .i64 ((rd_T72 l0_0 a1).f1), .int .i64 ((rd_T72 l0_0 a1).f2), .int .i64 ((rd_T72 l0_0 a1).f3), .int .i64 ((rd_T72 l0_0 a1).f4), .int .i64 0, .int .i64 0]) ?_ 5 _ rfl; (with_reducible repeat (first | refine blk_drewN ?_ _ | refine blk_drew ?_ | refine blk_alloc ?_ _)); refine blk_put (cs := #[.bool ((rd_T72 l0_0 a1).f0), .int .i64 ((rd_T72 l0_0 a1).f1), .int .i64 ((rd_T72 l0_0 a1).f2), .int .i64 ((rd_T72 l0_0 a1).f3), .int .i64 0, .int .i64 0, .int .i64 0]) ?_ 4 _ rfl; (with_reducible repeat (first | refine blk_drewN ?_ _ | refine blk_drew ?_ | refine blk_alloc ?_ _)); refine blk_put (cs := #[.bool ((rd_T72 l0_0 a1).f0), .int .i64 ((rd_T72 l0_0 a1).f1), .int .i64 ((rd_T72 l0_0 a1).f2), .int .i64 0, .int .i64 0, .int .i64 0, .int .i64 0]) ?_ 3 _ rfl; (with_reducible repeat (first | refine blk_drewN ?_ _ | refine blk_drew ?_ | refine blk_alloc ?_ _)); refine blk_put (cs := #[.bool ((rd_T72 l0_0 a1).f0), .int .i64 ((rd_T72 l0_0 a1).f1), .int .i64 0, .int .i64 0, .int .i64 0, .int .i64 0, .int .i64 0]) ?_ 2 _ rfl; (with_reducible repeat (first | refine blk_drewN ?_ _ | refine blk_drew ?_ | refine blk_alloc ?_ _)); refine blk_put (cs := #[.bool ((rd_T72 l0_0 a1).f0), .int .i64 0, .int .i64 0, .int .i64 0, .int .i64 0, .int .i64 0, .int .i64 0]) ?_ 1 _ rfl; (with_reducible repeat (first | refine blk_drewN ?_ _ | refine blk_drew ?_ | refine blk_alloc ?_ _)); refine blk_put (cs := #[.bool false, .int .i64 0, .int .i64 0, .int .i64 0, .int .i64 0, .int .i64 0, .int .i64 0]) ?_ 0 _ rfl; (with_reducible repeat (first | refine blk_drewN ?_ _ | refine blk_drew ?_ | refine blk_alloc ?_ _)); exact BK144.out⟩, ⟨z86_⟩⟩
 case round =>
  clear H'
  try clear p1
  try clear q1
  try clear hx1
  try clear p2
  try clear c3
  try clear c3b0
  try clear c4
  try clear c4b0
  try clear c6
  try clear c8
  try clear hcz6_0
  try clear hcz9_0
  try clear hcz9_1
  try clear hcz9_2
  try clear hcz9_3
  try clear hcz9_4
  try clear hcz9_5
  try clear hcz9_6
  try clear hfz6_0
  try clear hfz9_0
  try clear hfz9_1
  try clear hfz9_2
  try clear hfz9_3
  try clear hfz9_4
  try clear hfz9_5
  try clear hfz9_6
  try clear hx143_0
  try clear hx143_1
  try clear hx143_2
  try clear hx143_3
  try clear hx143_4
  try clear hx143_5
  try clear hx143_6
  try clear p143
  try clear q143
  obtain ⟨x6_1, x7_1, rfl, rfl, HA, HK1, BK142, BK144, HB⟩ := hrel
  cases gk with
  | zero => exact absurd HA.out (by simp [spec_l16Links.l0])
  | succ k1 =>
   have H := HA.out
   clear HA
   simp only [spec_l16Links.l0] at H
   by_cases c10 : x7_1 = (-1)
   ·rw [if_pos c10] at H
    have c10b0 : (x7_1 == (-1)) = true := beq_iff_eq.mpr c10
    have c10b1 : (x7_1 != (-1)) = false := bne_eq_false_iff_eq.mpr c10
    clear c10
    obtain rfl := Option.some.inj H
    have hnb11 := NB144_142.out
    have hnc11 := NB142_144.out
    have hcz12_0 : wr.cell? ⟨gb144, 0, none⟩ = some (.bool ((rd_T72 l0_0 a1).f0)) := (blk_cell BK144.out 0).trans rfl
    have hcz12_1 : wr.cell? ⟨gb144, 1, none⟩ = some (.int .i64 ((rd_T72 l0_0 a1).f1)) := (blk_cell BK144.out 1).trans rfl
    have hcz12_2 : wr.cell? ⟨gb144, 2, none⟩ = some (.int .i64 ((rd_T72 l0_0 a1).f2)) := (blk_cell BK144.out 2).trans rfl
    have hcz12_3 : wr.cell? ⟨gb144, 3, none⟩ = some (.int .i64 ((rd_T72 l0_0 a1).f3)) := (blk_cell BK144.out 3).trans rfl
    have hcz12_4 : wr.cell? ⟨gb144, 4, none⟩ = some (.int .i64 ((rd_T72 l0_0 a1).f4)) := (blk_cell BK144.out 4).trans rfl
    have hcz12_5 : wr.cell? ⟨gb144, 5, none⟩ = some (.int .i64 ((rd_T72 l0_0 a1).f5)) := (blk_cell BK144.out 5).trans rfl
    have hcz12_6 : wr.cell? ⟨gb144, 6, none⟩ = some (.int .i64 ((rd_T72 l0_0 a1).f6)) := (blk_cell BK144.out 6).trans rfl
    have hfz12_0 := blk_frozen BK144.out 0
    have hfz12_1 := blk_frozen BK144.out 1
    have hfz12_2 := blk_frozen BK144.out 2
    have hfz12_3 := blk_frozen BK144.out 3
    have hfz12_4 := blk_frozen BK144.out 4
    have hfz12_5 := blk_frozen BK144.out 5
    have hfz12_6 := blk_frozen BK144.out 6
    go_wp2
    go_ret
    exact ⟨z4_, z86_⟩
   ·rw [if_neg c10] at H
    have c10b0 : (x7_1 == (-1)) = false := beq_eq_false_iff_ne.mpr c10
    have c10b1 : (x7_1 != (-1)) = true := bne_iff_ne.mpr c10
    obtain ⟨c13b0, H⟩ := ifd_ H
    obtain ⟨c14b0, H⟩ := ifd_ H
    by_cases c15 : ((rd_T72 l0_0 x7_1).f2) = a1
    ·rw [if_pos c15] at H
     have c15b0 : (((rd_T72 l0_0 x7_1).f2) == a1) = true := beq_iff_eq.mpr c15
     have c15b1 : (((rd_T72 l0_0 x7_1).f2) != a1) = false := bne_eq_false_iff_eq.mpr c15
     clear c15
     by_cases c16 : ((rd_T72 l0_0 x7_1).f5) = x6_1
     ·rw [if_pos c16] at H
      have c16b0 : (((rd_T72 l0_0 x7_1).f5) == x6_1) = true := beq_iff_eq.mpr c16
      have c16b1 : (((rd_T72 l0_0 x7_1).f5) != x6_1) = false := bne_eq_false_iff_eq.mpr c16
      clear c16
      have H' := Aside0.mk H
      clear H
      have hnb17 := NB142_144.out
      have hnc17 := NB144_142.out
      have hcz18_0 : wr.cell? ⟨gb142, 0, none⟩ = some (.slice (some ad143) l0_0.length c0_0) := (blk_cell BK142.out 0).trans rfl
      have hfz18_0 := blk_frozen BK142.out 0
      obtain ⟨p145, q145, ad145, e145, hx145_0, hx145_1, hx145_2, hx145_3, hx145_4, hx145_5, hx145_6⟩ := atb72_ HR0_0 HB x7_1
      obtain rfl : ad143 = ad145 := (by injection e145)
      obtain ⟨p146, q146, ad146, e146, hx146_0, hx146_1, hx146_2, hx146_3, hx146_4, hx146_5, hx146_6⟩ := atb72_ HR0_0 HB x7_1
      obtain rfl : ad143 = ad146 := (by injection e146)
      obtain ⟨p147, q147, ad147, e147, hx147_0, hx147_1, hx147_2, hx147_3, hx147_4, hx147_5, hx147_6⟩ := atb72_ HR0_0 HB x7_1
      obtain rfl : ad143 = ad147 := (by injection e147)
      go_wp2
      go_roundg k1
      case measure => have := HK1.out; omega
      case rel => exact ⟨(x7_1), ((rd_T72 l0_0 x7_1).f6), z12_, z12_, H', ⟨z232_⟩, ⟨z163_⟩, ⟨by (with_reducible repeat (first | refine blk_drewN ?_ _ | refine blk_drew ?_ | refine blk_alloc ?_ _)); exact BK144.out⟩, ⟨z86_⟩⟩
     ·rw [if_neg c16] at H
      have c16b0 : (((rd_T72 l0_0 x7_1).f5) == x6_1) = false := beq_eq_false_iff_ne.mpr c16
      have c16b1 : (((rd_T72 l0_0 x7_1).f5) != x6_1) = true := bne_iff_ne.mpr c16
      obtain rfl := Option.some.inj H
      have hnb19 := NB142_144.out
      have hnc19 := NB144_142.out
      have hcz20_0 : wr.cell? ⟨gb142, 0, none⟩ = some (.slice (some ad143) l0_0.length c0_0) := (blk_cell BK142.out 0).trans rfl
      have hfz20_0 := blk_frozen BK142.out 0
      obtain ⟨p145, q145, ad145, e145, hx145_0, hx145_1, hx145_2, hx145_3, hx145_4, hx145_5, hx145_6⟩ := atb72_ HR0_0 HB x7_1
      obtain rfl : ad143 = ad145 := (by injection e145)
      obtain ⟨p146, q146, ad146, e146, hx146_0, hx146_1, hx146_2, hx146_3, hx146_4, hx146_5, hx146_6⟩ := atb72_ HR0_0 HB x7_1
      obtain rfl : ad143 = ad146 := (by injection e146)
      go_wp2
      go_ret
      exact ⟨z4_, z86_⟩
    ·rw [if_neg c15] at H
     have c15b0 : (((rd_T72 l0_0 x7_1).f2) == a1) = false := beq_eq_false_iff_ne.mpr c15
     have c15b1 : (((rd_T72 l0_0 x7_1).f2) != a1) = true := bne_iff_ne.mpr c15
     obtain rfl := Option.some.inj H
     have hnb21 := NB142_144.out
     have hnc21 := NB144_142.out
     have hcz22_0 : wr.cell? ⟨gb142, 0, none⟩ = some (.slice (some ad143) l0_0.length c0_0) := (blk_cell BK142.out 0).trans rfl
     have hfz22_0 := blk_frozen BK142.out 0
     obtain ⟨p145, q145, ad145, e145, hx145_0, hx145_1, hx145_2, hx145_3, hx145_4, hx145_5, hx145_6⟩ := atb72_ HR0_0 HB x7_1
     obtain rfl : ad143 = ad145 := (by injection e145)
     go_wp2
     go_ret
     exact ⟨z4_, z86_⟩

end Go.Proofs.Ytdapeboajjidmab.PFnExactDomDelete
