/- Laid by a program of this session out of the kit's print for the law FnExactDomInsert: what it says of the machine is proved here, function by function; each contract under the conditions that it names. -/
import Derived.Test.YtdapeboajjidmabMFnExactDomInsertx0
namespace Go.Proofs.Ytdapeboajjidmab.PFnExactDomInsert
open Go.RowKit Go.Proofs.YtdapeboajjidmabW.PrintWords Go.Proofs.YtdapeboajjidmabW.PrintLast Go.Proofs.YtdapeboajjidmabW.PrintMore
attribute [local go_sem] max2_int min2_int max_two min_two max_three min_three max_four min_four   -- for this text's walks alone
set_option linter.unusedVariables false
set_option linter.unusedSimpArgs false

/-! ### spec_l16Empty: function 62 -/
def spec_l16Empty.f  : Option (Bool × Int × Int × Int × Int × Int × Int) := some (false, 0, (-1), (-1), (-1), (-1), (-1))
set_option maxHeartbeats 8000000 in
set_option maxRecDepth 100000 in
theorem spec_l16Empty.calls  (r1 : Bool) (r2 : Int) (r3 : Int) (r4 : Int) (r5 : Int) (r6 : Int) (r7 : Int) (w : World) (h : spec_l16Empty.f  = some (r1, r2, r3, r4, r5, r6, r7)) :
  Calls Try.prog 62 #[] w fun e w' => e = .returned (.agg #[.bool r1, .int .i64 r2, .int .i64 r3, .int .i64 r4, .int .i64 r5, .int .i64 r6, .int .i64 r7]) ∧ Below w.heap.size w w' := by
 have hu72 := Try.underlying72
 have HB := Aside0.mk (Below.refl w.heap.size w)
 have H : (some (false, 0, (-1), (-1), (-1), (-1), (-1))) = some (r1, r2, r3, r4, r5, r6, r7) := h
 clear h
 simp only [Option.some.injEq, Prod.mk.injEq] at H
 obtain ⟨rfl, rfl, rfl, rfl, rfl, rfl, rfl⟩ := H
 go_enter Try.func62, Try.ntmps62
 go_wp2_with (((with_reducible refine gate_dst (N := 0) rfl ?_); refine box_event ?hg (N := 0) ?hd (cs := #[.bool false, .int .i64 0, .int .i64 0, .int .i64 0, .int .i64 0, .int .i64 0, .int .i64 0]) (t := 72) ?hr ?_; (case hd => rfl); (case hg => rfl); (case hr => exact z19_); intro gb181 hg w1 hbox hb; have BK181 := Aside0.mk (hbox); have GW181 := Aside0.mk ((by rw [hg]; exact (below_size z0_) : w.heap.size ≤ gb181)); have GE181 := Aside0.mk ((by rw [hg]; exact (below_size z0_) : w.heap.size ≤ gb181)); replace HB := Aside0.mk (below_step z0_ hb); clear hb hbox hg; obtain ⟨hcz2_0, hcz2_1, hcz2_2, hcz2_3, hcz2_4, hcz2_5, hcz2_6, hfz2_0, hfz2_1, hfz2_2, hfz2_3, hfz2_4, hfz2_5, hfz2_6⟩ := bx7_ BK181.out))
 refine bodyPost_ret (results_cell_row rfl _ _ gb181 72 #[.bool false, .int .i64 0, .int .i64 (-1), .int .i64 (-1), .int .i64 (-1), .int .i64 (-1), .int .i64 (-1)] (0, 0) _ rfl (by refine blk_put (cs := #[.bool false, .int .i64 0, .int .i64 (-1), .int .i64 (-1), .int .i64 (-1), .int .i64 (-1), .int .i64 0]) ?_ 6 _ rfl; refine blk_put (cs := #[.bool false, .int .i64 0, .int .i64 (-1), .int .i64 (-1), .int .i64 (-1), .int .i64 0, .int .i64 0]) ?_ 5 _ rfl; refine blk_put (cs := #[.bool false, .int .i64 0, .int .i64 (-1), .int .i64 (-1), .int .i64 0, .int .i64 0, .int .i64 0]) ?_ 4 _ rfl; refine blk_put (cs := #[.bool false, .int .i64 0, .int .i64 (-1), .int .i64 0, .int .i64 0, .int .i64 0, .int .i64 0]) ?_ 3 _ rfl; refine blk_put (cs := #[.bool false, .int .i64 0, .int .i64 0, .int .i64 0, .int .i64 0, .int .i64 0, .int .i64 0]) ?_ 2 _ rfl; refine blk_put (cs := #[.bool false, .int .i64 0, .int .i64 0, .int .i64 0, .int .i64 0, .int .i64 0, .int .i64 0]) ?_ 1 _ rfl; refine blk_put (cs := #[.bool false, .int .i64 0, .int .i64 0, .int .i64 0, .int .i64 0, .int .i64 0, .int .i64 0]) ?_ 0 _ rfl; exact BK181.out) Try.underlying72 rfl (by kernel_rfl)) rfl ?_
 exact ⟨z4_, by repeat ((with_reducible first | exact HB.out | refine below_set ?_ GE181.out))⟩

/-! ### spec_l16Links: function 63 -/
def spec_l16Links.l0 : Nat → Int → Int → Int → List (S72) → Bool → Int → Int → Int → Int → Int → Int → Option (Bool)
 | 0, _, _, _, _, _, _, _, _, _, _, _ => none
 | k + 1, x1, x6, x7, x183000, x185000, x185001, x185002, x185003, x185004, x185005, x185006 => if x7 = (-1) then (some (x185004 == x6)) else (if 0 ≤ x7 then (if x7 < (x183000.length : Int) then (if ((rd_T72 x183000 x7).f2) = x1 then (if ((rd_T72 x183000 x7).f5) = x6 then (spec_l16Links.l0 k x1 x7 ((rd_T72 x183000 x7).f6) x183000 x185000 x185001 x185002 x185003 x185004 x185005 x185006) else (some false)) else (some false)) else (none)) else (none))
def spec_l16Links.f (k : Nat) (l0_0 : List (S72)) (a1 : Int) : Option (Bool) := if 0 ≤ a1 then (if a1 < (l0_0.length : Int) then (spec_l16Links.l0 k a1 (-1) ((rd_T72 l0_0 a1).f3) l0_0 ((rd_T72 l0_0 a1).f0) ((rd_T72 l0_0 a1).f1) ((rd_T72 l0_0 a1).f2) ((rd_T72 l0_0 a1).f3) ((rd_T72 l0_0 a1).f4) ((rd_T72 l0_0 a1).f5) ((rd_T72 l0_0 a1).f6)) else (none)) else (none)
set_option maxHeartbeats 8000000 in
set_option maxRecDepth 100000 in
theorem spec_l16Links.calls (k : Nat) (A0_0 : Option Addr) (c0_0 : Nat) (l0_0 : List (S72)) (a1 : Int) (r : Bool) (w : World) (hr0_0 : Kd.C k72 w A0_0 l0_0.length l0_0) (hc0_0 : l0_0.length ≤ c0_0) (h : spec_l16Links.f k l0_0 a1 = some r) :
  Calls Try.prog 63 #[.agg #[.slice A0_0 l0_0.length c0_0], .int .i64 a1] w fun e w' => e = .returned (.bool r) ∧ Below w.heap.size w w' := by
 have hu28 := Try.underlying28
 have hu72 := Try.underlying72
 have HR0_0 := Aside0.mk hr0_0
 have HC0_0 := Aside0.mk hc0_0
 clear hr0_0 hc0_0
 have HB := Aside0.mk (Below.refl w.heap.size w)
 have H : (if 0 ≤ a1 then (if a1 < (l0_0.length : Int) then (spec_l16Links.l0 k a1 (-1) ((rd_T72 l0_0 a1).f3) l0_0 ((rd_T72 l0_0 a1).f0) ((rd_T72 l0_0 a1).f1) ((rd_T72 l0_0 a1).f2) ((rd_T72 l0_0 a1).f3) ((rd_T72 l0_0 a1).f4) ((rd_T72 l0_0 a1).f5) ((rd_T72 l0_0 a1).f6)) else (none)) else (none)) = some r := h
 clear h
 obtain ⟨c3b0, H⟩ := ifd_ H
 obtain ⟨c4b0, H⟩ := ifd_ H
 have H' := Aside0.mk H
 clear H
 go_enter Try.func63, Try.ntmps63
 go_wp2_with (first | ((with_reducible refine gate_dst (N := 2) rfl ?_); refine box_event ?hg (N := 2) ?hd (cs := #[.slice A0_0 l0_0.length c0_0]) (t := 28) ?hr ?_; (case hd => rfl); (case hg => rfl); (case hr => exact z19_); intro gb182 hg w5 hbox hb; have BK182 := Aside0.mk (hbox); have GW182 := Aside0.mk ((by rw [hg]; exact (below_size z0_) : w.heap.size ≤ gb182)); have GE182 := Aside0.mk ((by rw [hg]; exact (below_size z0_) : w.heap.size ≤ gb182)); replace HB := Aside0.mk (below_step z0_ hb); clear hb hbox hg; have hcz6_0 : w5.cell? ⟨gb182, 0, none⟩ = some (.slice A0_0 l0_0.length c0_0) := (blk_cell BK182.out 0).trans rfl; have hfz6_0 := blk_frozen BK182.out 0; have p183 : 0 ≤ (a1 : Int) := odt_; have q183 : a1 < (l0_0.length : Int) := odt_; obtain ⟨ad183, e183, hx183_0, hx183_1, hx183_2, hx183_3, hx183_4, hx183_5, hx183_6⟩ := at_T72 HR0_0.out a1 p183 q183; cases e183; replace hx183_0 := (HB.out.cell (World.block_lt_of_cell? w _ hx183_0)).trans hx183_0; replace hx183_1 := (HB.out.cell (World.block_lt_of_cell? w _ hx183_1)).trans hx183_1; replace hx183_2 := (HB.out.cell (World.block_lt_of_cell? w _ hx183_2)).trans hx183_2; replace hx183_3 := (HB.out.cell (World.block_lt_of_cell? w _ hx183_3)).trans hx183_3; replace hx183_4 := (HB.out.cell (World.block_lt_of_cell? w _ hx183_4)).trans hx183_4; replace hx183_5 := (HB.out.cell (World.block_lt_of_cell? w _ hx183_5)).trans hx183_5; replace hx183_6 := (HB.out.cell (World.block_lt_of_cell? w _ hx183_6)).trans hx183_6; replace p183 := eq_true p183; replace q183 := eq_true q183) | ((with_reducible refine gate_dst (N := 5) rfl ?_); refine box_event ?hg (N := 5) ?hd (cs := #[.bool false, .int .i64 0, .int .i64 0, .int .i64 0, .int .i64 0, .int .i64 0, .int .i64 0]) (t := 72) ?hr ?_; (case hd => rfl); (case hg => rfl); (case hr => exact z19_); intro gb184 hg w7 hbox hb; have BK184 := Aside0.mk (hbox); have GW184 := Aside0.mk ((by rw [hg]; exact (below_size z177_) : w.heap.size ≤ gb184)); have GE184 := Aside0.mk ((by rw [hg]; exact (below_size z177_) : w.heap.size ≤ gb184)); replace HB := Aside0.mk (below_step z177_ hb); have NB182_184 := Aside0.mk ((by rw [hg]; exact Nat.ne_of_lt (blk_lt (g := gb182) (o := .cells #[.slice (some ad183) l0_0.length c0_0] 28 (0, 0)) z183_) : gb182 ≠ gb184)); have NB184_182 := Aside0.mk ((by rw [hg]; exact Nat.ne_of_gt (blk_lt (g := gb182) (o := .cells #[.slice (some ad183) l0_0.length c0_0] 28 (0, 0)) z183_) : gb184 ≠ gb182)); replace BK182 := Aside0.mk (blk_below (g := gb182) (o := .cells #[.slice (some ad183) l0_0.length c0_0] 28 (0, 0)) z183_ hb); clear hb hbox hg; have hnb8 := NB184_182.out; have hnc8 := NB182_184.out; obtain ⟨hcz9_0, hcz9_1, hcz9_2, hcz9_3, hcz9_4, hcz9_5, hcz9_6, hfz9_0, hfz9_1, hfz9_2, hfz9_3, hfz9_4, hfz9_5, hfz9_6⟩ := bx7_ BK184.out))
 go_loopg [6, 7] k (fun kq v6 v7 w' => ∃ (x6_1 : Int) (x7_1 : Int), v6 = .int .i64 x6_1 ∧ v7 = .int .i64 x7_1 ∧ Aside0 (spec_l16Links.l0 kq a1 x6_1 x7_1 l0_0 ((rd_T72 l0_0 a1).f0) ((rd_T72 l0_0 a1).f1) ((rd_T72 l0_0 a1).f2) ((rd_T72 l0_0 a1).f3) ((rd_T72 l0_0 a1).f4) ((rd_T72 l0_0 a1).f5) ((rd_T72 l0_0 a1).f6) = some r) ∧ Aside0 (kq ≤ k) ∧ Aside0 (w'.heap[gb182]? = some (.cells #[(.slice (some ad183) l0_0.length c0_0)] 28 (0, 0))) ∧ Aside0 (w'.heap[gb184]? = some (.cells #[.bool ((rd_T72 l0_0 a1).f0), .int .i64 ((rd_T72 l0_0 a1).f1), .int .i64 ((rd_T72 l0_0 a1).f2), .int .i64 ((rd_T72 l0_0 a1).f3), .int .i64 ((rd_T72 l0_0 a1).f4), .int .i64 ((rd_T72 l0_0 a1).f5), .int .i64 ((rd_T72 l0_0 a1).f6)] 72 (0, 0))) ∧ Aside0 (Below w.heap.size w w'))
 case atStart => exact ⟨((-1)), ((rd_T72 l0_0 a1).f3), z17_, z17_, H', ⟨Nat.le_refl _⟩, ⟨by refine blk_far ?_ NB182_184.out _; refine blk_far ?_ NB182_184.out _; refine blk_far ?_ NB182_184.out _; refine blk_far ?_ NB182_184.out _; refine blk_far ?_ NB182_184.out _; refine blk_far ?_ NB182_184.out _; refine blk_far ?_ NB182_184.out _; exact BK182.out⟩, ⟨by refine blk_put (cs := #[.bool ((rd_T72 l0_0 a1).f0), .int .i64 ((rd_T72 l0_0 a1).f1), .int .i64 ((rd_T72 l0_0 a1).f2), .int .i64 ((rd_T72 l0_0 a1).f3), .int .i64 ((rd_T72 l0_0 a1).f4), .int .i64 ((rd_T72 l0_0 a1).f5), .int .i64 0]) ?_ 6 _ rfl; refine blk_put (cs := #[.bool ((rd_T72 l0_0 a1).f0), .int .i64 ((rd_T72 l0_0 a1).f1), .int .i64 ((rd_T72 l0_0 a1).f2), .int .i64 ((rd_T72 l0_0 a1).f3), .int .i64 ((rd_T72 l0_0 a1).f4), .int .i64 0, .int .i64 0]) ?_ 5 _ rfl; refine blk_put (cs := #[.bool ((rd_T72 l0_0 a1).f0), .int .i64 ((rd_T72 l0_0 a1).f1), .int .i64 ((rd_T72 l0_0 a1).f2), .int .i64 ((rd_T72 l0_0 a1).f3), .int .i64 0, .int .i64 0, .int .i64 0]) ?_ 4 _ rfl; refine blk_put (cs := #[.bool ((rd_T72 l0_0 a1).f0), .int .i64 ((rd_T72 l0_0 a1).f1), .int .i64 ((rd_T72 l0_0 a1).f2), .int .i64 0, .int .i64 0, .int .i64 0, .int .i64 0]) ?_ 3 _ rfl; refine blk_put (cs := #[.bool ((rd_T72 l0_0 a1).f0), .int .i64 ((rd_T72 l0_0 a1).f1), .int .i64 0, .int .i64 0, .int .i64 0, .int .i64 0, .int .i64 0]) ?_ 2 _ rfl; refine blk_put (cs := #[.bool ((rd_T72 l0_0 a1).f0), .int .i64 0, .int .i64 0, .int .i64 0, .int .i64 0, .int .i64 0, .int .i64 0]) ?_ 1 _ rfl; refine blk_put (cs := #[.bool false, .int .i64 0, .int .i64 0, .int .i64 0, .int .i64 0, .int .i64 0, .int .i64 0]) ?_ 0 _ rfl; exact BK184.out⟩, ⟨z103_⟩⟩
 case round =>
  clear H' c3b0 c4b0 hcz6_0 hcz9_0 hcz9_1 hcz9_2 hcz9_3 hcz9_4 hcz9_5 hcz9_6 hfz6_0 hfz9_0 hfz9_1 hfz9_2 hfz9_3 hfz9_4 hfz9_5 hfz9_6 hx183_0 hx183_1 hx183_2 hx183_3 hx183_4 hx183_5 hx183_6 p183 q183
  obtain ⟨x6_1, x7_1, rfl, rfl, HA, HK1, BK182, BK184, HB⟩ := hrel
  cases gk with
  | zero => exact absurd HA.out (by simp [spec_l16Links.l0])
  | succ k1 =>
   have H := HA.out
   clear HA
   simp only [spec_l16Links.l0] at H
   by_cases c10 : x7_1 = (-1)
   ·rw [if_pos c10] at H
    have c10b0 : (x7_1 == (-1)) = true := beq_iff_eq.mpr c10
    have c10b1 : (x7_1 != (-1)) = false := bne_eq_false_iff_eq.mpr c10
    clear c10
    obtain rfl := Option.some.inj H
    have hnb11 := NB184_182.out
    have hnc11 := NB182_184.out
    obtain ⟨hcz12_0, hcz12_1, hcz12_2, hcz12_3, hcz12_4, hcz12_5, hcz12_6, hfz12_0, hfz12_1, hfz12_2, hfz12_3, hfz12_4, hfz12_5, hfz12_6⟩ := bx7_ BK184.out
    go_wp2
    go_ret
    exact ⟨z4_, z103_⟩
   ·rw [if_neg c10] at H
    have c10b0 : (x7_1 == (-1)) = false := beq_eq_false_iff_ne.mpr c10
    have c10b1 : (x7_1 != (-1)) = true := bne_iff_ne.mpr c10
    obtain ⟨c13b0, H⟩ := ifd_ H
    obtain ⟨c14b0, H⟩ := ifd_ H
    by_cases c15 : ((rd_T72 l0_0 x7_1).f2) = a1
    ·rw [if_pos c15] at H
     have c15b0 : (((rd_T72 l0_0 x7_1).f2) == a1) = true := beq_iff_eq.mpr c15
     have c15b1 : (((rd_T72 l0_0 x7_1).f2) != a1) = false := bne_eq_false_iff_eq.mpr c15
     clear c15
     by_cases c16 : ((rd_T72 l0_0 x7_1).f5) = x6_1
     ·rw [if_pos c16] at H
      have c16b0 : (((rd_T72 l0_0 x7_1).f5) == x6_1) = true := beq_iff_eq.mpr c16
      have c16b1 : (((rd_T72 l0_0 x7_1).f5) != x6_1) = false := bne_eq_false_iff_eq.mpr c16
      clear c16
      have H' := Aside0.mk H
      clear H
      have hnb17 := NB182_184.out
      have hnc17 := NB184_182.out
      have hcz18_0 : wr.cell? ⟨gb182, 0, none⟩ = some (.slice (some ad183) l0_0.length c0_0) := (blk_cell BK182.out 0).trans rfl
      have hfz18_0 := blk_frozen BK182.out 0
      obtain ⟨p185, q185, ad185, e185, hx185_0, hx185_1, hx185_2, hx185_3, hx185_4, hx185_5, hx185_6⟩ := atb72_ HR0_0 HB x7_1
      obtain rfl : ad183 = ad185 := (by injection e185)
      obtain ⟨p186, q186, ad186, e186, hx186_0, hx186_1, hx186_2, hx186_3, hx186_4, hx186_5, hx186_6⟩ := atb72_ HR0_0 HB x7_1
      obtain rfl : ad183 = ad186 := (by injection e186)
      obtain ⟨p187, q187, ad187, e187, hx187_0, hx187_1, hx187_2, hx187_3, hx187_4, hx187_5, hx187_6⟩ := atb72_ HR0_0 HB x7_1
      obtain rfl : ad183 = ad187 := (by injection e187)
      go_wp2
      go_roundg k1
      case measure => have := HK1.out; omega
      case rel => exact ⟨(x7_1), ((rd_T72 l0_0 x7_1).f6), z17_, z17_, H', ⟨z259_⟩, ⟨z183_⟩, ⟨by exact BK184.out⟩, ⟨z103_⟩⟩
     ·rw [if_neg c16] at H
      have c16b0 : (((rd_T72 l0_0 x7_1).f5) == x6_1) = false := beq_eq_false_iff_ne.mpr c16
      have c16b1 : (((rd_T72 l0_0 x7_1).f5) != x6_1) = true := bne_iff_ne.mpr c16
      obtain rfl := Option.some.inj H
      have hnb19 := NB182_184.out
      have hnc19 := NB184_182.out
      have hcz20_0 : wr.cell? ⟨gb182, 0, none⟩ = some (.slice (some ad183) l0_0.length c0_0) := (blk_cell BK182.out 0).trans rfl
      have hfz20_0 := blk_frozen BK182.out 0
      obtain ⟨p185, q185, ad185, e185, hx185_0, hx185_1, hx185_2, hx185_3, hx185_4, hx185_5, hx185_6⟩ := atb72_ HR0_0 HB x7_1
      obtain rfl : ad183 = ad185 := (by injection e185)
      obtain ⟨p186, q186, ad186, e186, hx186_0, hx186_1, hx186_2, hx186_3, hx186_4, hx186_5, hx186_6⟩ := atb72_ HR0_0 HB x7_1
      obtain rfl : ad183 = ad186 := (by injection e186)
      go_wp2
      go_ret
      exact ⟨z4_, z103_⟩
    ·rw [if_neg c15] at H
     have c15b0 : (((rd_T72 l0_0 x7_1).f2) == a1) = false := beq_eq_false_iff_ne.mpr c15
     have c15b1 : (((rd_T72 l0_0 x7_1).f2) != a1) = true := bne_iff_ne.mpr c15
     obtain rfl := Option.some.inj H
     have hnb21 := NB182_184.out
     have hnc21 := NB184_182.out
     have hcz22_0 : wr.cell? ⟨gb182, 0, none⟩ = some (.slice (some ad183) l0_0.length c0_0) := (blk_cell BK182.out 0).trans rfl
     have hfz22_0 := blk_frozen BK182.out 0
     obtain ⟨p185, q185, ad185, e185, hx185_0, hx185_1, hx185_2, hx185_3, hx185_4, hx185_5, hx185_6⟩ := atb72_ HR0_0 HB x7_1
     obtain rfl : ad183 = ad185 := (by injection e185)
     go_wp2
     go_ret
     exact ⟨z4_, z103_⟩

end Go.Proofs.Ytdapeboajjidmab.PFnExactDomInsert
