/- Laid by a program of this session out of the kit's print for the law FnExactSimilarity: what it says of the machine is proved here, function by function; each contract under the conditions that it names. -/
import Derived.Test.YtbmkobanpakohaaMFnExactSimilarityx0
import Derived.Test.YtbmkobanpakohaaMFnExactSimilarityx14
namespace Go.Proofs.Ytbmkobanpakohaa.PFnExactSimilarity
open Go.RowKit Go.Proofs.YtbmkobanpakohaaW.PrintWords Go.Proofs.YtbmkobanpakohaaW.PrintLast Go.Proofs.YtbmkobanpakohaaW.PrintMore
attribute [local go_sem] max2_int min2_int max_two min_two max_three min_three max_four min_four   -- for this text's walks alone
set_option linter.unusedVariables false
set_option linter.unusedSimpArgs false

/-! ### impl_UnitCost: function 40 -/
mutual
def impl_UnitCost.l0 : Nat → Int → List Int → List Int → List Int → Option (List Int × List Int × List Int)
 | 0, _, _, _, _ => none
 | k + 1, x6, x483000, x483001, x483002 => if x6 < 6 then ((some (([1] : List Int) : List Int)).bind fun y483 => (if x483000.length + y483.length < 17592186044416 then ((some (([1] : List Int) : List Int)).bind fun y489 => (if x483001.length + y489.length < 17592186044416 then (impl_UnitCost.l1 k x6 x6 0 (x483000 ++ y483) (x483001 ++ y489) x483002) else (none))) else (none))) else (some (x483000, x483001, x483002))
def impl_UnitCost.l1 : Nat → Int → Int → Int → List Int → List Int → List Int → Option (List Int × List Int × List Int)
 | 0, _, _, _, _, _, _ => none
 | k + 1, x2, x6, x19, x483000, x483001, x483002 => if x19 < 6 then (if x2 = x19 then ((some (([0] : List Int) : List Int)).bind fun y495 => (if x483002.length + y495.length < 17592186044416 then (impl_UnitCost.l1 k x2 x6 (wrap64 (x19 + 1)) x483000 x483001 (x483002 ++ y495)) else (none))) else ((some (([1] : List Int) : List Int)).bind fun y501 => (if x483002.length + y501.length < 17592186044416 then (impl_UnitCost.l1 k x2 x6 (wrap64 (x19 + 1)) x483000 x483001 (x483002 ++ y501)) else (none)))) else (impl_UnitCost.l0 k (wrap64 (x6 + 1)) x483000 x483001 x483002)
end
def impl_UnitCost.f (k : Nat)  : Option (List Int × List Int × List Int) := impl_UnitCost.l0 k 0 ([] : List Int) ([] : List Int) ([] : List Int)
def impl_UnitCost.T5 : Bool × List (List Nat × List Nat) := (true, [([], []), ([0], [0]), ([], []), ([1, 2], [1, 2]), ([], []), ([4], [4]), ([], []), ([5, 6, 3], [5, 6]), ([0, 1, 2, 3, 4, 5], []), ([8, 3, 7, 0, 1, 2, 3, 4, 5], [3, 8]), ([0, 1, 2, 3, 4, 5, 6, 7, 8, 9], []), ([10, 7, 9, 0, 1, 2, 3, 4, 5, 6, 7, 8, 9], [7, 10])])
def impl_UnitCost.B5 : List Nat := [0, 1, 0, 7, 0, 16, 0, 127, 63, 511, 1023, 2047]
theorem impl_UnitCost.tab5 : rtab .any (opsOf Try.f40 5) = impl_UnitCost.T5 := by kernel_rfl
theorem impl_UnitCost.bits5 : waitsOk impl_UnitCost.T5.2 impl_UnitCost.B5 = true := by kernel_rfl
set_option maxHeartbeats 8000000 in
set_option maxRecDepth 100000 in
theorem impl_UnitCost.calls (k : Nat)  (r1 : List Int) (r2 : List Int) (r3 : List Int) (w : World) (h : impl_UnitCost.f k  = some (r1, r2, r3)) :
  Calls Try.prog 40 #[] w fun e w' => ∃ v0_ v1_ v2_ : Value, e = .returned (.agg #[v0_, v1_, v2_]) ∧ Kd.R (Kd.int .i64) 3 w' w.heap.size (fun k_ => some k_ ≠ (v1_ : Value).ownBlock ∧ some k_ ≠ (v2_ : Value).ownBlock) v0_ r1 ∧ Kd.R (Kd.int .i64) 3 w' w.heap.size (fun k_ => some k_ ≠ (v0_ : Value).ownBlock ∧ some k_ ≠ (v2_ : Value).ownBlock) v1_ r2 ∧ Kd.R (Kd.int .i64) 3 w' w.heap.size (fun k_ => some k_ ≠ (v0_ : Value).ownBlock ∧ some k_ ≠ (v1_ : Value).ownBlock) v2_ r3 ∧ Below w.heap.size w w' := by
 have hu38 := Try.underlying38
 have HB := Aside0.mk (Below.refl w.heap.size w)
 have H : (impl_UnitCost.l0 k 0 ([] : List Int) ([] : List Int) ([] : List Int)) = some (r1, r2, r3) := h
 clear h
 have H' := Aside0.mk H
 clear H
 go_enter Try.func40, Try.ntmps40
 go_wp2_with (first | ((with_reducible refine gate_dst (N := 0) rfl ?_); refine box_event ?hg (N := 0) ?hd (cs := #[.slice none 0 0, .slice none 0 0, .slice none 0 0]) (t := 38) ?hr ?_; (case hd => rfl); (case hg => rfl); (case hr => exact z14_); intro gb481 hg w1 hbox hb; have BK481 := Aside0.mk (hbox); have GW481 := Aside0.mk ((by rw [hg]; exact (below_size z0_) : w.heap.size ≤ gb481)); have GE481 := Aside0.mk ((by rw [hg]; exact (below_size z0_) : w.heap.size ≤ gb481)); replace HB := Aside0.mk (below_step z0_ hb); clear hb hbox hg) | ((with_reducible refine gate_dst (N := 1) rfl ?_); refine box_event ?hg (N := 1) ?hd (cs := #[.slice none 0 0, .slice none 0 0, .slice none 0 0]) (t := 38) ?hr ?_; (case hd => rfl); (case hg => rfl); (case hr => exact z14_); intro gb482 hg w2 hbox hb; have BK482 := Aside0.mk (hbox); have GW482 := Aside0.mk ((by rw [hg]; exact (below_size z160_) : w.heap.size ≤ gb482)); have GE482 := Aside0.mk ((by rw [hg]; exact (below_size z160_) : w.heap.size ≤ gb482)); replace HB := Aside0.mk (below_step z160_ hb); have NB481_482 := Aside0.mk ((by rw [hg]; exact Nat.ne_of_lt (blk_lt (g := gb481) (o := .cells #[.slice none 0 0, .slice none 0 0, .slice none 0 0] 38 (0, 0)) z31_) : gb481 ≠ gb482)); have NB482_481 := Aside0.mk ((by rw [hg]; exact Nat.ne_of_gt (blk_lt (g := gb481) (o := .cells #[.slice none 0 0, .slice none 0 0, .slice none 0 0] 38 (0, 0)) z31_) : gb482 ≠ gb481)); replace BK481 := Aside0.mk (blk_below (g := gb481) (o := .cells #[.slice none 0 0, .slice none 0 0, .slice none 0 0] 38 (0, 0)) z31_ hb); clear hb hbox hg; have hnb3 := NB482_481.out; have hnc3 := NB481_482.out; have hcz4_0 : w2.cell? ⟨gb482, 0, none⟩ = some (.slice none 0 0) := (blk_cell BK482.out 0).trans rfl; have hcz4_1 : w2.cell? ⟨gb482, 1, none⟩ = some (.slice none 0 0) := (blk_cell BK482.out 1).trans rfl; have hcz4_2 : w2.cell? ⟨gb482, 2, none⟩ = some (.slice none 0 0) := (blk_cell BK482.out 2).trans rfl; have hfz4_0 := blk_frozen BK482.out 0; have hfz4_1 := blk_frozen BK482.out 1; have hfz4_2 := blk_frozen BK482.out 2))
 go_loopg [6] k (fun kq v6 w' => ∃ (x6_1 : Int) (x483000_1 : List Int) (x483001_1 : List Int) (x483002_1 : List Int) (u483000 : Value) (u483001 : Value) (u483002 : Value), v6 = .int .i64 x6_1 ∧ Aside0 (impl_UnitCost.l0 kq x6_1 x483000_1 x483001_1 x483002_1 = some (r1, r2, r3)) ∧ Aside0 (kq ≤ k) ∧ Aside0 (Kd.R (Kd.int .i64) 3 w' w.heap.size (fun k_ => some k_ ≠ (u483001 : Value).ownBlock ∧ some k_ ≠ (u483002 : Value).ownBlock) u483000 x483000_1) ∧ Aside0 (Kd.R (Kd.int .i64) 3 w' w.heap.size (fun k_ => some k_ ≠ (u483000 : Value).ownBlock ∧ some k_ ≠ (u483002 : Value).ownBlock) u483001 x483001_1) ∧ Aside0 (Kd.R (Kd.int .i64) 3 w' w.heap.size (fun k_ => some k_ ≠ (u483000 : Value).ownBlock ∧ some k_ ≠ (u483001 : Value).ownBlock) u483002 x483002_1) ∧ Aside0 (w'.heap[gb481]? = some (.cells #[(.slice none 0 0), (.slice none 0 0), (.slice none 0 0)] 38 (0, 0))) ∧ Aside0 (w'.heap[gb482]? = some (.cells #[u483000, u483001, u483002] 38 (0, 0))) ∧ Aside0 (Below w.heap.size w w'))
 case atStart => exact ⟨(0), (([] : List Int)), (([] : List Int)), (([] : List Int)), (.slice none 0 0), (.slice none 0 0), (.slice none 0 0), z7_, H', ⟨Nat.le_refl _⟩, ⟨z41_⟩, ⟨z41_⟩, ⟨z41_⟩, ⟨by (with_reducible repeat (first | refine blk_drewN ?_ _ | refine blk_drew ?_ | refine blk_alloc ?_ _)); refine blk_far ?_ NB481_482.out _; (with_reducible repeat (first | refine blk_drewN ?_ _ | refine blk_drew ?_ | refine blk_alloc ?_ _)); refine blk_far ?_ NB481_482.out _; (with_reducible repeat (first | refine blk_drewN ?_ _ | refine blk_drew ?_ | refine blk_alloc ?_ _)); refine blk_far ?_ NB481_482.out _; (with_reducible repeat (first | refine blk_drewN ?_ _ | refine blk_drew ?_ | refine blk_alloc ?_ _)); exact BK481.out⟩, ⟨by (with_reducible repeat (first | refine blk_drewN ?_ _ | refine blk_drew ?_ | refine blk_alloc ?_ _)); refine blk_put (cs := #[.slice none 0 0, .slice none 0 0, .slice none 0 0]) ?_ 2 _ rfl; (with_reducible repeat (first | refine blk_drewN ?_ _ | refine blk_drew ?_ | refine blk_alloc ?_ _)); refine blk_put (cs := #[.slice none 0 0, .slice none 0 0, .slice none 0 0]) ?_ 1 _ rfl; (with_reducible repeat (first | refine blk_drewN ?_ _ | refine blk_drew ?_ | refine blk_alloc ?_ _)); refine blk_put (cs := #[.slice none 0 0, .slice none 0 0, .slice none 0 0]) ?_ 0 _ rfl; (with_reducible repeat (first | refine blk_drewN ?_ _ | refine blk_drew ?_ | refine blk_alloc ?_ _)); exact BK482.out⟩, ⟨z4_⟩⟩
 case round =>
  clear H'
  try clear p2
  try clear c3
  try clear c4
  try clear hcz4_0
  try clear hcz4_1
  try clear hcz4_2
  try clear hfz4_0
  try clear hfz4_1
  try clear hfz4_2
  obtain ⟨x6_1, x483000_1, x483001_1, x483002_1, u483000, u483001, u483002, rfl, HA, HK1, HO_483000, HO_483001, HO_483002, BK481, BK482, HB⟩ := hrel
  cases gk with
  | zero => exact absurd HA.out (by simp [impl_UnitCost.l0])
  | succ k1 =>
   have H := HA.out
   clear HA
   simp only [impl_UnitCost.l0] at H
   by_cases c5 : x6_1 < 6
   ·rw [if_pos c5] at H
    have c5b0 : decide (x6_1 < 6) = true := decide_eq_true c5
    clear c5
    obtain ⟨y483, hy483⟩ : ∃ y_ : List Int, y_ = (([1] : List Int)) := ⟨_, rfl⟩
    replace H : (if x483000_1.length + y483.length < 17592186044416 then ((some (([1] : List Int) : List Int)).bind fun y489 => (if x483001_1.length + y489.length < 17592186044416 then (impl_UnitCost.l1 k1 x6_1 x6_1 0 (x483000_1 ++ y483) (x483001_1 ++ y489) x483002_1) else (none))) else (none)) = some (r1, r2, r3) := by first | (rw [hy483]; with_reducible exact H) | (have H2_ := (Option.bind_some _ _).symm.trans H; rw [hy483]; with_reducible exact H2_) | (have H2_ := (Option.bind_some _ _).symm.trans H; with_reducible exact H2_) | with_reducible exact H | (rw [hy483]; exact H) | exact H
    have Ny483 := Aside0.mk hy483
    clear hy483
    obtain ⟨c6, H⟩ := ifs_ H
    have LMc6 := Aside0.mk c6
    clear c6
    obtain ⟨y486, hy486⟩ : ∃ y_ : List Int, y_ = (x483000_1 ++ y483) := ⟨_, rfl⟩
    replace H : ((some (([1] : List Int) : List Int)).bind fun y489 => (if x483001_1.length + y489.length < 17592186044416 then (impl_UnitCost.l1 k1 x6_1 x6_1 0 y486 (x483001_1 ++ y489) x483002_1) else (none))) = some (r1, r2, r3) := by first | (rw [hy486]; with_reducible exact H) | (have H2_ := (Option.bind_some _ _).symm.trans H; rw [hy486]; with_reducible exact H2_) | (have H2_ := (Option.bind_some _ _).symm.trans H; with_reducible exact H2_) | with_reducible exact H | (rw [hy486]; exact H) | exact H
    have Ny486 := Aside0.mk hy486
    clear hy486
    obtain ⟨y489, hy489⟩ : ∃ y_ : List Int, y_ = (([1] : List Int)) := ⟨_, rfl⟩
    replace H : (if x483001_1.length + y489.length < 17592186044416 then (impl_UnitCost.l1 k1 x6_1 x6_1 0 y486 (x483001_1 ++ y489) x483002_1) else (none)) = some (r1, r2, r3) := by first | (rw [hy489]; with_reducible exact H) | (have H2_ := (Option.bind_some _ _).symm.trans H; rw [hy489]; with_reducible exact H2_) | (have H2_ := (Option.bind_some _ _).symm.trans H; with_reducible exact H2_) | with_reducible exact H | (rw [hy489]; exact H) | exact H
    have Ny489 := Aside0.mk hy489
    clear hy489
    obtain ⟨c7, H⟩ := ifs_ H
    have LMc7 := Aside0.mk c7
    clear c7
    obtain ⟨y492, hy492⟩ : ∃ y_ : List Int, y_ = (x483001_1 ++ y489) := ⟨_, rfl⟩
    replace H : (impl_UnitCost.l1 k1 x6_1 x6_1 0 y486 y492 x483002_1) = some (r1, r2, r3) := by first | (rw [hy492]; with_reducible exact H) | (have H2_ := (Option.bind_some _ _).symm.trans H; rw [hy492]; with_reducible exact H2_) | (have H2_ := (Option.bind_some _ _).symm.trans H; with_reducible exact H2_) | with_reducible exact H | (rw [hy492]; exact H) | exact H
    have Ny492 := Aside0.mk hy492
    clear hy492
    have H' := Aside0.mk H
    clear H
    obtain ⟨Ao8, co8, eo8⟩ := Kd.R_slice HO_483000.out
    subst eo8
    obtain ⟨Ao9, co9, eo9⟩ := Kd.R_slice HO_483001.out
    subst eo9
    try go_wp2
    have n0_ := Aside0.mk (Kd.R_drew HO_483000.out)
    have n1_ := Aside0.mk (Kd.R_drew HO_483001.out)
    have n2_ := Aside0.mk (Kd.R_drew HO_483002.out)
    have n3_ := Aside0.mk (blk_drew BK481.out)
    have n4_ := Aside0.mk (blk_drew BK482.out)
    have n5_ := Aside0.mk (below_drew1 HB.out)
    clear HO_483000
    clear HO_483001
    clear HO_483002
    clear BK481
    clear BK482
    clear HB
    have HO_483000 := n0_
    have HO_483001 := n1_
    have HO_483002 := n2_
    have BK481 := n3_
    have BK482 := n4_
    have HB := n5_
    clear n0_ n1_ n2_ n3_ n4_ n5_
    refine start_ (n := 12) (S := fun w' => w'.cell? ⟨gb482, 0, none⟩ = some (.slice Ao8 x483000_1.length co8) ∧ w'.cell? ⟨gb482, 1, none⟩ = some (.slice Ao9 x483001_1.length co9) ∧ w'.cell? ⟨gb482, 2, none⟩ = some (u483002)) (ds := [9, 11]) (fl_ 12 0) (by kernel_rfl) rfl (fl_zero _) ⟨(blk_cell BK482.out 0).trans rfl, (blk_cell BK482.out 1).trans rfl, (blk_cell BK482.out 2).trans rfl⟩ (fun hHeld => ?_); refine with_tabW impl_UnitCost.tab5 impl_UnitCost.bits5 (fun HT_ HW_ => ?_)
    generalize wr.drew = w10 at HO_483000 HO_483001 HO_483002 BK481 BK482 HB hHeld ⊢
    refine zp_ HT_ rfl rfl (by kernel_rfl) (fun _ _ _ h => h) (by rfl) ?_
    refine zpg_ (i := 4) (ra_ [1, 3, 1, 7]) HT_ rfl rfl (by kernel_rfl) (fun _ _ _ h => h) (by rfl) ?_
    refine ztg_ (i := 1) (ra_ [2, 2, 1, 7]) HT_ HW_ rfl rfl (by kernel_rfl) (fun _ _ _ h => h) (by rfl) hHeld ?_ z263_
    refine ztg_ (i := 5) (ra_ [2, 2, 2, 6]) HT_ HW_ rfl rfl (by kernel_rfl) (fun _ _ _ h => h) (by rfl) hHeld ?_ z263_
    refine join_ (σ := Value × Value × Value) 4 #[true, true, true, true, true, true, true, false, true, false, false, false] (fun s_ => [(11, s_.1), (12, s_.2.1), (15, s_.2.2), (17, .pointer (some ⟨gb482, 0, none⟩))]) (fun s_ w' => (w'.cell? ⟨gb482, 0, none⟩ = some (.slice Ao8 x483000_1.length co8) ∧ w'.cell? ⟨gb482, 1, none⟩ = some (.slice Ao9 x483001_1.length co9) ∧ w'.cell? ⟨gb482, 2, none⟩ = some (u483002)) ∧ (Kd.R (Kd.int .i64) 3 w' w.heap.size (fun k_ => some k_ ≠ (s_.2.1 : Value).ownBlock ∧ some k_ ≠ (s_.2.2 : Value).ownBlock ∧ some k_ ≠ (.slice Ao9 x483001_1.length co9 : Value).ownBlock ∧ some k_ ≠ (u483002 : Value).ownBlock) s_.1 y483) ∧ (Kd.R (Kd.int .i64) 3 w' w.heap.size (fun k_ => some k_ ≠ (s_.1 : Value).ownBlock ∧ some k_ ≠ (s_.2.2 : Value).ownBlock ∧ some k_ ≠ (.slice Ao9 x483001_1.length co9 : Value).ownBlock ∧ some k_ ≠ (u483002 : Value).ownBlock) s_.2.1 y486) ∧ (Kd.R (Kd.int .i64) 3 w' w.heap.size (fun k_ => some k_ ≠ (s_.1 : Value).ownBlock ∧ some k_ ≠ (s_.2.1 : Value).ownBlock ∧ some k_ ≠ (.slice Ao9 x483001_1.length co9 : Value).ownBlock ∧ some k_ ≠ (u483002 : Value).ownBlock) s_.2.2 y489) ∧ (Kd.R (Kd.int .i64) 3 w' w.heap.size (fun k_ => some k_ ≠ (s_.1 : Value).ownBlock ∧ some k_ ≠ (s_.2.1 : Value).ownBlock ∧ some k_ ≠ (s_.2.2 : Value).ownBlock ∧ some k_ ≠ (u483002 : Value).ownBlock) (.slice Ao9 x483001_1.length co9) x483001_1) ∧ (Kd.R (Kd.int .i64) 3 w' w.heap.size (fun k_ => some k_ ≠ (s_.1 : Value).ownBlock ∧ some k_ ≠ (s_.2.1 : Value).ownBlock ∧ some k_ ≠ (s_.2.2 : Value).ownBlock ∧ some k_ ≠ (.slice Ao9 x483001_1.length co9 : Value).ownBlock) u483002 x483002_1) ∧ (w'.heap[gb481]? = some (.cells #[.slice none 0 0, .slice none 0 0, .slice none 0 0] 38 (0, 0))) ∧ (w'.heap[gb482]? = some (.cells #[.slice Ao8 x483000_1.length co8, .slice Ao9 x483001_1.length co9, u483002] 38 (0, 0))) ∧ (Below w.heap.size w w')) ?_ ?_
    rotate_left
    ·intro hCont
     refine two_ (i := 2) (j := 6) (Ni := some 11) (Nj := some 15) #[true, true, true, false, true, true, false, false, false, false, false, false] #[true, true, false, false, true, true, true, false, false, false, false, false] rfl rfl rfl rfl (two_of HT_.out (by kernel_rfl)) (by decide) (by decide) (fun K hK => ?_) (fun K hK => ?_)
     ·skip
      refine Kd.R_lit_step (Kd.int .i64) _ 3 ?hg (N := 11) ?hd (xs := ([1] : List Int)) (inner := [.int .i64 1]) (ok := fun _ => True) (okp := fun _ => True) ?hr ?hp (fun _ hk => hk) trivial (Below.refl _ _) (Nat.le_refl _) (by simp) ?_; (case hd => rfl); (case hg => rfl); (case hr => exact z14_); (case hp => exact z143_)
      intro v484 w11 ho12 hb hg_ hnew_
      clear hg_ hnew_
      (first | rw [← Ny483.out] at ho12 | (simp only [Int.reduceToNat] at ho12; rw [← Ny483.out] at ho12))
      have n0_ := Aside0.mk (Kd.R_elder' z49_ (Kd.R_base ho12) hb)
      have n1_ := Aside0.mk (Kd.R_elder' z35_ (Kd.R_base ho12) hb)
      have n2_ := Aside0.mk (Kd.R_elder' z36_ (Kd.R_base ho12) hb)
      have n3_ := Aside0.mk (Kd.R_lower (Kd.R_new' (Kd.R_new' (Kd.R_new' ho12 (Kd.R_lt z49_)) (Kd.R_lt z35_)) (Kd.R_lt z36_)) (below_size z4_))
      have n4_ := Aside0.mk (blk_below (g := gb481) (o := .cells #[.slice none 0 0, .slice none 0 0, .slice none 0 0] 38 (0, 0)) z31_ hb)
      have n5_ := Aside0.mk (blk_below (g := gb482) (o := .cells #[.slice Ao8 x483000_1.length co8, .slice Ao9 x483001_1.length co9, u483002] 38 (0, 0)) z38_ hb)
      have n6_ := Aside0.mk (below_step z4_ hb)
      clear HO_483000
      clear HO_483001
      clear HO_483002
      clear BK481
      clear BK482
      clear HB
      have HO_483000 := n0_
      have HO_483001 := n1_
      have HO_483002 := n2_
      have HO485 := n3_
      have BK481 := n4_
      have BK482 := n5_
      have HB := n6_
      clear n0_ n1_ n2_ n3_ n4_ n5_ n6_
      clear hb ho12
      obtain ⟨Ao14, co14, eo14⟩ := Kd.R_slice HO485.out
      (first | subst eo14 | (injection eo14 with f1_ f2_ f3_; have f4_ := f1_.symm; have f5_ := f3_.symm; clear f1_ f2_ f3_; subst f4_; subst f5_))
      refine hK.out _ _ ⟨(blk_cell BK482.out 0).trans rfl, (blk_cell BK482.out 1).trans rfl, (blk_cell BK482.out 2).trans rfl⟩ (fun hHeld => ?_)
      clear hK K
      refine zn_ rfl ?_
      refine two_ (i := 3) (j := 6) (Ni := some 12) (Nj := some 15) #[true, true, true, true, true, true, false, false, false, false, false, false] #[true, true, true, false, true, true, true, false, false, false, false, false] rfl rfl rfl rfl (two_of HT_.out (by kernel_rfl)) (by decide) (by decide) (fun K hK => ?_) (fun K hK => ?_)
      ·skip
       refine Kd.R_append_rows_step (Kd.int .i64) (w0 := w) w.heap.size (by rfl) (.tmp 10) (.tmp 11) 30 3 (.int .i64 0) 8 rfl Try.underlying30 info3 rfl (by decide) (by omega) (.slice Ao8 x483000_1.length co8) x483000_1 y483 _ _ _ (fun k_ => some k_ ≠ (.slice Ao9 x483001_1.length co9 : Value).ownBlock ∧ some k_ ≠ (u483002 : Value).ownBlock ∧ some k_ ≠ (.slice Ao14 y483.length co14 : Value).ownBlock) (fun _ => False) rfl rfl ?aO ?aR (fun _ _ h => h) (fun _ h => h.elim) ?aF ?aB ?aS ?aL ?_
       (case aR => exact z146_)
       (case aB => exact z75_)
       (case aF => exact (fun k_ hk => ⟨Kd.fresh' (Kd.R_lt z35_) k_ hk, Kd.fresh' (Kd.R_lt z36_) k_ hk, Kd.fresh' (Kd.R_lt z90_) k_ hk⟩))
       (case aO => exact (by (with_reducible repeat (first | apply Kd.R_alloc | apply Kd.R_drewN | apply Kd.R_drew)); exact Kd.R_mono HO_483000.out (fun _ hk => ⟨hk.1.1, ⟨hk.1.2, hk.2⟩⟩)))
       (case aS => exact z71_)
       (case aL => have := LMc6.out; omega)
       intro v487 w13 ho hb hg hat
       rw [← Ny486.out] at ho
       have n0_ := Aside0.mk (Kd.R_after (ok := (fun k_ => some k_ ≠ (u483002 : Value).ownBlock ∧ some k_ ≠ (.slice Ao14 y483.length co14 : Value).ownBlock)) (by (with_reducible repeat (first | apply Kd.R_alloc | apply Kd.R_drewN | apply Kd.R_drew)); exact Kd.R_mono HO_483001.out (fun _ hk => ⟨⟨hk.1.2, hk.2⟩, hk.1.1⟩)) hg hat)
       have n1_ := Aside0.mk (Kd.R_after (ok := (fun k_ => some k_ ≠ (.slice Ao9 x483001_1.length co9 : Value).ownBlock ∧ some k_ ≠ (.slice Ao14 y483.length co14 : Value).ownBlock)) (by (with_reducible repeat (first | apply Kd.R_alloc | apply Kd.R_drewN | apply Kd.R_drew)); exact Kd.R_mono HO_483002.out (fun _ hk => ⟨⟨hk.1.2, hk.2⟩, hk.1.1⟩)) hg hat)
       have n2_ := Aside0.mk (blk_grown (g := gb481) (o := .cells #[.slice none 0 0, .slice none 0 0, .slice none 0 0] 38 (0, 0)) z31_ hg (Kd.R_ne HO_483000.out BK481.out (by decide)))
       have n3_ := Aside0.mk (blk_grown (g := gb482) (o := .cells #[.slice Ao8 x483000_1.length co8, .slice Ao9 x483001_1.length co9, u483002] 38 (0, 0)) z38_ hg (Kd.R_ne HO_483000.out BK482.out (by decide)))
       have n4_ := Aside0.mk (Kd.R_after (ok := (fun k_ => some k_ ≠ (.slice Ao9 x483001_1.length co9 : Value).ownBlock ∧ some k_ ≠ (u483002 : Value).ownBlock)) (by (with_reducible repeat (first | apply Kd.R_alloc | apply Kd.R_drewN | apply Kd.R_drew)); exact Kd.R_mono HO485.out (fun _ hk => ⟨⟨hk.1.2, hk.2⟩, hk.1.1.2⟩)) hg hat)
       have n5_ := Aside0.mk (hb)
       have n6_ := Aside0.mk (ho)
       clear HO_483001
       clear HO_483002
       clear BK481
       clear BK482
       clear HO485
       clear HB
       clear HO_483000
       have HO_483001 := n0_
       have HO_483002 := n1_
       have BK481 := n2_
       have BK482 := n3_
       have HO485 := n4_
       have HB := n5_
       have HO488 := n6_
       clear n0_ n1_ n2_ n3_ n4_ n5_ n6_
       clear ho hb hg hat
       refine hK.out _ _ ⟨(blk_cell BK482.out 0).trans rfl, (blk_cell BK482.out 1).trans rfl, (blk_cell BK482.out 2).trans rfl⟩ (fun hHeld => ?_)
       clear hK K
       refine zn_ rfl ?_
       refine zpg_ (i := 8) (ra_ [6, 2, 1, 3]) HT_ rfl rfl (by kernel_rfl) (fun _ _ _ h => h) (by rfl) ?_
       refine one_ (i := 6) (N := some 15) (ra_ [7, 1, 1, 3]) rfl rfl (one_of HT_.out (by kernel_rfl)) (by decide) (fun K hK => ?_)
       refine Kd.R_lit_step (Kd.int .i64) _ 3 ?hg (N := 15) ?hd (xs := ([1] : List Int)) (inner := [.int .i64 1]) (ok := fun _ => True) (okp := fun _ => True) ?hr ?hp (fun _ hk => hk) trivial (Below.refl _ _) (Nat.le_refl _) (by simp) ?_; (case hd => rfl); (case hg => rfl); (case hr => exact z14_); (case hp => exact z143_)
       intro v490 w15 ho16 hb hg_ hnew_
       clear hg_ hnew_
       (first | rw [← Ny489.out] at ho16 | (simp only [Int.reduceToNat] at ho16; rw [← Ny489.out] at ho16))
       have n0_ := Aside0.mk (Kd.R_elder' z35_ (Kd.R_base ho16) hb)
       have n1_ := Aside0.mk (Kd.R_elder' z36_ (Kd.R_base ho16) hb)
       have n2_ := Aside0.mk (Kd.R_elder' z90_ (Kd.R_base ho16) hb)
       have n3_ := Aside0.mk (Kd.R_elder' z226_ (Kd.R_base ho16) hb)
       have n4_ := Aside0.mk (Kd.R_lower (Kd.R_new' (Kd.R_new' (Kd.R_new' (Kd.R_new' ho16 (Kd.R_lt z35_)) (Kd.R_lt z36_)) (Kd.R_lt z90_)) (Kd.R_lt z226_)) (below_size z4_))
       have n5_ := Aside0.mk (blk_below (g := gb481) (o := .cells #[.slice none 0 0, .slice none 0 0, .slice none 0 0] 38 (0, 0)) z31_ hb)
       have n6_ := Aside0.mk (blk_below (g := gb482) (o := .cells #[.slice Ao8 x483000_1.length co8, .slice Ao9 x483001_1.length co9, u483002] 38 (0, 0)) z38_ hb)
       have n7_ := Aside0.mk (below_step z4_ hb)
       clear HO_483001
       clear HO_483002
       clear HO485
       clear HO488
       clear BK481
       clear BK482
       clear HB
       have HO_483001 := n0_
       have HO_483002 := n1_
       have HO485 := n2_
       have HO488 := n3_
       have HO491 := n4_
       have BK481 := n5_
       have BK482 := n6_
       have HB := n7_
       clear n0_ n1_ n2_ n3_ n4_ n5_ n6_ n7_
       clear hb ho16
       refine hK.out _ _ ⟨(blk_cell BK482.out 0).trans rfl, (blk_cell BK482.out 1).trans rfl, (blk_cell BK482.out 2).trans rfl⟩ (fun hHeld => ?_)
       clear hK K
       refine zn_ rfl ?_
       exact norm_ z234_ (hCont (.slice Ao14 y483.length co14, v487, v490) _ ⟨hHeld, (by (with_reducible repeat (first | apply Kd.R_alloc | apply Kd.R_drewN | apply Kd.R_drew)); exact Kd.R_mono HO485.out (fun _ hk => ⟨hk.1.2, ⟨hk.2, ⟨hk.1.1.1, hk.1.1.2⟩⟩⟩)), (by (with_reducible repeat (first | apply Kd.R_alloc | apply Kd.R_drewN | apply Kd.R_drew)); exact Kd.R_mono HO488.out (fun _ hk => ⟨hk.1.2.2, ⟨hk.2, ⟨hk.1.1, hk.1.2.1⟩⟩⟩)), (by (with_reducible repeat (first | apply Kd.R_alloc | apply Kd.R_drewN | apply Kd.R_drew)); exact Kd.R_mono HO491.out (fun _ hk => ⟨hk.1.2, ⟨hk.2, ⟨hk.1.1.1.2, hk.1.1.2⟩⟩⟩)), (by (with_reducible repeat (first | apply Kd.R_alloc | apply Kd.R_drewN | apply Kd.R_drew)); exact Kd.R_mono HO_483001.out (fun _ hk => ⟨hk.1.1.2, ⟨hk.1.2, ⟨hk.2, hk.1.1.1⟩⟩⟩)), (by (with_reducible repeat (first | apply Kd.R_alloc | apply Kd.R_drewN | apply Kd.R_drew)); exact Kd.R_mono HO_483002.out (fun _ hk => ⟨hk.1.1.2, ⟨hk.1.2, ⟨hk.2, hk.1.1.1⟩⟩⟩)), z31_, z38_, z4_⟩)
      ·skip
       refine Kd.R_lit_step (Kd.int .i64) _ 3 ?hg (N := 15) ?hd (xs := ([1] : List Int)) (inner := [.int .i64 1]) (ok := fun _ => True) (okp := fun _ => True) ?hr ?hp (fun _ hk => hk) trivial (Below.refl _ _) (Nat.le_refl _) (by simp) ?_; (case hd => rfl); (case hg => rfl); (case hr => exact z14_); (case hp => exact z143_)
       intro v490 w13 ho14 hb hg_ hnew_
       clear hg_ hnew_
       (first | rw [← Ny489.out] at ho14 | (simp only [Int.reduceToNat] at ho14; rw [← Ny489.out] at ho14))
       have n0_ := Aside0.mk (Kd.R_elder' z49_ (Kd.R_base ho14) hb)
       have n1_ := Aside0.mk (Kd.R_elder' z35_ (Kd.R_base ho14) hb)
       have n2_ := Aside0.mk (Kd.R_elder' z36_ (Kd.R_base ho14) hb)
       have n3_ := Aside0.mk (Kd.R_elder' z90_ (Kd.R_base ho14) hb)
       have n4_ := Aside0.mk (Kd.R_lower (Kd.R_new' (Kd.R_new' (Kd.R_new' (Kd.R_new' ho14 (Kd.R_lt z49_)) (Kd.R_lt z35_)) (Kd.R_lt z36_)) (Kd.R_lt z90_)) (below_size z4_))
       have n5_ := Aside0.mk (blk_below (g := gb481) (o := .cells #[.slice none 0 0, .slice none 0 0, .slice none 0 0] 38 (0, 0)) z31_ hb)
       have n6_ := Aside0.mk (blk_below (g := gb482) (o := .cells #[.slice Ao8 x483000_1.length co8, .slice Ao9 x483001_1.length co9, u483002] 38 (0, 0)) z38_ hb)
       have n7_ := Aside0.mk (below_step z4_ hb)
       clear HO_483000
       clear HO_483001
       clear HO_483002
       clear HO485
       clear BK481
       clear BK482
       clear HB
       have HO_483000 := n0_
       have HO_483001 := n1_
       have HO_483002 := n2_
       have HO485 := n3_
       have HO491 := n4_
       have BK481 := n5_
       have BK482 := n6_
       have HB := n7_
       clear n0_ n1_ n2_ n3_ n4_ n5_ n6_ n7_
       clear hb ho14
       obtain ⟨Ao16, co16, eo16⟩ := Kd.R_slice HO485.out
       (first | subst eo16 | (injection eo16 with f1_ f2_ f3_; have f4_ := f1_.symm; have f5_ := f3_.symm; clear f1_ f2_ f3_; subst f4_; subst f5_))
       refine hK.out _ _ ⟨(blk_cell BK482.out 0).trans rfl, (blk_cell BK482.out 1).trans rfl, (blk_cell BK482.out 2).trans rfl⟩ (fun hHeld => ?_)
       clear hK K
       refine zn_ rfl ?_
       refine one_ (i := 3) (N := some 12) (fl_ 12 7) rfl rfl (one_of HT_.out (by kernel_rfl)) (by decide) (fun K hK => ?_)
       refine Kd.R_append_rows_step (Kd.int .i64) (w0 := w) w.heap.size (by rfl) (.tmp 10) (.tmp 11) 30 3 (.int .i64 0) 8 rfl Try.underlying30 info3 rfl (by decide) (by omega) (.slice Ao8 x483000_1.length co8) x483000_1 y483 _ _ _ (fun k_ => some k_ ≠ (.slice Ao9 x483001_1.length co9 : Value).ownBlock ∧ some k_ ≠ (u483002 : Value).ownBlock ∧ some k_ ≠ (.slice Ao16 y483.length co16 : Value).ownBlock ∧ some k_ ≠ (v490 : Value).ownBlock) (fun _ => False) rfl rfl ?aO ?aR (fun _ _ h => h) (fun _ h => h.elim) ?aF ?aB ?aS ?aL ?_
       (case aR => exact z146_)
       (case aB => exact z75_)
       (case aF => exact (fun k_ hk => ⟨Kd.fresh' (Kd.R_lt z35_) k_ hk, Kd.fresh' (Kd.R_lt z36_) k_ hk, Kd.fresh' (Kd.R_lt z90_) k_ hk, Kd.fresh' (Kd.R_lt z145_) k_ hk⟩))
       (case aO => exact z189_)
       (case aS => exact z71_)
       (case aL => have := LMc6.out; omega)
       intro v487 w15 ho hb hg hat
       rw [← Ny486.out] at ho
       have n0_ := Aside0.mk (Kd.R_after (ok := (fun k_ => some k_ ≠ (u483002 : Value).ownBlock ∧ some k_ ≠ (.slice Ao16 y483.length co16 : Value).ownBlock ∧ some k_ ≠ (v490 : Value).ownBlock)) z203_ hg hat)
       have n1_ := Aside0.mk (Kd.R_after (ok := (fun k_ => some k_ ≠ (.slice Ao9 x483001_1.length co9 : Value).ownBlock ∧ some k_ ≠ (.slice Ao16 y483.length co16 : Value).ownBlock ∧ some k_ ≠ (v490 : Value).ownBlock)) z204_ hg hat)
       have n2_ := Aside0.mk (blk_grown (g := gb481) (o := .cells #[.slice none 0 0, .slice none 0 0, .slice none 0 0] 38 (0, 0)) z31_ hg (Kd.R_ne HO_483000.out BK481.out (by decide)))
       have n3_ := Aside0.mk (blk_grown (g := gb482) (o := .cells #[.slice Ao8 x483000_1.length co8, .slice Ao9 x483001_1.length co9, u483002] 38 (0, 0)) z38_ hg (Kd.R_ne HO_483000.out BK482.out (by decide)))
       have n4_ := Aside0.mk (Kd.R_after (ok := (fun k_ => some k_ ≠ (.slice Ao9 x483001_1.length co9 : Value).ownBlock ∧ some k_ ≠ (u483002 : Value).ownBlock ∧ some k_ ≠ (v490 : Value).ownBlock)) z206_ hg hat)
       have n5_ := Aside0.mk (Kd.R_after (ok := (fun k_ => some k_ ≠ (.slice Ao9 x483001_1.length co9 : Value).ownBlock ∧ some k_ ≠ (u483002 : Value).ownBlock ∧ some k_ ≠ (.slice Ao16 y483.length co16 : Value).ownBlock)) z207_ hg hat)
       have n6_ := Aside0.mk (hb)
       have n7_ := Aside0.mk (ho)
       clear HO_483001
       clear HO_483002
       clear BK481
       clear BK482
       clear HO485
       clear HO491
       clear HB
       clear HO_483000
       have HO_483001 := n0_
       have HO_483002 := n1_
       have BK481 := n2_
       have BK482 := n3_
       have HO485 := n4_
       have HO491 := n5_
       have HB := n6_
       have HO488 := n7_
       clear n0_ n1_ n2_ n3_ n4_ n5_ n6_ n7_
       clear ho hb hg hat
       refine hK.out _ _ ⟨(blk_cell BK482.out 0).trans rfl, (blk_cell BK482.out 1).trans rfl, (blk_cell BK482.out 2).trans rfl⟩ (fun hHeld => ?_)
       clear hK K
       refine zn_ rfl ?_
       refine zpg_ (i := 8) (ra_ [7, 1, 1, 3]) HT_ rfl rfl (by kernel_rfl) (fun _ _ _ h => h) (by rfl) ?_
       exact norm_ z234_ (hCont (.slice Ao16 y483.length co16, v487, v490) _ ⟨hHeld, z213_, (by (with_reducible repeat (first | apply Kd.R_alloc | apply Kd.R_drewN | apply Kd.R_drew)); exact Kd.R_mono HO488.out (fun _ hk => ⟨hk.2.2.1, ⟨hk.2.2.2, ⟨hk.1, hk.2.1⟩⟩⟩)), z214_, (by (with_reducible repeat (first | apply Kd.R_alloc | apply Kd.R_drewN | apply Kd.R_drew)); exact Kd.R_mono HO_483001.out (fun _ hk => ⟨hk.1.2.1, ⟨hk.2, ⟨hk.1.2.2, hk.1.1⟩⟩⟩)), (by (with_reducible repeat (first | apply Kd.R_alloc | apply Kd.R_drewN | apply Kd.R_drew)); exact Kd.R_mono HO_483002.out (fun _ hk => ⟨hk.1.2.1, ⟨hk.2, ⟨hk.1.2.2, hk.1.1⟩⟩⟩)), z31_, z38_, z4_⟩)
     ·skip
      refine Kd.R_lit_step (Kd.int .i64) _ 3 ?hg (N := 15) ?hd (xs := ([1] : List Int)) (inner := [.int .i64 1]) (ok := fun _ => True) (okp := fun _ => True) ?hr ?hp (fun _ hk => hk) trivial (Below.refl _ _) (Nat.le_refl _) (by simp) ?_; (case hd => rfl); (case hg => rfl); (case hr => exact z14_); (case hp => exact z143_)
      intro v490 w11 ho12 hb hg_ hnew_
      clear hg_ hnew_
      (first | rw [← Ny489.out] at ho12 | (simp only [Int.reduceToNat] at ho12; rw [← Ny489.out] at ho12))
      have n0_ := Aside0.mk (Kd.R_elder' z49_ (Kd.R_base ho12) hb)
      have n1_ := Aside0.mk (Kd.R_elder' z35_ (Kd.R_base ho12) hb)
      have n2_ := Aside0.mk (Kd.R_elder' z36_ (Kd.R_base ho12) hb)
      have n3_ := Aside0.mk (Kd.R_lower (Kd.R_new' (Kd.R_new' (Kd.R_new' ho12 (Kd.R_lt z49_)) (Kd.R_lt z35_)) (Kd.R_lt z36_)) (below_size z4_))
      have n4_ := Aside0.mk (blk_below (g := gb481) (o := .cells #[.slice none 0 0, .slice none 0 0, .slice none 0 0] 38 (0, 0)) z31_ hb)
      have n5_ := Aside0.mk (blk_below (g := gb482) (o := .cells #[.slice Ao8 x483000_1.length co8, .slice Ao9 x483001_1.length co9, u483002] 38 (0, 0)) z38_ hb)
      have n6_ := Aside0.mk (below_step z4_ hb)
      clear HO_483000
      clear HO_483001
      clear HO_483002
      clear BK481
      clear BK482
      clear HB
      have HO_483000 := n0_
      have HO_483001 := n1_
      have HO_483002 := n2_
      have HO491 := n3_
      have BK481 := n4_
      have BK482 := n5_
      have HB := n6_
      clear n0_ n1_ n2_ n3_ n4_ n5_ n6_
      clear hb ho12
      refine hK.out _ _ ⟨(blk_cell BK482.out 0).trans rfl, (blk_cell BK482.out 1).trans rfl, (blk_cell BK482.out 2).trans rfl⟩ (fun hHeld => ?_)
      clear hK K
      refine zn_ rfl ?_
      refine one_ (i := 2) (N := some 11) (ra_ [3, 1, 3, 5]) rfl rfl (one_of HT_.out (by kernel_rfl)) (by decide) (fun K hK => ?_)
      refine Kd.R_lit_step (Kd.int .i64) _ 3 ?hg (N := 11) ?hd (xs := ([1] : List Int)) (inner := [.int .i64 1]) (ok := fun _ => True) (okp := fun _ => True) ?hr ?hp (fun _ hk => hk) trivial (Below.refl _ _) (Nat.le_refl _) (by simp) ?_; (case hd => rfl); (case hg => rfl); (case hr => exact z14_); (case hp => exact z143_)
      intro v484 w13 ho14 hb hg_ hnew_
      clear hg_ hnew_
      (first | rw [← Ny483.out] at ho14 | (simp only [Int.reduceToNat] at ho14; rw [← Ny483.out] at ho14))
      have n0_ := Aside0.mk (Kd.R_elder' z49_ (Kd.R_base ho14) hb)
      have n1_ := Aside0.mk (Kd.R_elder' z35_ (Kd.R_base ho14) hb)
      have n2_ := Aside0.mk (Kd.R_elder' z36_ (Kd.R_base ho14) hb)
      have n3_ := Aside0.mk (Kd.R_elder' z145_ (Kd.R_base ho14) hb)
      have n4_ := Aside0.mk (Kd.R_lower (Kd.R_new' (Kd.R_new' (Kd.R_new' (Kd.R_new' ho14 (Kd.R_lt z49_)) (Kd.R_lt z35_)) (Kd.R_lt z36_)) (Kd.R_lt z145_)) (below_size z4_))
      have n5_ := Aside0.mk (blk_below (g := gb481) (o := .cells #[.slice none 0 0, .slice none 0 0, .slice none 0 0] 38 (0, 0)) z31_ hb)
      have n6_ := Aside0.mk (blk_below (g := gb482) (o := .cells #[.slice Ao8 x483000_1.length co8, .slice Ao9 x483001_1.length co9, u483002] 38 (0, 0)) z38_ hb)
      have n7_ := Aside0.mk (below_step z4_ hb)
      clear HO_483000
      clear HO_483001
      clear HO_483002
      clear HO491
      clear BK481
      clear BK482
      clear HB
      have HO_483000 := n0_
      have HO_483001 := n1_
      have HO_483002 := n2_
      have HO491 := n3_
      have HO485 := n4_
      have BK481 := n5_
      have BK482 := n6_
      have HB := n7_
      clear n0_ n1_ n2_ n3_ n4_ n5_ n6_ n7_
      clear hb ho14
      obtain ⟨Ao16, co16, eo16⟩ := Kd.R_slice HO485.out
      (first | subst eo16 | (injection eo16 with f1_ f2_ f3_; have f4_ := f1_.symm; have f5_ := f3_.symm; clear f1_ f2_ f3_; subst f4_; subst f5_))
      refine hK.out _ _ ⟨(blk_cell BK482.out 0).trans rfl, (blk_cell BK482.out 1).trans rfl, (blk_cell BK482.out 2).trans rfl⟩ (fun hHeld => ?_)
      clear hK K
      refine zn_ rfl ?_
      refine one_ (i := 3) (N := some 12) (fl_ 12 7) rfl rfl (one_of HT_.out (by kernel_rfl)) (by decide) (fun K hK => ?_)
      refine Kd.R_append_rows_step (Kd.int .i64) (w0 := w) w.heap.size (by rfl) (.tmp 10) (.tmp 11) 30 3 (.int .i64 0) 8 rfl Try.underlying30 info3 rfl (by decide) (by omega) (.slice Ao8 x483000_1.length co8) x483000_1 y483 _ _ _ (fun k_ => some k_ ≠ (.slice Ao9 x483001_1.length co9 : Value).ownBlock ∧ some k_ ≠ (u483002 : Value).ownBlock ∧ some k_ ≠ (v490 : Value).ownBlock ∧ some k_ ≠ (.slice Ao16 y483.length co16 : Value).ownBlock) (fun _ => False) rfl rfl ?aO ?aR (fun _ _ h => h) (fun _ h => h.elim) ?aF ?aB ?aS ?aL ?_
      (case aR => exact z146_)
      (case aB => exact z75_)
      (case aF => exact (fun k_ hk => ⟨Kd.fresh' (Kd.R_lt z35_) k_ hk, Kd.fresh' (Kd.R_lt z36_) k_ hk, Kd.fresh' (Kd.R_lt z145_) k_ hk, Kd.fresh' (Kd.R_lt z90_) k_ hk⟩))
      (case aO => exact z189_)
      (case aS => exact z71_)
      (case aL => have := LMc6.out; omega)
      intro v487 w15 ho hb hg hat
      rw [← Ny486.out] at ho
      have n0_ := Aside0.mk (Kd.R_after (ok := (fun k_ => some k_ ≠ (u483002 : Value).ownBlock ∧ some k_ ≠ (v490 : Value).ownBlock ∧ some k_ ≠ (.slice Ao16 y483.length co16 : Value).ownBlock)) z203_ hg hat)
      have n1_ := Aside0.mk (Kd.R_after (ok := (fun k_ => some k_ ≠ (.slice Ao9 x483001_1.length co9 : Value).ownBlock ∧ some k_ ≠ (v490 : Value).ownBlock ∧ some k_ ≠ (.slice Ao16 y483.length co16 : Value).ownBlock)) z204_ hg hat)
      have n2_ := Aside0.mk (blk_grown (g := gb481) (o := .cells #[.slice none 0 0, .slice none 0 0, .slice none 0 0] 38 (0, 0)) z31_ hg (Kd.R_ne HO_483000.out BK481.out (by decide)))
      have n3_ := Aside0.mk (blk_grown (g := gb482) (o := .cells #[.slice Ao8 x483000_1.length co8, .slice Ao9 x483001_1.length co9, u483002] 38 (0, 0)) z38_ hg (Kd.R_ne HO_483000.out BK482.out (by decide)))
      have n4_ := Aside0.mk (Kd.R_after (ok := (fun k_ => some k_ ≠ (.slice Ao9 x483001_1.length co9 : Value).ownBlock ∧ some k_ ≠ (u483002 : Value).ownBlock ∧ some k_ ≠ (.slice Ao16 y483.length co16 : Value).ownBlock)) z207_ hg hat)
      have n5_ := Aside0.mk (Kd.R_after (ok := (fun k_ => some k_ ≠ (.slice Ao9 x483001_1.length co9 : Value).ownBlock ∧ some k_ ≠ (u483002 : Value).ownBlock ∧ some k_ ≠ (v490 : Value).ownBlock)) z206_ hg hat)
      have n6_ := Aside0.mk (hb)
      have n7_ := Aside0.mk (ho)
      clear HO_483001
      clear HO_483002
      clear BK481
      clear BK482
      clear HO491
      clear HO485
      clear HB
      clear HO_483000
      have HO_483001 := n0_
      have HO_483002 := n1_
      have BK481 := n2_
      have BK482 := n3_
      have HO491 := n4_
      have HO485 := n5_
      have HB := n6_
      have HO488 := n7_
      clear n0_ n1_ n2_ n3_ n4_ n5_ n6_ n7_
      clear ho hb hg hat
      refine hK.out _ _ ⟨(blk_cell BK482.out 0).trans rfl, (blk_cell BK482.out 1).trans rfl, (blk_cell BK482.out 2).trans rfl⟩ (fun hHeld => ?_)
      clear hK K
      refine zn_ rfl ?_
      refine zpg_ (i := 8) (ra_ [7, 1, 1, 3]) HT_ rfl rfl (by kernel_rfl) (fun _ _ _ h => h) (by rfl) ?_
      exact norm_ z234_ (hCont (.slice Ao16 y483.length co16, v487, v490) _ ⟨hHeld, z213_, (by (with_reducible repeat (first | apply Kd.R_alloc | apply Kd.R_drewN | apply Kd.R_drew)); exact Kd.R_mono HO488.out (fun _ hk => ⟨hk.2.2.2, ⟨hk.2.2.1, ⟨hk.1, hk.2.1⟩⟩⟩)), z214_, (by (with_reducible repeat (first | apply Kd.R_alloc | apply Kd.R_drewN | apply Kd.R_drew)); exact Kd.R_mono HO_483001.out (fun _ hk => ⟨hk.1.2.2, ⟨hk.2, ⟨hk.1.2.1, hk.1.1⟩⟩⟩)), (by (with_reducible repeat (first | apply Kd.R_alloc | apply Kd.R_drewN | apply Kd.R_drew)); exact Kd.R_mono HO_483002.out (fun _ hk => ⟨hk.1.2.2, ⟨hk.2, ⟨hk.1.2.1, hk.1.1⟩⟩⟩)), z31_, z38_, z4_⟩)
    rintro ⟨v484, v487, v490⟩ w17 ⟨hS_, h0_, h1_, h2_, h3_, h4_, h5_, h6_, h7_⟩
    have n0_ : Aside0 (Kd.R (Kd.int .i64) 3 w17 w.heap.size (fun k_ => some k_ ≠ (v487 : Value).ownBlock ∧ some k_ ≠ (v490 : Value).ownBlock ∧ some k_ ≠ (.slice Ao9 x483001_1.length co9 : Value).ownBlock ∧ some k_ ≠ (u483002 : Value).ownBlock) v484 y483) := ⟨h0_⟩
    have n1_ : Aside0 (Kd.R (Kd.int .i64) 3 w17 w.heap.size (fun k_ => some k_ ≠ (v484 : Value).ownBlock ∧ some k_ ≠ (v490 : Value).ownBlock ∧ some k_ ≠ (.slice Ao9 x483001_1.length co9 : Value).ownBlock ∧ some k_ ≠ (u483002 : Value).ownBlock) v487 y486) := ⟨h1_⟩
    have n2_ : Aside0 (Kd.R (Kd.int .i64) 3 w17 w.heap.size (fun k_ => some k_ ≠ (v484 : Value).ownBlock ∧ some k_ ≠ (v487 : Value).ownBlock ∧ some k_ ≠ (.slice Ao9 x483001_1.length co9 : Value).ownBlock ∧ some k_ ≠ (u483002 : Value).ownBlock) v490 y489) := ⟨h2_⟩
    have n3_ : Aside0 (Kd.R (Kd.int .i64) 3 w17 w.heap.size (fun k_ => some k_ ≠ (v484 : Value).ownBlock ∧ some k_ ≠ (v487 : Value).ownBlock ∧ some k_ ≠ (v490 : Value).ownBlock ∧ some k_ ≠ (u483002 : Value).ownBlock) (.slice Ao9 x483001_1.length co9) x483001_1) := ⟨h3_⟩
    have n4_ : Aside0 (Kd.R (Kd.int .i64) 3 w17 w.heap.size (fun k_ => some k_ ≠ (v484 : Value).ownBlock ∧ some k_ ≠ (v487 : Value).ownBlock ∧ some k_ ≠ (v490 : Value).ownBlock ∧ some k_ ≠ (.slice Ao9 x483001_1.length co9 : Value).ownBlock) u483002 x483002_1) := ⟨h4_⟩
    have n5_ : Aside0 (w17.heap[gb481]? = some (.cells #[.slice none 0 0, .slice none 0 0, .slice none 0 0] 38 (0, 0))) := ⟨h5_⟩
    have n6_ : Aside0 (w17.heap[gb482]? = some (.cells #[.slice Ao8 x483000_1.length co8, .slice Ao9 x483001_1.length co9, u483002] 38 (0, 0))) := ⟨h6_⟩
    have n7_ : Aside0 (Below w.heap.size w w17) := ⟨h7_⟩
    clear HO_483000
    clear HO_483001
    clear HO_483002
    clear BK481
    clear BK482
    clear HB
    clear h0_ h1_ h2_ h3_ h4_ h5_ h6_ h7_
    have HO485 := n0_
    have HO488 := n1_
    have HO491 := n2_
    have HO_483001 := n3_
    have HO_483002 := n4_
    have BK481 := n5_
    have BK482 := n6_
    have HB := n7_
    clear n0_ n1_ n2_ n3_ n4_ n5_ n6_ n7_
    have hHeld : w17.cell? ⟨gb482, 0, none⟩ = some (.slice Ao8 x483000_1.length co8) ∧ w17.cell? ⟨gb482, 1, none⟩ = some (.slice Ao9 x483001_1.length co9) ∧ w17.cell? ⟨gb482, 2, none⟩ = some (u483002) := hS_
    obtain ⟨Ao19, co19, eo19⟩ := Kd.R_slice HO491.out
    (first | subst eo19 | (injection eo19 with f1_ f2_ f3_; have f4_ := f1_.symm; have f5_ := f3_.symm; clear f1_ f2_ f3_; subst f4_; subst f5_))
    refine norm_ (a' := ?_) ?_ ?_
    rotate_left
    ·simp only [putAll, Act.put, List.setIfInBounds_toArray, List.set_cons_zero, List.set_cons_succ]
     rfl
    refine one_ (i := 7) (N := some 16) (fl_ 12 9) rfl rfl (one_of HT_.out (by kernel_rfl)) (by decide) (fun K hK => ?_)
    refine Kd.R_append_rows_step (Kd.int .i64) (w0 := w) w.heap.size (by rfl) (.tmp 14) (.tmp 15) 30 3 (.int .i64 0) 8 rfl Try.underlying30 info3 rfl (by decide) (by omega) (.slice Ao9 x483001_1.length co9) x483001_1 y489 _ _ _ (fun k_ => some k_ ≠ (u483002 : Value).ownBlock ∧ some k_ ≠ (v484 : Value).ownBlock ∧ some k_ ≠ (v487 : Value).ownBlock ∧ some k_ ≠ (.slice Ao19 y489.length co19 : Value).ownBlock) (fun _ => False) rfl rfl ?aO ?aR (fun _ _ h => h) (fun _ h => h.elim) ?aF ?aB ?aS ?aL ?_
    (case aR => repeat (first | exact (Kd.R_reads' HO491.out).2.2 | (with_reducible refine Kd.C_alloc ?_ _) | (with_reducible refine Kd.C_drewN ?_ _) | (with_reducible refine Kd.C_drew ?_)))
    (case aB => exact z75_)
    (case aF => exact (fun k_ hk => ⟨Kd.fresh' (Kd.R_lt z36_) k_ hk, Kd.fresh' (Kd.R_lt z90_) k_ hk, Kd.fresh' (Kd.R_lt z226_) k_ hk, Kd.fresh' (Kd.R_lt z145_) k_ hk⟩))
    (case aO => exact (by (with_reducible repeat (first | apply Kd.R_alloc | apply Kd.R_drewN | apply Kd.R_drew)); exact Kd.R_mono HO_483001.out (fun _ hk => ⟨hk.2.2.2, ⟨hk.1, ⟨hk.2.1, hk.2.2.1⟩⟩⟩)))
    (case aS => exact z71_)
    (case aL => have := LMc7.out; omega)
    intro v493 w18 ho hb hg hat
    rw [← Ny492.out] at ho
    have n0_ := Aside0.mk (Kd.R_after (ok := (fun k_ => some k_ ≠ (v484 : Value).ownBlock ∧ some k_ ≠ (v487 : Value).ownBlock ∧ some k_ ≠ (.slice Ao19 y489.length co19 : Value).ownBlock)) (by (with_reducible repeat (first | apply Kd.R_alloc | apply Kd.R_drewN | apply Kd.R_drew)); exact Kd.R_mono HO_483002.out (fun _ hk => ⟨⟨hk.1, ⟨hk.2.1, hk.2.2.1⟩⟩, hk.2.2.2⟩)) hg hat)
    have n1_ := Aside0.mk (blk_grown (g := gb481) (o := .cells #[.slice none 0 0, .slice none 0 0, .slice none 0 0] 38 (0, 0)) z31_ hg (Kd.R_ne HO_483001.out BK481.out (by decide)))
    have n2_ := Aside0.mk (blk_grown (g := gb482) (o := .cells #[.slice Ao8 x483000_1.length co8, .slice Ao9 x483001_1.length co9, u483002] 38 (0, 0)) z38_ hg (Kd.R_ne HO_483001.out BK482.out (by decide)))
    have n3_ := Aside0.mk (Kd.R_after (ok := (fun k_ => some k_ ≠ (u483002 : Value).ownBlock ∧ some k_ ≠ (v487 : Value).ownBlock ∧ some k_ ≠ (.slice Ao19 y489.length co19 : Value).ownBlock)) (by (with_reducible repeat (first | apply Kd.R_alloc | apply Kd.R_drewN | apply Kd.R_drew)); exact Kd.R_mono HO485.out (fun _ hk => ⟨⟨hk.2.2.2, ⟨hk.1, hk.2.1⟩⟩, hk.2.2.1⟩)) hg hat)
    have n4_ := Aside0.mk (Kd.R_after (ok := (fun k_ => some k_ ≠ (u483002 : Value).ownBlock ∧ some k_ ≠ (v484 : Value).ownBlock ∧ some k_ ≠ (.slice Ao19 y489.length co19 : Value).ownBlock)) (by (with_reducible repeat (first | apply Kd.R_alloc | apply Kd.R_drewN | apply Kd.R_drew)); exact Kd.R_mono HO488.out (fun _ hk => ⟨⟨hk.2.2.2, ⟨hk.1, hk.2.1⟩⟩, hk.2.2.1⟩)) hg hat)
    have n5_ := Aside0.mk (Kd.R_after (ok := (fun k_ => some k_ ≠ (u483002 : Value).ownBlock ∧ some k_ ≠ (v484 : Value).ownBlock ∧ some k_ ≠ (v487 : Value).ownBlock)) (by (with_reducible repeat (first | apply Kd.R_alloc | apply Kd.R_drewN | apply Kd.R_drew)); exact Kd.R_mono HO491.out (fun _ hk => ⟨⟨hk.2.2.2, ⟨hk.1, hk.2.1⟩⟩, hk.2.2.1⟩)) hg hat)
    have n6_ := Aside0.mk (hb)
    have n7_ := Aside0.mk (ho)
    clear HO_483002
    clear BK481
    clear BK482
    clear HO485
    clear HO488
    clear HO491
    clear HB
    clear HO_483001
    have HO_483002 := n0_
    have BK481 := n1_
    have BK482 := n2_
    have HO485 := n3_
    have HO488 := n4_
    have HO491 := n5_
    have HB := n6_
    have HO494 := n7_
    clear n0_ n1_ n2_ n3_ n4_ n5_ n6_ n7_
    clear ho hb hg hat
    obtain ⟨Ao20, co20, eo20⟩ := Kd.R_slice HO488.out
    (first | subst eo20 | (injection eo20 with f1_ f2_ f3_; have f4_ := f1_.symm; have f5_ := f3_.symm; clear f1_ f2_ f3_; subst f4_; subst f5_))
    obtain ⟨Ao22, co22, eo22⟩ := Kd.R_slice HO494.out
    (first | subst eo22 | (injection eo22 with f1_ f2_ f3_; have f4_ := f1_.symm; have f5_ := f3_.symm; clear f1_ f2_ f3_; subst f4_; subst f5_))
    refine hK.out _ _ ⟨(blk_cell BK482.out 0).trans rfl, (blk_cell BK482.out 1).trans rfl, (blk_cell BK482.out 2).trans rfl⟩ (fun hHeld => ?_)
    clear hK K
    refine zn_ rfl ?_
    refine last_ (i := 9) (N := none) (fl_ 12 10) rfl rfl (one_of HT_.out (by kernel_rfl)) (by decide) (fun K hK => ?_)
    have hs21 : w18.cell? ⟨gb482, 0, none⟩ = some (.slice Ao8 x483000_1.length co8) := (blk_cell BK482.out 0).trans rfl
    have hfs21 := blk_frozen BK482.out 0
    have hns21_0 := NB481_482.out
    have hms21_0 := NB482_481.out
    refine skip_ (w1 := ?_) (by rfl) rfl ?_ ?_
    rotate_left
    ·go_simp
     rfl
    refine hK.out _ _ ?_
    clear hK K
    refine zpg_ (i := 10) (fl_ 12 11) HT_ rfl rfl (by kernel_rfl) (fun _ _ _ h => h) (by rfl) ?_
    refine last_ (i := 11) (N := none) (fl_ 12 12) rfl rfl (one_of HT_.out (by kernel_rfl)) (by decide) (fun K hK => ?_)
    have hs23 : w18.cell? ⟨gb482, 1, none⟩ = some (.slice Ao9 x483001_1.length co9) := (blk_cell BK482.out 1).trans rfl
    have hfs23 := blk_frozen BK482.out 1
    have hns23_0 := NB481_482.out
    have hms23_0 := NB482_481.out
    refine skip_ (w1 := ?_) (by rfl) rfl ?_ ?_
    rotate_left
    ·go_simp
     rfl
    refine hK.out _ _ ?_
    clear hK K
    refine done_ (done_of HT_.out (by kernel_rfl)) ?_
    try go_wp2
    go_loopg [19] k1 (fun kq v19 w' => ∃ (x19_2 : Int) (x483002_2 : List Int) (u483002 : Value), v19 = .int .i64 x19_2 ∧ Aside0 (impl_UnitCost.l1 kq x6_1 x6_1 x19_2 y486 y492 x483002_2 = some (r1, r2, r3)) ∧ Aside0 (kq ≤ k1) ∧ Aside0 (Kd.R (Kd.int .i64) 3 w' w.heap.size (fun k_ => some k_ ≠ ((.slice Ao22 y492.length co22) : Value).ownBlock ∧ some k_ ≠ (u483002 : Value).ownBlock) (.slice Ao20 y486.length co20) y486) ∧ Aside0 (Kd.R (Kd.int .i64) 3 w' w.heap.size (fun k_ => some k_ ≠ ((.slice Ao20 y486.length co20) : Value).ownBlock ∧ some k_ ≠ (u483002 : Value).ownBlock) (.slice Ao22 y492.length co22) y492) ∧ Aside0 (Kd.R (Kd.int .i64) 3 w' w.heap.size (fun k_ => some k_ ≠ ((.slice Ao20 y486.length co20) : Value).ownBlock ∧ some k_ ≠ ((.slice Ao22 y492.length co22) : Value).ownBlock) u483002 x483002_2) ∧ Aside0 (w'.heap[gb481]? = some (.cells #[(.slice none 0 0), (.slice none 0 0), (.slice none 0 0)] 38 (0, 0))) ∧ Aside0 (w'.heap[gb482]? = some (.cells #[(.slice Ao20 y486.length co20), (.slice Ao22 y492.length co22), u483002] 38 (0, 0))) ∧ Aside0 (Below w.heap.size w w'))
    case atStart => exact ⟨(0), (x483002_1), (u483002), z7_, H', ⟨Nat.le_refl _⟩, ⟨by (with_reducible repeat (first | apply Kd.R_alloc | apply Kd.R_drewN | apply Kd.R_drew)); exact Kd.R_mono (Kd.R_far (p := ⟨gb482, 1, none⟩) (Kd.R_far (p := ⟨gb482, 0, none⟩) (Kd.R_types HO488.out BK482.out (by decide)) (fun _ hk => hk.2) (.slice Ao20 y486.length co20)) (fun _ hk => hk.2) (.slice Ao22 y492.length co22)) (fun _ hk => ⟨hk.1.2, hk.1.1.1⟩)⟩, ⟨by (with_reducible repeat (first | apply Kd.R_alloc | apply Kd.R_drewN | apply Kd.R_drew)); exact Kd.R_mono (Kd.R_far (p := ⟨gb482, 1, none⟩) (Kd.R_far (p := ⟨gb482, 0, none⟩) (Kd.R_types HO494.out BK482.out (by decide)) (fun _ hk => hk.2) (.slice Ao20 y486.length co20)) (fun _ hk => hk.2) (.slice Ao22 y492.length co22)) (fun _ hk => ⟨hk.1.2.2.1, hk.1.1⟩)⟩, ⟨by (with_reducible repeat (first | apply Kd.R_alloc | apply Kd.R_drewN | apply Kd.R_drew)); exact Kd.R_mono (Kd.R_far (p := ⟨gb482, 1, none⟩) (Kd.R_far (p := ⟨gb482, 0, none⟩) (Kd.R_types HO_483002.out BK482.out (by decide)) (fun _ hk => hk.2) (.slice Ao20 y486.length co20)) (fun _ hk => hk.2) (.slice Ao22 y492.length co22)) (fun _ hk => ⟨hk.1.1.2.1, hk.1.2⟩)⟩, ⟨by (with_reducible repeat (first | refine blk_drewN ?_ _ | refine blk_drew ?_ | refine blk_alloc ?_ _)); refine blk_far ?_ NB481_482.out _; (with_reducible repeat (first | refine blk_drewN ?_ _ | refine blk_drew ?_ | refine blk_alloc ?_ _)); refine blk_far ?_ NB481_482.out _; (with_reducible repeat (first | refine blk_drewN ?_ _ | refine blk_drew ?_ | refine blk_alloc ?_ _)); exact BK481.out⟩, ⟨by (with_reducible repeat (first | refine blk_drewN ?_ _ | refine blk_drew ?_ | refine blk_alloc ?_ _)); refine blk_put (cs := #[.slice Ao20 y486.length co20, .slice Ao9 x483001_1.length co9, u483002]) ?_ 1 _ rfl; (with_reducible repeat (first | refine blk_drewN ?_ _ | refine blk_drew ?_ | refine blk_alloc ?_ _)); refine blk_put (cs := #[.slice Ao8 x483000_1.length co8, .slice Ao9 x483001_1.length co9, u483002]) ?_ 0 _ rfl; (with_reducible repeat (first | refine blk_drewN ?_ _ | refine blk_drew ?_ | refine blk_alloc ?_ _)); exact BK482.out⟩, ⟨z4_⟩⟩
    case round =>
     clear H'
     try clear p2
     try clear c3
     try clear c4
     try clear c5
     try clear c5b0
     try clear c6
     try clear c7
     try clear hcz4_0
     try clear hcz4_1
     try clear hcz4_2
     try clear hfz4_0
     try clear hfz4_1
     try clear hfz4_2
     try clear p2
     obtain ⟨x19_2, x483002_2, u483002, rfl, HA, HK2, HO_483000, HO_483001, HO_483002, BK481, BK482, HB⟩ := hrel
     cases gk with
     | zero => exact absurd HA.out (by simp [impl_UnitCost.l1])
     | succ k2 =>
      have H := HA.out
      clear HA
      simp only [impl_UnitCost.l1] at H
      by_cases c24 : x19_2 < 6
      ·rw [if_pos c24] at H
       have c24b0 : decide (x19_2 < 6) = true := decide_eq_true c24
       clear c24
       by_cases c25 : x6_1 = x19_2
       ·rw [if_pos c25] at H
        have c25b0 : (x6_1 == x19_2) = true := beq_iff_eq.mpr c25
        have c25b1 : (x6_1 != x19_2) = false := bne_eq_false_iff_eq.mpr c25
        clear c25
        obtain ⟨y495, hy495⟩ : ∃ y_ : List Int, y_ = (([0] : List Int)) := ⟨_, rfl⟩
        replace H : (if x483002_2.length + y495.length < 17592186044416 then (impl_UnitCost.l1 k2 x6_1 x6_1 (wrap64 (x19_2 + 1)) y486 y492 (x483002_2 ++ y495)) else (none)) = some (r1, r2, r3) := by first | (rw [hy495]; with_reducible exact H) | (have H2_ := (Option.bind_some _ _).symm.trans H; rw [hy495]; with_reducible exact H2_) | (have H2_ := (Option.bind_some _ _).symm.trans H; with_reducible exact H2_) | with_reducible exact H | (rw [hy495]; exact H) | exact H
        have Ny495 := Aside0.mk hy495
        clear hy495
        obtain ⟨c26, H⟩ := ifs_ H
        have LMc26 := Aside0.mk c26
        clear c26
        obtain ⟨y498, hy498⟩ : ∃ y_ : List Int, y_ = (x483002_2 ++ y495) := ⟨_, rfl⟩
        replace H : (impl_UnitCost.l1 k2 x6_1 x6_1 (wrap64 (x19_2 + 1)) y486 y492 y498) = some (r1, r2, r3) := by first | (rw [hy498]; with_reducible exact H) | (have H2_ := (Option.bind_some _ _).symm.trans H; rw [hy498]; with_reducible exact H2_) | (have H2_ := (Option.bind_some _ _).symm.trans H; with_reducible exact H2_) | with_reducible exact H | (rw [hy498]; exact H) | exact H
        have Ny498 := Aside0.mk hy498
        clear hy498
        have H' := Aside0.mk H
        clear H
        have hnb27 := NB482_481.out
        have hnc27 := NB481_482.out
        have hcz28_0 : wr.cell? ⟨gb482, 0, none⟩ = some (.slice Ao20 y486.length co20) := (blk_cell BK482.out 0).trans rfl
        have hcz28_1 : wr.cell? ⟨gb482, 1, none⟩ = some (.slice Ao22 y492.length co22) := (blk_cell BK482.out 1).trans rfl
        have hcz28_2 : wr.cell? ⟨gb482, 2, none⟩ = some (u483002) := (blk_cell BK482.out 2).trans rfl
        have hfz28_0 := blk_frozen BK482.out 0
        have hfz28_1 := blk_frozen BK482.out 1
        have hfz28_2 := blk_frozen BK482.out 2
        go_wp2_with (first | ((with_reducible refine gate_dst (N := 28) rfl ?_); refine Kd.R_lit (Kd.int .i64) _ 3 ?hg (N := 28) ?hd (xs := ([0] : List Int)) (inner := [.int .i64 0]) (ok := fun _ => True) (okp := fun _ => True) ?hr ?hp (fun _ hk => hk) trivial (Below.refl _ _) (Nat.le_refl _) (by simp) ?_; (case hd => rfl); (case hg => rfl); (case hr => exact z14_); (case hp => exact (Reps.one (show Kd.M (Kd.int .i64) _ _ _ 0 [.int .i64 0] from rfl) (Reps.none _ _))); intro v496 w29 ho30 hb hg_ hnew_; clear hg_ hnew_; (first | rw [← Ny495.out] at ho30 | (simp only [Int.reduceToNat] at ho30; rw [← Ny495.out] at ho30)); have HO497 := Aside0.mk (Kd.R_lower (Kd.R_new' (Kd.R_new' (Kd.R_new' ho30 (Kd.R_lt z49_)) (Kd.R_lt z35_)) (Kd.R_lt z36_)) (below_size z4_)); replace HO_483000 := Aside0.mk (Kd.R_elder' z49_ (Kd.R_base ho30) hb); replace HO_483001 := Aside0.mk (Kd.R_elder' z35_ (Kd.R_base ho30) hb); replace HO_483002 := Aside0.mk (Kd.R_elder' z36_ (Kd.R_base ho30) hb); replace BK481 := Aside0.mk (blk_below (g := gb481) (o := .cells #[.slice none 0 0, .slice none 0 0, .slice none 0 0] 38 (0, 0)) z31_ hb); replace BK482 := Aside0.mk (blk_below (g := gb482) (o := .cells #[.slice Ao20 y486.length co20, .slice Ao22 y492.length co22, u483002] 38 (0, 0)) z38_ hb); replace HB := Aside0.mk (below_step z4_ hb); clear hb ho30; obtain ⟨Ao32, co32, eo32⟩ := Kd.R_slice HO497.out; subst eo32) | ((with_reducible refine gate_builtin (b := .append) (xs := #[.tmp 26, .tmp 28]) rfl ?_); at_builtin; refine Kd.R_append_rows (Kd.int .i64) (w0 := w) w.heap.size rfl (.tmp 26) (.tmp 28) 30 3 (.int .i64 0) 8 rfl Try.underlying30 info3 rfl (by decide) (by omega) u483002 x483002_2 y495 _ _ _ (fun k_ => some k_ ≠ (.slice Ao20 y486.length co20 : Value).ownBlock ∧ some k_ ≠ (.slice Ao22 y492.length co22 : Value).ownBlock ∧ some k_ ≠ (.slice Ao32 y495.length co32 : Value).ownBlock) (fun _ => False) rfl rfl ?aO ?aR (fun _ _ h => h) (fun _ h => h.elim) ?aF ?aB ?aS ?aL ?_; (case aR => repeat (first | exact (Kd.R_reads' HO497.out).2.2 | (with_reducible refine Kd.C_alloc ?_ _) | (with_reducible refine Kd.C_drewN ?_ _) | (with_reducible refine Kd.C_drew ?_))); (case aB => exact z75_); (case aF => exact (fun k_ hk => ⟨Kd.fresh' (Kd.R_lt z49_) k_ hk, Kd.fresh' (Kd.R_lt z35_) k_ hk, Kd.fresh' (Kd.R_lt (by (with_reducible repeat (first | apply Kd.R_alloc | apply Kd.R_drewN | apply Kd.R_drew)); exact HO497.out)) k_ hk⟩)); (case aO => exact z208_); (case aS => exact z71_); (case aL => have := LMc26.out; omega); intro v499 w31 ho hb hg hat; rw [← Ny498.out] at ho; replace HO_483000 := Aside0.mk (Kd.R_after (ok := (fun k_ => some k_ ≠ (.slice Ao22 y492.length co22 : Value).ownBlock ∧ some k_ ≠ (.slice Ao32 y495.length co32 : Value).ownBlock)) z221_ hg hat); replace HO_483001 := Aside0.mk (Kd.R_after (ok := (fun k_ => some k_ ≠ (.slice Ao20 y486.length co20 : Value).ownBlock ∧ some k_ ≠ (.slice Ao32 y495.length co32 : Value).ownBlock)) z222_ hg hat); replace BK481 := Aside0.mk (blk_grown (g := gb481) (o := .cells #[.slice none 0 0, .slice none 0 0, .slice none 0 0] 38 (0, 0)) z31_ hg (Kd.R_ne HO_483002.out BK481.out (by decide))); replace BK482 := Aside0.mk (blk_grown (g := gb482) (o := .cells #[.slice Ao20 y486.length co20, .slice Ao22 y492.length co22, u483002] 38 (0, 0)) z38_ hg (Kd.R_ne HO_483002.out BK482.out (by decide))); replace HO497 := Aside0.mk (Kd.R_after (ok := (fun k_ => some k_ ≠ (.slice Ao20 y486.length co20 : Value).ownBlock ∧ some k_ ≠ (.slice Ao22 y492.length co22 : Value).ownBlock)) (by (with_reducible repeat (first | apply Kd.R_alloc | apply Kd.R_drewN | apply Kd.R_drew)); exact Kd.R_mono HO497.out (fun _ hk => ⟨⟨hk.1.1.2, hk.1.2⟩, hk.2⟩)) hg hat); replace HB := Aside0.mk (hb); have HO500 := Aside0.mk (ho); clear HO_483002; clear ho hb hg hat; obtain ⟨Ao33, co33, eo33⟩ := Kd.R_slice HO500.out; subst eo33; have hcz34_0 : w31.cell? ⟨gb482, 0, none⟩ = some (.slice Ao20 y486.length co20) := (blk_cell BK482.out 0).trans rfl; have hcz34_1 : w31.cell? ⟨gb482, 1, none⟩ = some (.slice Ao22 y492.length co22) := (blk_cell BK482.out 1).trans rfl; have hcz34_2 : w31.cell? ⟨gb482, 2, none⟩ = some (u483002) := (blk_cell BK482.out 2).trans rfl; have hfz34_0 := blk_frozen BK482.out 0; have hfz34_1 := blk_frozen BK482.out 1; have hfz34_2 := blk_frozen BK482.out 2))
        go_roundg k2
        case measure => have := HK1.out; have := HK2.out; omega
        case rel => exact ⟨(wrap64 (x19_2 + 1)), (y498), (.slice Ao33 y498.length co33), z7_, H', ⟨z122_⟩, ⟨by (with_reducible repeat (first | apply Kd.R_alloc | apply Kd.R_drewN | apply Kd.R_drew)); exact Kd.R_mono (Kd.R_far (p := ⟨gb482, 2, none⟩) (Kd.R_types HO_483000.out BK482.out (by decide)) (fun _ hk => hk.2) (.slice Ao33 y498.length co33)) (fun _ hk => ⟨hk.1.1.1, hk.1.2⟩)⟩, ⟨by (with_reducible repeat (first | apply Kd.R_alloc | apply Kd.R_drewN | apply Kd.R_drew)); exact Kd.R_mono (Kd.R_far (p := ⟨gb482, 2, none⟩) (Kd.R_types HO_483001.out BK482.out (by decide)) (fun _ hk => hk.2) (.slice Ao33 y498.length co33)) (fun _ hk => ⟨hk.1.1.1, hk.1.2⟩)⟩, ⟨by (with_reducible repeat (first | apply Kd.R_alloc | apply Kd.R_drewN | apply Kd.R_drew)); exact Kd.R_mono (Kd.R_far (p := ⟨gb482, 2, none⟩) (Kd.R_types HO500.out BK482.out (by decide)) (fun _ hk => hk.2) (.slice Ao33 y498.length co33)) (fun _ hk => ⟨hk.1.1, hk.1.2.1⟩)⟩, ⟨z156_⟩, ⟨z119_⟩, ⟨z4_⟩⟩
       ·rw [if_neg c25] at H
        have c25b0 : (x6_1 == x19_2) = false := beq_eq_false_iff_ne.mpr c25
        have c25b1 : (x6_1 != x19_2) = true := bne_iff_ne.mpr c25
        obtain ⟨y501, hy501⟩ : ∃ y_ : List Int, y_ = (([1] : List Int)) := ⟨_, rfl⟩
        replace H : (if x483002_2.length + y501.length < 17592186044416 then (impl_UnitCost.l1 k2 x6_1 x6_1 (wrap64 (x19_2 + 1)) y486 y492 (x483002_2 ++ y501)) else (none)) = some (r1, r2, r3) := by first | (rw [hy501]; with_reducible exact H) | (have H2_ := (Option.bind_some _ _).symm.trans H; rw [hy501]; with_reducible exact H2_) | (have H2_ := (Option.bind_some _ _).symm.trans H; with_reducible exact H2_) | with_reducible exact H | (rw [hy501]; exact H) | exact H
        have Ny501 := Aside0.mk hy501
        clear hy501
        obtain ⟨c35, H⟩ := ifs_ H
        have LMc35 := Aside0.mk c35
        clear c35
        obtain ⟨y504, hy504⟩ : ∃ y_ : List Int, y_ = (x483002_2 ++ y501) := ⟨_, rfl⟩
        replace H : (impl_UnitCost.l1 k2 x6_1 x6_1 (wrap64 (x19_2 + 1)) y486 y492 y504) = some (r1, r2, r3) := by first | (rw [hy504]; with_reducible exact H) | (have H2_ := (Option.bind_some _ _).symm.trans H; rw [hy504]; with_reducible exact H2_) | (have H2_ := (Option.bind_some _ _).symm.trans H; with_reducible exact H2_) | with_reducible exact H | (rw [hy504]; exact H) | exact H
        have Ny504 := Aside0.mk hy504
        clear hy504
        have H' := Aside0.mk H
        clear H
        have hnb36 := NB482_481.out
        have hnc36 := NB481_482.out
        have hcz37_0 : wr.cell? ⟨gb482, 0, none⟩ = some (.slice Ao20 y486.length co20) := (blk_cell BK482.out 0).trans rfl
        have hcz37_1 : wr.cell? ⟨gb482, 1, none⟩ = some (.slice Ao22 y492.length co22) := (blk_cell BK482.out 1).trans rfl
        have hcz37_2 : wr.cell? ⟨gb482, 2, none⟩ = some (u483002) := (blk_cell BK482.out 2).trans rfl
        have hfz37_0 := blk_frozen BK482.out 0
        have hfz37_1 := blk_frozen BK482.out 1
        have hfz37_2 := blk_frozen BK482.out 2
        go_wp2_with (first | ((with_reducible refine gate_dst (N := 28) rfl ?_); refine Kd.R_lit (Kd.int .i64) _ 3 ?hg (N := 28) ?hd (xs := ([1] : List Int)) (inner := [.int .i64 1]) (ok := fun _ => True) (okp := fun _ => True) ?hr ?hp (fun _ hk => hk) trivial (Below.refl _ _) (Nat.le_refl _) (by simp) ?_; (case hd => rfl); (case hg => rfl); (case hr => exact z14_); (case hp => exact z143_); intro v502 w38 ho39 hb hg_ hnew_; clear hg_ hnew_; (first | rw [← Ny501.out] at ho39 | (simp only [Int.reduceToNat] at ho39; rw [← Ny501.out] at ho39)); have HO503 := Aside0.mk (Kd.R_lower (Kd.R_new' (Kd.R_new' (Kd.R_new' ho39 (Kd.R_lt z49_)) (Kd.R_lt z35_)) (Kd.R_lt z36_)) (below_size z4_)); replace HO_483000 := Aside0.mk (Kd.R_elder' z49_ (Kd.R_base ho39) hb); replace HO_483001 := Aside0.mk (Kd.R_elder' z35_ (Kd.R_base ho39) hb); replace HO_483002 := Aside0.mk (Kd.R_elder' z36_ (Kd.R_base ho39) hb); replace BK481 := Aside0.mk (blk_below (g := gb481) (o := .cells #[.slice none 0 0, .slice none 0 0, .slice none 0 0] 38 (0, 0)) z31_ hb); replace BK482 := Aside0.mk (blk_below (g := gb482) (o := .cells #[.slice Ao20 y486.length co20, .slice Ao22 y492.length co22, u483002] 38 (0, 0)) z38_ hb); replace HB := Aside0.mk (below_step z4_ hb); clear hb ho39; obtain ⟨Ao41, co41, eo41⟩ := Kd.R_slice HO503.out; subst eo41) | ((with_reducible refine gate_builtin (b := .append) (xs := #[.tmp 26, .tmp 28]) rfl ?_); at_builtin; refine Kd.R_append_rows (Kd.int .i64) (w0 := w) w.heap.size rfl (.tmp 26) (.tmp 28) 30 3 (.int .i64 0) 8 rfl Try.underlying30 info3 rfl (by decide) (by omega) u483002 x483002_2 y501 _ _ _ (fun k_ => some k_ ≠ (.slice Ao20 y486.length co20 : Value).ownBlock ∧ some k_ ≠ (.slice Ao22 y492.length co22 : Value).ownBlock ∧ some k_ ≠ (.slice Ao41 y501.length co41 : Value).ownBlock) (fun _ => False) rfl rfl ?aO ?aR (fun _ _ h => h) (fun _ h => h.elim) ?aF ?aB ?aS ?aL ?_; (case aR => repeat (first | exact (Kd.R_reads' HO503.out).2.2 | (with_reducible refine Kd.C_alloc ?_ _) | (with_reducible refine Kd.C_drewN ?_ _) | (with_reducible refine Kd.C_drew ?_))); (case aB => exact z75_); (case aF => exact (fun k_ hk => ⟨Kd.fresh' (Kd.R_lt z49_) k_ hk, Kd.fresh' (Kd.R_lt z35_) k_ hk, Kd.fresh' (Kd.R_lt (by (with_reducible repeat (first | apply Kd.R_alloc | apply Kd.R_drewN | apply Kd.R_drew)); exact HO503.out)) k_ hk⟩)); (case aO => exact z208_); (case aS => exact z71_); (case aL => have := LMc35.out; omega); intro v505 w40 ho hb hg hat; rw [← Ny504.out] at ho; replace HO_483000 := Aside0.mk (Kd.R_after (ok := (fun k_ => some k_ ≠ (.slice Ao22 y492.length co22 : Value).ownBlock ∧ some k_ ≠ (.slice Ao41 y501.length co41 : Value).ownBlock)) z221_ hg hat); replace HO_483001 := Aside0.mk (Kd.R_after (ok := (fun k_ => some k_ ≠ (.slice Ao20 y486.length co20 : Value).ownBlock ∧ some k_ ≠ (.slice Ao41 y501.length co41 : Value).ownBlock)) z222_ hg hat); replace BK481 := Aside0.mk (blk_grown (g := gb481) (o := .cells #[.slice none 0 0, .slice none 0 0, .slice none 0 0] 38 (0, 0)) z31_ hg (Kd.R_ne HO_483002.out BK481.out (by decide))); replace BK482 := Aside0.mk (blk_grown (g := gb482) (o := .cells #[.slice Ao20 y486.length co20, .slice Ao22 y492.length co22, u483002] 38 (0, 0)) z38_ hg (Kd.R_ne HO_483002.out BK482.out (by decide))); replace HO503 := Aside0.mk (Kd.R_after (ok := (fun k_ => some k_ ≠ (.slice Ao20 y486.length co20 : Value).ownBlock ∧ some k_ ≠ (.slice Ao22 y492.length co22 : Value).ownBlock)) (by (with_reducible repeat (first | apply Kd.R_alloc | apply Kd.R_drewN | apply Kd.R_drew)); exact Kd.R_mono HO503.out (fun _ hk => ⟨⟨hk.1.1.2, hk.1.2⟩, hk.2⟩)) hg hat); replace HB := Aside0.mk (hb); have HO506 := Aside0.mk (ho); clear HO_483002; clear ho hb hg hat; obtain ⟨Ao42, co42, eo42⟩ := Kd.R_slice HO506.out; subst eo42; have hcz43_0 : w40.cell? ⟨gb482, 0, none⟩ = some (.slice Ao20 y486.length co20) := (blk_cell BK482.out 0).trans rfl; have hcz43_1 : w40.cell? ⟨gb482, 1, none⟩ = some (.slice Ao22 y492.length co22) := (blk_cell BK482.out 1).trans rfl; have hcz43_2 : w40.cell? ⟨gb482, 2, none⟩ = some (u483002) := (blk_cell BK482.out 2).trans rfl; have hfz43_0 := blk_frozen BK482.out 0; have hfz43_1 := blk_frozen BK482.out 1; have hfz43_2 := blk_frozen BK482.out 2))
        go_roundg k2
        case measure => have := HK1.out; have := HK2.out; omega
        case rel => exact ⟨(wrap64 (x19_2 + 1)), (y504), (.slice Ao42 y504.length co42), z7_, H', ⟨z122_⟩, ⟨by (with_reducible repeat (first | apply Kd.R_alloc | apply Kd.R_drewN | apply Kd.R_drew)); exact Kd.R_mono (Kd.R_far (p := ⟨gb482, 2, none⟩) (Kd.R_types HO_483000.out BK482.out (by decide)) (fun _ hk => hk.2) (.slice Ao42 y504.length co42)) (fun _ hk => ⟨hk.1.1.1, hk.1.2⟩)⟩, ⟨by (with_reducible repeat (first | apply Kd.R_alloc | apply Kd.R_drewN | apply Kd.R_drew)); exact Kd.R_mono (Kd.R_far (p := ⟨gb482, 2, none⟩) (Kd.R_types HO_483001.out BK482.out (by decide)) (fun _ hk => hk.2) (.slice Ao42 y504.length co42)) (fun _ hk => ⟨hk.1.1.1, hk.1.2⟩)⟩, ⟨by (with_reducible repeat (first | apply Kd.R_alloc | apply Kd.R_drewN | apply Kd.R_drew)); exact Kd.R_mono (Kd.R_far (p := ⟨gb482, 2, none⟩) (Kd.R_types HO506.out BK482.out (by decide)) (fun _ hk => hk.2) (.slice Ao42 y504.length co42)) (fun _ hk => ⟨hk.1.1, hk.1.2.1⟩)⟩, ⟨z156_⟩, ⟨z119_⟩, ⟨z4_⟩⟩
      ·rw [if_neg c24] at H
       have c24b0 : decide (x19_2 < 6) = false := decide_eq_false c24
       clear c24
       have H' := Aside0.mk H
       clear H
       go_wp2
       go_roundg k2
       case measure => have := HK1.out; have := HK2.out; omega
       case rel => exact ⟨(wrap64 (x6_1 + 1)), (y486), (y492), (x483002_2), (.slice Ao20 y486.length co20), (.slice Ao22 y492.length co22), (u483002), z7_, H', ⟨z122_⟩, ⟨z49_⟩, ⟨z35_⟩, ⟨z36_⟩, ⟨z31_⟩, ⟨z38_⟩, ⟨z4_⟩⟩
   ·rw [if_neg c5] at H
    have c5b0 : decide (x6_1 < 6) = false := decide_eq_false c5
    clear c5
    simp only [Option.some.injEq, Prod.mk.injEq] at H
    obtain ⟨rfl, rfl, rfl⟩ := H
    have hnb44 := NB482_481.out
    have hnc44 := NB481_482.out
    have hcz45_0 : wr.cell? ⟨gb482, 0, none⟩ = some (u483000) := (blk_cell BK482.out 0).trans rfl
    have hcz45_1 : wr.cell? ⟨gb482, 1, none⟩ = some (u483001) := (blk_cell BK482.out 1).trans rfl
    have hcz45_2 : wr.cell? ⟨gb482, 2, none⟩ = some (u483002) := (blk_cell BK482.out 2).trans rfl
    have hfz45_0 := blk_frozen BK482.out 0
    have hfz45_1 := blk_frozen BK482.out 1
    have hfz45_2 := blk_frozen BK482.out 2
    obtain ⟨Ao46, co46, eo46⟩ := Kd.R_slice HO_483000.out
    subst eo46
    have hcz47_0 : wr.cell? ⟨gb481, 0, none⟩ = some (.slice none 0 0) := (blk_cell BK481.out 0).trans rfl
    have hcz47_1 : wr.cell? ⟨gb481, 1, none⟩ = some (.slice none 0 0) := (blk_cell BK481.out 1).trans rfl
    have hcz47_2 : wr.cell? ⟨gb481, 2, none⟩ = some (.slice none 0 0) := (blk_cell BK481.out 2).trans rfl
    have hfz47_0 := blk_frozen BK481.out 0
    have hfz47_1 := blk_frozen BK481.out 1
    have hfz47_2 := blk_frozen BK481.out 2
    obtain ⟨Ao48, co48, eo48⟩ := Kd.R_slice HO_483001.out
    subst eo48
    obtain ⟨Ao49, co49, eo49⟩ := Kd.R_slice HO_483002.out
    subst eo49
    go_wp2
    refine bodyPost_ret (results_cell_row rfl _ _ gb481 38 #[.slice Ao46 x483000_1.length co46, .slice Ao48 x483001_1.length co48, .slice Ao49 x483002_1.length co49] (0, 0) _ rfl (by (with_reducible repeat (first | refine blk_drewN ?_ _ | refine blk_drew ?_ | refine blk_alloc ?_ _)); refine blk_put (cs := #[.slice Ao46 x483000_1.length co46, .slice Ao48 x483001_1.length co48, .slice none 0 0]) ?_ 2 _ rfl; (with_reducible repeat (first | refine blk_drewN ?_ _ | refine blk_drew ?_ | refine blk_alloc ?_ _)); refine blk_put (cs := #[.slice Ao46 x483000_1.length co46, .slice none 0 0, .slice none 0 0]) ?_ 1 _ rfl; (with_reducible repeat (first | refine blk_drewN ?_ _ | refine blk_drew ?_ | refine blk_alloc ?_ _)); refine blk_put (cs := #[.slice none 0 0, .slice none 0 0, .slice none 0 0]) ?_ 0 _ rfl; (with_reducible repeat (first | refine blk_drewN ?_ _ | refine blk_drew ?_ | refine blk_alloc ?_ _)); exact BK481.out) Try.underlying38 rfl (by kernel_rfl)) rfl ?_
    exact ⟨_, _, _, z5_, by (with_reducible repeat (first | apply Kd.R_alloc | apply Kd.R_drewN | apply Kd.R_drew)); exact Kd.R_mono (Kd.R_far (p := ⟨gb481, 2, none⟩) (Kd.R_far (p := ⟨gb481, 1, none⟩) (Kd.R_far (p := ⟨gb481, 0, none⟩) (Kd.R_types HO_483000.out BK481.out (by decide)) (fun _ hk => hk.2) (.slice Ao46 x483000_1.length co46)) (fun _ hk => hk.2) (.slice Ao48 x483001_1.length co48)) (fun _ hk => hk.2) (.slice Ao49 x483002_1.length co49)) (fun _ hk => ⟨hk.1.1, hk.1.2⟩), by (with_reducible repeat (first | apply Kd.R_alloc | apply Kd.R_drewN | apply Kd.R_drew)); exact Kd.R_mono (Kd.R_far (p := ⟨gb481, 2, none⟩) (Kd.R_far (p := ⟨gb481, 1, none⟩) (Kd.R_far (p := ⟨gb481, 0, none⟩) (Kd.R_types HO_483001.out BK481.out (by decide)) (fun _ hk => hk.2) (.slice Ao46 x483000_1.length co46)) (fun _ hk => hk.2) (.slice Ao48 x483001_1.length co48)) (fun _ hk => hk.2) (.slice Ao49 x483002_1.length co49)) (fun _ hk => ⟨hk.1.1, hk.1.2⟩), by (with_reducible repeat (first | apply Kd.R_alloc | apply Kd.R_drewN | apply Kd.R_drew)); exact Kd.R_mono (Kd.R_far (p := ⟨gb481, 2, none⟩) (Kd.R_far (p := ⟨gb481, 1, none⟩) (Kd.R_far (p := ⟨gb481, 0, none⟩) (Kd.R_types HO_483002.out BK481.out (by decide)) (fun _ hk => hk.2) (.slice Ao46 x483000_1.length co46)) (fun _ hk => hk.2) (.slice Ao48 x483001_1.length co48)) (fun _ hk => hk.2) (.slice Ao49 x483002_1.length co49)) (fun _ hk => ⟨hk.1.1, hk.1.2⟩), z4_⟩

/-! ### impl_Similarity: function 12 -/
def impl_Similarity.f (k : Nat) (l0 : List (S61)) (l1 : List (S61)) : Option (Int) := (impl_UnitCost.f k).bind fun bt507 => ((impl_RootDist.f k l0 l1 bt507.1 bt507.2.1 bt507.2.2).bind fun t516 => (if t516 < 0 then (some (-1)) else (if (wrap64 ((l0.length : Int) + (l1.length : Int))) = 0 then (none) else (some (wrap64 (100 - (wrap64 (Int.tdiv (wrap64 (100 * t516)) (wrap64 ((l0.length : Int) + (l1.length : Int)))))))))))
set_option maxHeartbeats 8000000 in
set_option maxRecDepth 100000 in
theorem impl_Similarity.calls (k : Nat) (A0 : Option Addr) (c0 : Nat) (l0 : List (S61)) (A1 : Option Addr) (c1 : Nat) (l1 : List (S61)) (r : Int) (w : World) (hr0 : Kd.C k61 w A0 l0.length l0) (hc0 : l0.length ≤ c0) (hr1 : Kd.C k61 w A1 l1.length l1) (hc1 : l1.length ≤ c1) (h : impl_Similarity.f k l0 l1 = some r) :
  Calls Try.prog 12 #[.slice A0 l0.length c0, .slice A1 l1.length c1] w fun e w' => e = .returned (.int .i64 r) ∧ Below w.heap.size w w' := by
 have HR0 := Aside0.mk hr0
 have HC0 := Aside0.mk hc0
 clear hr0 hc0
 have HR1 := Aside0.mk hr1
 have HC1 := Aside0.mk hc1
 clear hr1 hc1
 have HB := Aside0.mk (Below.refl w.heap.size w)
 have H : ((impl_UnitCost.f k).bind fun bt507 => ((impl_RootDist.f k l0 l1 bt507.1 bt507.2.1 bt507.2.2).bind fun t516 => (if t516 < 0 then (some (-1)) else (if (wrap64 ((l0.length : Int) + (l1.length : Int))) = 0 then (none) else (some (wrap64 (100 - (wrap64 (Int.tdiv (wrap64 (100 * t516)) (wrap64 ((l0.length : Int) + (l1.length : Int)))))))))))) = some r := h
 clear h
 replace H := Option.bind_eq_some_iff.mp H
 obtain ⟨⟨t507, t510, t513⟩, A30, H⟩ := H
 try dsimp only at H
 have A3 := Aside0.mk A30
 clear A30
 obtain ⟨t516, A4, H⟩ := bnd_ H
 by_cases c5 : t516 < 0
 ·rw [if_pos c5] at H
  have c5b0 := decide_eq_true c5
  clear c5
  obtain rfl := Option.some.inj H
  go_enter Try.func12, Try.ntmps12
  go_wp2_with (first | ((with_reducible refine gate_callee (f := 40) rfl ?_); refine goesL_ (some 8) rfl rfl Try.func40 (by kernel_rfl) rfl #[] rfl z1_ ?_; (with_reducible refine (impl_UnitCost.calls k  t507 t510 t513 _ A3.out).mono ?_); rintro e w6 ⟨v508, v511, v514, rfl, ho0, ho1, ho2, hb⟩; refine ⟨_, rfl, ?_⟩; have HO509 := Aside0.mk (Kd.R_lower ho0 (below_size z0_)); have HO512 := Aside0.mk (Kd.R_lower ho1 (below_size z0_)); have HO515 := Aside0.mk (Kd.R_lower ho2 (below_size z0_)); replace HB := Aside0.mk (below_step z0_ hb); (try clear hb ho0 ho1 ho2); obtain ⟨Ao7, co7, eo7⟩ := Kd.R_slice HO509.out; subst eo7; obtain ⟨Ao8, co8, eo8⟩ := Kd.R_slice HO512.out; subst eo8; obtain ⟨Ao9, co9, eo9⟩ := Kd.R_slice HO515.out; subst eo9) | ((with_reducible refine gate_callee (f := 26) rfl ?_); refine goesL_ (some 9) rfl rfl Try.func26 (by kernel_rfl) rfl #[.slice A0 l0.length c0, .slice A1 l1.length c1, .agg #[.slice Ao7 t507.length co7, .slice Ao8 t510.length co8, .slice Ao9 t513.length co9]] rfl z1_ ?_; (with_reducible refine (impl_RootDist.calls k _ _ l0 _ _ l1 _ _ t507 _ _ t510 _ _ t513 t516 _ ?side1 ?side2 ?side3 ?side4 ?side5 ?side6 ?side7 ?side8 ?side9 ?side10 A4.out).mono ?_); (case side1 => exact z3_); (case side2 => exact HC0.out); (case side3 => exact z8_); (case side4 => exact HC1.out); (case side5 => exact z196_); (case side6 => exact (Kd.R_reads' HO509.out).2.1); (case side7 => exact z197_); (case side8 => exact (Kd.R_reads' HO512.out).2.1); (case side9 => exact z198_); (case side10 => exact (Kd.R_reads' HO515.out).2.1); rintro e w10 ⟨rfl, hb⟩; refine ⟨_, rfl, ?_⟩; replace HO509 := Aside0.mk (Kd.R_below z254_ hb); replace HO512 := Aside0.mk (Kd.R_below z255_ hb); replace HO515 := Aside0.mk (Kd.R_below z256_ hb); replace HB := Aside0.mk (below_step z0_ hb); (try clear hb)))
  go_ret
  exact ⟨z5_, z0_⟩
 ·rw [if_neg c5] at H
  have c5b0 := decide_eq_false c5
  clear c5
  by_cases c11 : (wrap64 ((l0.length : Int) + (l1.length : Int))) = 0
  ·rw [if_pos c11] at H
   exact absurd H (by simp)
  ·rw [if_neg c11] at H
   have c11b0 : ((wrap64 ((l0.length : Int) + (l1.length : Int))) == 0) = false := beq_eq_false_iff_ne.mpr c11
   have c11b1 : ((wrap64 ((l0.length : Int) + (l1.length : Int))) != 0) = true := bne_iff_ne.mpr c11
   obtain rfl := Option.some.inj H
   go_enter Try.func12, Try.ntmps12
   go_wp2_with (first | ((with_reducible refine gate_callee (f := 40) rfl ?_); refine goesL_ (some 8) rfl rfl Try.func40 (by kernel_rfl) rfl #[] rfl z1_ ?_; (with_reducible refine (impl_UnitCost.calls k  t507 t510 t513 _ A3.out).mono ?_); rintro e w12 ⟨v508, v511, v514, rfl, ho0, ho1, ho2, hb⟩; refine ⟨_, rfl, ?_⟩; have HO509 := Aside0.mk (Kd.R_lower ho0 (below_size z0_)); have HO512 := Aside0.mk (Kd.R_lower ho1 (below_size z0_)); have HO515 := Aside0.mk (Kd.R_lower ho2 (below_size z0_)); replace HB := Aside0.mk (below_step z0_ hb); (try clear hb ho0 ho1 ho2); obtain ⟨Ao13, co13, eo13⟩ := Kd.R_slice HO509.out; subst eo13; obtain ⟨Ao14, co14, eo14⟩ := Kd.R_slice HO512.out; subst eo14; obtain ⟨Ao15, co15, eo15⟩ := Kd.R_slice HO515.out; subst eo15) | ((with_reducible refine gate_callee (f := 26) rfl ?_); refine goesL_ (some 9) rfl rfl Try.func26 (by kernel_rfl) rfl #[.slice A0 l0.length c0, .slice A1 l1.length c1, .agg #[.slice Ao13 t507.length co13, .slice Ao14 t510.length co14, .slice Ao15 t513.length co15]] rfl z1_ ?_; (with_reducible refine (impl_RootDist.calls k _ _ l0 _ _ l1 _ _ t507 _ _ t510 _ _ t513 t516 _ ?side1 ?side2 ?side3 ?side4 ?side5 ?side6 ?side7 ?side8 ?side9 ?side10 A4.out).mono ?_); (case side1 => exact z3_); (case side2 => exact HC0.out); (case side3 => exact z8_); (case side4 => exact HC1.out); (case side5 => exact z196_); (case side6 => exact (Kd.R_reads' HO509.out).2.1); (case side7 => exact z197_); (case side8 => exact (Kd.R_reads' HO512.out).2.1); (case side9 => exact z198_); (case side10 => exact (Kd.R_reads' HO515.out).2.1); rintro e w16 ⟨rfl, hb⟩; refine ⟨_, rfl, ?_⟩; replace HO509 := Aside0.mk (Kd.R_below z254_ hb); replace HO512 := Aside0.mk (Kd.R_below z255_ hb); replace HO515 := Aside0.mk (Kd.R_below z256_ hb); replace HB := Aside0.mk (below_step z0_ hb); (try clear hb)))
   go_ret
   exact ⟨z5_, z0_⟩

/-! ### laws_eqNode: function 41 -/
def laws_eqNode.f (a0_0 : Int) (a0_1 : Int) (a1_0 : Int) (a1_1 : Int) : Option (Bool) := if a0_0 = a1_0 then (if a0_1 = a1_1 then (some true) else (some false)) else (some false)
set_option maxHeartbeats 8000000 in
set_option maxRecDepth 100000 in
theorem laws_eqNode.calls (a0_0 : Int) (a0_1 : Int) (a1_0 : Int) (a1_1 : Int) (r : Bool) (w : World) (h : laws_eqNode.f a0_0 a0_1 a1_0 a1_1 = some r) :
  Calls Try.prog 41 #[.agg #[.int .i64 a0_0, .int .i64 a0_1], .agg #[.int .i64 a1_0, .int .i64 a1_1]] w fun e w' => e = .returned (.bool r) ∧ Below w.heap.size w w' := by
 have hu61 := Try.underlying61
 have HB := Aside0.mk (Below.refl w.heap.size w)
 have H : (if a0_0 = a1_0 then (if a0_1 = a1_1 then (some true) else (some false)) else (some false)) = some r := h
 clear h
 by_cases c3 : a0_0 = a1_0
 ·rw [if_pos c3] at H
  have c3b0 : (a0_0 == a1_0) = true := beq_iff_eq.mpr c3
  have c3b1 : (a0_0 != a1_0) = false := bne_eq_false_iff_eq.mpr c3
  clear c3
  by_cases c4 : a0_1 = a1_1
  ·rw [if_pos c4] at H
   have c4b0 : (a0_1 == a1_1) = true := beq_iff_eq.mpr c4
   have c4b1 : (a0_1 != a1_1) = false := bne_eq_false_iff_eq.mpr c4
   clear c4
   obtain rfl := Option.some.inj H
   go_enter Try.func41, Try.ntmps41
   go_wp2_with (first | ((with_reducible refine gate_dst (N := 2) rfl ?_); refine box_event ?hg (N := 2) ?hd (cs := #[.int .i64 a0_0, .int .i64 a0_1]) (t := 61) ?hr ?_; (case hd => rfl); (case hg => rfl); (case hr => exact z14_); intro gb517 hg w5 hbox hb; have BK517 := Aside0.mk (hbox); have GW517 := Aside0.mk ((by rw [hg]; exact (below_size z0_) : w.heap.size ≤ gb517)); have GE517 := Aside0.mk ((by rw [hg]; exact (below_size z0_) : w.heap.size ≤ gb517)); replace HB := Aside0.mk (below_step z0_ hb); clear hb hbox hg) | ((with_reducible refine gate_dst (N := 3) rfl ?_); refine box_event ?hg (N := 3) ?hd (cs := #[.int .i64 a1_0, .int .i64 a1_1]) (t := 61) ?hr ?_; (case hd => rfl); (case hg => rfl); (case hr => exact z14_); intro gb518 hg w6 hbox hb; have BK518 := Aside0.mk (hbox); have GW518 := Aside0.mk ((by rw [hg]; exact (below_size z62_) : w.heap.size ≤ gb518)); have GE518 := Aside0.mk ((by rw [hg]; exact (below_size z62_) : w.heap.size ≤ gb518)); replace HB := Aside0.mk (below_step z62_ hb); have NB517_518 := Aside0.mk ((by rw [hg]; exact Nat.ne_of_lt (blk_lt (g := gb517) (o := .cells #[.int .i64 a0_0, .int .i64 a0_1] 61 (0, 0)) z77_) : gb517 ≠ gb518)); have NB518_517 := Aside0.mk ((by rw [hg]; exact Nat.ne_of_gt (blk_lt (g := gb517) (o := .cells #[.int .i64 a0_0, .int .i64 a0_1] 61 (0, 0)) z77_) : gb518 ≠ gb517)); replace BK517 := Aside0.mk (blk_below (g := gb517) (o := .cells #[.int .i64 a0_0, .int .i64 a0_1] 61 (0, 0)) z77_ hb); clear hb hbox hg; have hnb7 := NB517_518.out; have hnc7 := NB518_517.out; obtain ⟨hcz8_0, hcz8_1, hfz8_0, hfz8_1⟩ := bx2_ BK517.out; obtain ⟨hcz9_0, hcz9_1, hfz9_0, hfz9_1⟩ := bx2_ BK518.out))
   go_ret
   exact ⟨z5_, z128_⟩
  ·rw [if_neg c4] at H
   have c4b0 : (a0_1 == a1_1) = false := beq_eq_false_iff_ne.mpr c4
   have c4b1 : (a0_1 != a1_1) = true := bne_iff_ne.mpr c4
   obtain rfl := Option.some.inj H
   go_enter Try.func41, Try.ntmps41
   go_wp2_with (first | ((with_reducible refine gate_dst (N := 2) rfl ?_); refine box_event ?hg (N := 2) ?hd (cs := #[.int .i64 a0_0, .int .i64 a0_1]) (t := 61) ?hr ?_; (case hd => rfl); (case hg => rfl); (case hr => exact z14_); intro gb517 hg w10 hbox hb; have BK517 := Aside0.mk (hbox); have GW517 := Aside0.mk ((by rw [hg]; exact (below_size z0_) : w.heap.size ≤ gb517)); have GE517 := Aside0.mk ((by rw [hg]; exact (below_size z0_) : w.heap.size ≤ gb517)); replace HB := Aside0.mk (below_step z0_ hb); clear hb hbox hg) | ((with_reducible refine gate_dst (N := 3) rfl ?_); refine box_event ?hg (N := 3) ?hd (cs := #[.int .i64 a1_0, .int .i64 a1_1]) (t := 61) ?hr ?_; (case hd => rfl); (case hg => rfl); (case hr => exact z14_); intro gb518 hg w11 hbox hb; have BK518 := Aside0.mk (hbox); have GW518 := Aside0.mk ((by rw [hg]; exact (below_size z62_) : w.heap.size ≤ gb518)); have GE518 := Aside0.mk ((by rw [hg]; exact (below_size z62_) : w.heap.size ≤ gb518)); replace HB := Aside0.mk (below_step z62_ hb); have NB517_518 := Aside0.mk ((by rw [hg]; exact Nat.ne_of_lt (blk_lt (g := gb517) (o := .cells #[.int .i64 a0_0, .int .i64 a0_1] 61 (0, 0)) z77_) : gb517 ≠ gb518)); have NB518_517 := Aside0.mk ((by rw [hg]; exact Nat.ne_of_gt (blk_lt (g := gb517) (o := .cells #[.int .i64 a0_0, .int .i64 a0_1] 61 (0, 0)) z77_) : gb518 ≠ gb517)); replace BK517 := Aside0.mk (blk_below (g := gb517) (o := .cells #[.int .i64 a0_0, .int .i64 a0_1] 61 (0, 0)) z77_ hb); clear hb hbox hg; have hnb12 := NB517_518.out; have hnc12 := NB518_517.out; obtain ⟨hcz13_0, hcz13_1, hfz13_0, hfz13_1⟩ := bx2_ BK517.out; obtain ⟨hcz14_0, hcz14_1, hfz14_0, hfz14_1⟩ := bx2_ BK518.out))
   go_ret
   exact ⟨z5_, z128_⟩
 ·rw [if_neg c3] at H
  have c3b0 : (a0_0 == a1_0) = false := beq_eq_false_iff_ne.mpr c3
  have c3b1 : (a0_0 != a1_0) = true := bne_iff_ne.mpr c3
  obtain rfl := Option.some.inj H
  go_enter Try.func41, Try.ntmps41
  go_wp2_with (first | ((with_reducible refine gate_dst (N := 2) rfl ?_); refine box_event ?hg (N := 2) ?hd (cs := #[.int .i64 a0_0, .int .i64 a0_1]) (t := 61) ?hr ?_; (case hd => rfl); (case hg => rfl); (case hr => exact z14_); intro gb517 hg w15 hbox hb; have BK517 := Aside0.mk (hbox); have GW517 := Aside0.mk ((by rw [hg]; exact (below_size z0_) : w.heap.size ≤ gb517)); have GE517 := Aside0.mk ((by rw [hg]; exact (below_size z0_) : w.heap.size ≤ gb517)); replace HB := Aside0.mk (below_step z0_ hb); clear hb hbox hg) | ((with_reducible refine gate_dst (N := 3) rfl ?_); refine box_event ?hg (N := 3) ?hd (cs := #[.int .i64 a1_0, .int .i64 a1_1]) (t := 61) ?hr ?_; (case hd => rfl); (case hg => rfl); (case hr => exact z14_); intro gb518 hg w16 hbox hb; have BK518 := Aside0.mk (hbox); have GW518 := Aside0.mk ((by rw [hg]; exact (below_size z62_) : w.heap.size ≤ gb518)); have GE518 := Aside0.mk ((by rw [hg]; exact (below_size z62_) : w.heap.size ≤ gb518)); replace HB := Aside0.mk (below_step z62_ hb); have NB517_518 := Aside0.mk ((by rw [hg]; exact Nat.ne_of_lt (blk_lt (g := gb517) (o := .cells #[.int .i64 a0_0, .int .i64 a0_1] 61 (0, 0)) z77_) : gb517 ≠ gb518)); have NB518_517 := Aside0.mk ((by rw [hg]; exact Nat.ne_of_gt (blk_lt (g := gb517) (o := .cells #[.int .i64 a0_0, .int .i64 a0_1] 61 (0, 0)) z77_) : gb518 ≠ gb517)); replace BK517 := Aside0.mk (blk_below (g := gb517) (o := .cells #[.int .i64 a0_0, .int .i64 a0_1] 61 (0, 0)) z77_ hb); clear hb hbox hg; have hnb17 := NB517_518.out; have hnc17 := NB518_517.out; obtain ⟨hcz18_0, hcz18_1, hfz18_0, hfz18_1⟩ := bx2_ BK517.out; obtain ⟨hcz19_0, hcz19_1, hfz19_0, hfz19_1⟩ := bx2_ BK518.out))
  go_ret
  exact ⟨z5_, z128_⟩

end Go.Proofs.Ytbmkobanpakohaa.PFnExactSimilarity
