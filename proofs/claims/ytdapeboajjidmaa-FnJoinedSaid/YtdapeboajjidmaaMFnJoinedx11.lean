/- Laid by a program of this session out of the kit's print for the law FnJoined: what it says of the machine is proved here, function by function; each contract under the conditions that it names. -/
import Derived.Test.YtdapeboajjidmaaMFnJoinedx0
import Derived.Test.YtdapeboajjidmaaMFnJoinedx2
import Derived.Test.YtdapeboajjidmaaMFnJoinedx3
import Derived.Test.YtdapeboajjidmaaMFnJoinedx8
import Derived.Test.YtdapeboajjidmaaMFnJoinedx10
namespace Go.Proofs.Ytdapeboajjidmaa.PFnJoined
open Go.RowKit Go.Proofs.YtdapeboajjidmaaW.PrintWords Go.Proofs.YtdapeboajjidmaaW.PrintLast Go.Proofs.YtdapeboajjidmaaW.PrintMore
attribute [local go_sem] max2_int min2_int max_two min_two max_three min_three max_four min_four   -- for this text's walks alone
set_option linter.unusedVariables false
set_option linter.unusedSimpArgs false

/-! ### spec_l13Script: function 72 -/
mutual
def spec_l13Script.l0 : Nat → List (S78) → List (S80) → Int → List Int → Int → Int → Option ((List (S78)) × Int × Int)
 | 0, _, _, _, _, _, _ => none
 | k + 1, x7, x8, x9, x1000, x1001, x1002 => if x9 > 0 then ((spec_l13Op.f k x1000 x1001 x1002 x8).bind fun bt457 => ((spec_ApplyOp.f k x8 bt457.1 bt457.2.1 bt457.2.2.1 bt457.2.2.2.1 bt457.2.2.2.2.1).bind fun bt467 => (if bt467.2 = 0 then (spec_l13Script.j1 k x7 x8 x9 bt467.1 bt467.2 true x1000 bt457.2.2.2.2.2.1 bt457.2.2.2.2.2.2 bt457.1 bt457.2.1 bt457.2.2.1 bt457.2.2.2.1 bt457.2.2.2.2.1) else ((spec_l1Once.f x1000 bt457.2.2.2.2.2.1 bt457.2.2.2.2.2.2 3).bind fun bt471 => (spec_l13Script.j1 k x7 x8 x9 bt467.1 bt467.2 bt471.1 x1000 bt471.2.1 bt471.2.2 bt457.1 bt457.2.1 bt457.2.2.1 bt457.2.2.2.1 bt457.2.2.2.2.1))))) else (some (x7, x1001, x1002))
def spec_l13Script.j1 : Nat → List (S78) → List (S80) → Int → List (S80) → Int → Bool → List Int → Int → Int → Int → List Int → Int → Int → Int → Option ((List (S78)) × Int × Int)
 | 0, _, _, _, _, _, _, _, _, _, _, _, _, _, _ => none
 | k + 1, x7, x8, x9, x11, x12, x37, x1000, x1001, x1002, x467000, x467001, x467002, x467003, x467004 => if x37 = true then (if x7.length < 2513169434916 then ((some (x7 ++ [(⟨x467000, x467001, x467002, x467003, x467004⟩ : S78)] : List (S78))).bind fun y474 => (if x12 = 0 then (spec_l13Script.l0 k y474 x11 (wrap64 (x9 - 1)) x1000 x1001 x1002) else (spec_l13Script.l0 k y474 x8 (wrap64 (x9 - 1)) x1000 x1001 x1002))) else (none)) else (if x12 = 0 then (spec_l13Script.l0 k x7 x11 (wrap64 (x9 - 1)) x1000 x1001 x1002) else (spec_l13Script.l0 k x7 x8 (wrap64 (x9 - 1)) x1000 x1001 x1002))
end
def spec_l13Script.f (k : Nat) (s0_0 : List Int) (s0_1 : Int) (s0_2 : Int) (l1 : List (S80)) (a2 : Int) : Option ((List (S78)) × Int × Int) := (spec_l3Copy.f l1).bind fun t451 => ((spec_l1Below.f s0_0 s0_1 s0_2 a2).bind fun bt454 => (spec_l13Script.l0 k (([] : List (S78))) t451 bt454.1 s0_0 bt454.2.1 bt454.2.2))
set_option maxHeartbeats 8000000 in
set_option maxRecDepth 100000 in
theorem spec_l13Script.calls (k : Nat) (g : Nat) (s0_0 : List Int) (s0_1 : Int) (s0_2 : Int) (A1 : Option Addr) (c1 : Nat) (l1 : List (S80)) (a2 : Int) (r1 : List (S78)) (r2 : Int) (r3 : Int) (w0 w : World) (hI : IsS126 w0 w g s0_0 s0_1 s0_2) (hB : Below w0.heap.size w0 w) (hr1 : ∀ W_, KeepBut w W_ g none → Kd.C k80 W_ A1 l1.length l1) (hc1 : l1.length ≤ c1) (h : spec_l13Script.f k s0_0 s0_1 s0_2 l1 a2 = some (r1, r2, r3)) :
  Calls Try.prog 72 #[.pointer (some ⟨g, 0, none⟩), .slice A1 l1.length c1, .int .i64 a2] w fun e w' => ∃ v0_ : Value, e = .returned (v0_) ∧ Kd.S k78 78 w' w.heap.size (fun _ => True) v0_ r1 ∧ IsS126 w0 w' g s0_0 r2 r3 ∧ Below w0.heap.size w0 w' ∧ KeepBut w w' g none := by
 have hu78 := Try.underlying78
 have HR1 := Aside0.mk hr1
 have HC1 := Aside0.mk hc1
 clear hr1 hc1
 have HI0 := Aside0.mk hI
 have HK := Aside0.mk (KeepBut.refl w g none)
 have HL := Aside0.mk hB.size
 clear hI
 have HW0 := Aside0.mk hB.size
 have HB := Aside0.mk hB
 clear hB
 have H : ((spec_l3Copy.f l1).bind fun t451 => ((spec_l1Below.f s0_0 s0_1 s0_2 a2).bind fun bt454 => (spec_l13Script.l0 k (([] : List (S78))) t451 bt454.1 s0_0 bt454.2.1 bt454.2.2))) = some (r1, r2, r3) := h
 clear h
 first | ((with_reducible have hz_ := gy_ H); obtain ⟨y448, Ny448, H⟩ := hz_) | (generalize hy_ : (([] : List (S78))) = y448 at H; have Ny448 := Aside0.mk hy_.symm; clear hy_)
 obtain ⟨t451, A4, H⟩ := bnd_ H
 replace H := Option.bind_eq_some_iff.mp H
 obtain ⟨⟨t454, t455, t456⟩, A50, H⟩ := H
 try dsimp only at H
 have A5 := Aside0.mk A50
 clear A50
 have H' := Aside0.mk H
 clear H
 go_enter Try.func72, Try.ntmps72
 go_wp2_with (first | ((with_reducible refine gate_dst (N := 13) rfl ?_); refine Kd.S_lit k78 _ 78 ?hg (N := 13) ?hd (xs := ([] : List (S78))) (inner := []) (ok := fun _ => True) (okp := fun _ => True) ?hr ?hp (fun _ hk => hk) trivial (Below.refl _ _) (Nat.le_refl _) (by simp) ?_; (case hd => rfl); (case hg => rfl); (case hr => exact z20_); (case hp => exact z139_); intro v449 w6 ho7 hb hg_ hnew_; clear hg_ hnew_; (first | rw [← Ny448.out] at ho7 | (simp only [Int.reduceToNat] at ho7; rw [← Ny448.out] at ho7)); have HO450 := Aside0.mk (Kd.S_lower ho7 (keep_size (w := w) (g := g) (row := none) z2_)); replace HK := Aside0.mk (KeepBut.trans z2_ (KeepBut.of_below hb g none) (.inl rfl)); replace HB := Aside0.mk (below_step z4_ hb); replace HI0 := Aside0.mk (IsS126.below z3_ hb); clear hb ho7) | ((with_reducible refine gate_callee (f := 45) rfl ?_); refine goesL_ (some 15) rfl rfl Try.func45 (by kernel_rfl) rfl #[.slice A1 l1.length c1] rfl z1_ ?_; (with_reducible refine (spec_l3Copy.calls _ _ l1 t451 _ ?side1 ?side2 A4.out).mono ?_); (case side1 => exact Kd.C_foot_now HR1.out z2_); (case side2 => exact HC1.out); rintro e w8 ⟨v452, rfl, ho0, hb⟩; refine ⟨_, rfl, ?_⟩; replace HO450 := Aside0.mk (Kd.S_below z172_ hb); have HO453 := Aside0.mk (Kd.R_lower ho0 (keep_size (w := w) (g := g) (row := none) z2_)); replace HK := Aside0.mk (KeepBut.trans z2_ (KeepBut.of_below hb g none) (.inl rfl)); replace HB := Aside0.mk (below_step z4_ hb); replace HI0 := Aside0.mk (IsS126.below z3_ hb); (try clear hb ho0)) | ((with_reducible refine gate_callee (f := 109) rfl ?_); refine goesL_ (some 18) rfl rfl Try.func109 (by kernel_rfl) rfl #[.pointer (some ⟨g, 0, none⟩), .int .i64 a2] rfl z1_ ?_; (with_reducible refine (spec_l1Below.calls g s0_0 s0_1 s0_2 a2 t454 t455 t456 w0 _ ?side1 ?side2 A5.out).mono ?_); (case side1 => exact z3_); (case side2 => exact z4_); rintro e w9 ⟨rfl, hi, hb, hk⟩; refine ⟨_, rfl, ?_⟩; replace HO450 := Aside0.mk (Kd.S_mono (Kd.S_keep (IsS126.apartS (show IsS126 w0 _ g s0_0 s0_1 s0_2 from by repeat (first | (with_reducible first | exact HI0.out | apply IsS126.alloc | apply IsS126.drewN | apply IsS126.drew | apply IsS126.set_1 | apply IsS126.set_2) | exact HI0.out)) z172_ (by decide)) hk (fun _ h => h.2)) (fun _ h => h.1)); replace HO453 := Aside0.mk (Kd.R_mono (Kd.R_keep (IsS126.apart (show IsS126 w0 _ g s0_0 s0_1 s0_2 from by repeat (first | (with_reducible first | exact HI0.out | apply IsS126.alloc | apply IsS126.drewN | apply IsS126.drew | apply IsS126.set_1 | apply IsS126.set_2) | exact HI0.out)) z209_ (by decide)) hk (fun _ h => h.2)) (fun _ h => h.1)); replace HK := Aside0.mk (KeepBut.trans z2_ hk (.inl rfl)); replace HB := Aside0.mk (hb); replace HI0 := Aside0.mk (hi); (try clear hb hk hi)))
 go_loopg [7, 8, 9] k (fun kq v7 v8 v9 w' => ∃ (x7_1 : List (S78)) (x8_1 : List (S80)) (x9_1 : Int) (x1001_1 : Int) (x1002_1 : Int), v9 = .int .i64 x9_1 ∧ Aside0 (spec_l13Script.l0 kq x7_1 x8_1 x9_1 s0_0 x1001_1 x1002_1 = some (r1, r2, r3)) ∧ Aside0 (kq ≤ k) ∧ Aside0 (Kd.S k78 78 w' w.heap.size (fun _ => True) v7 x7_1) ∧ Aside0 (Kd.R k80 80 w' w.heap.size (fun _ => True) v8 x8_1) ∧ Aside0 (IsS126 w0 w' g s0_0 x1001_1 x1002_1) ∧ Aside0 (KeepBut w w' g none) ∧ Aside0 (Below w0.heap.size w0 w'))
 case atStart => exact ⟨(y448), (t451), (t454), (t455), (t456), z11_, H', ⟨Nat.le_refl _⟩, ⟨z172_⟩, ⟨z209_⟩, ⟨z3_⟩, ⟨z2_⟩, ⟨z4_⟩⟩
 case round =>
  clear H'
  try clear c1
  try clear p2
  try clear c4
  try clear c7
  obtain ⟨x7_1, x8_1, x9_1, x1001_1, x1002_1, rfl, HA, HK1, HO_7, HO_8, HI0, HK, HB⟩ := hrel
  cases gk with
  | zero => exact absurd HA.out (by simp [spec_l13Script.l0])
  | succ k1 =>
   have H := HA.out
   clear HA
   simp only [spec_l13Script.l0] at H
   by_cases c10 : x9_1 > 0
   ·rw [if_pos c10] at H
    have c10b0 := decide_eq_true c10
    clear c10
    replace H := Option.bind_eq_some_iff.mp H
    obtain ⟨⟨t457, t458, t461, t462, t463, t464, t465⟩, A110, H⟩ := H
    try dsimp only at H
    have A11 := Aside0.mk A110
    clear A110
    replace H := Option.bind_eq_some_iff.mp H
    obtain ⟨⟨t467, t470⟩, A120, H⟩ := H
    try dsimp only at H
    have A12 := Aside0.mk A120
    clear A120
    have HC13 := Aside0.mk H
    clear H
    obtain ⟨Ao14, co14, eo14⟩ := Kd.R_slice HO_8.out
    subst eo14
    go_upto_region 8 with (first | ((with_reducible refine gate_callee (f := 112) rfl ?_); refine goesL_ (some 25) rfl rfl Try.func112 (by kernel_rfl) rfl #[.pointer (some ⟨g, 0, none⟩), .slice Ao14 x8_1.length co14] rfl z1_ ?_; (with_reducible refine (spec_l13Op.calls k1 g s0_0 x1001_1 x1002_1 _ _ x8_1 t457 t458 t461 t462 t463 t464 t465 w0 _ ?side1 ?side2 ?side3 ?side4 A11.out).mono ?_); (case side1 => exact z3_); (case side2 => exact z4_); (case side3 => exact Kd.C_foot_own (IsS126.apart (show IsS126 w0 _ g s0_0 x1001_1 x1002_1 from by repeat (first | (with_reducible first | exact HI0.out | apply IsS126.alloc | apply IsS126.drewN | apply IsS126.drew | apply IsS126.set_1 | apply IsS126.set_2) | exact HI0.out)) z41_ (by decide)) (fun _ h_ => h_.2)); (case side4 => exact z170_); rintro e w15 ⟨v459, rfl, ho0, hi, hb, hk⟩; refine ⟨_, rfl, ?_⟩; replace HO_7 := Aside0.mk (Kd.S_mono (Kd.S_told (Kd.S_oldK (IsS126.apartS (show IsS126 w0 _ g s0_0 x1001_1 x1002_1 from by repeat (first | (with_reducible first | exact HI0.out | apply IsS126.alloc | apply IsS126.drewN | apply IsS126.drew | apply IsS126.set_1 | apply IsS126.set_2) | exact HI0.out)) z91_ (by decide)) hk) (Kd.R_base ho0)) (fun _ h_ => h_.1)); replace HO_8 := Aside0.mk (Kd.R_mono (Kd.R_keep (IsS126.apart (show IsS126 w0 _ g s0_0 x1001_1 x1002_1 from by repeat (first | (with_reducible first | exact HI0.out | apply IsS126.alloc | apply IsS126.drewN | apply IsS126.drew | apply IsS126.set_1 | apply IsS126.set_2) | exact HI0.out)) z41_ (by decide)) hk (fun _ h => h.2)) (fun _ h => h.1)); have HO460 := Aside0.mk (Kd.R_lower ho0 (keep_size (w := w) (g := g) (row := none) z2_)); replace HK := Aside0.mk (KeepBut.trans z2_ hk (.inl rfl)); replace HB := Aside0.mk (hb); replace HI0 := Aside0.mk (hi); (try clear hb hk hi ho0)) | ((with_reducible refine gate_dst (N := 10) rfl ?_); refine box_event ?hg (N := 10) ?hd (cs := #[.int .i64 0, .slice none 0 0, .int .i64 0, .int .i64 0, .int .i64 0]) (t := 78) ?hr ?_; (case hd => rfl); (case hg => rfl); (case hr => exact z20_); intro gb466 hg w16 hbox hb; replace HO_7 := Aside0.mk (Kd.S_below (Kd.S_elderB z91_ gb466 (Nat.le_of_eq hg.symm)) hb); replace HO_8 := Aside0.mk (Kd.R_below z41_ hb); replace HO460 := Aside0.mk (Kd.R_below z144_ hb); replace HB := Aside0.mk (below_step z4_ hb); have BK466 := Aside0.mk (hbox); have GW466 := Aside0.mk ((by rw [hg]; exact (keep_size (w := w) (g := g) (row := none) z2_) : w.heap.size ≤ gb466)); have GE466 := Aside0.mk ((Nat.le_trans HW0.out (by rw [hg]; exact (keep_size (w := w) (g := g) (row := none) z2_) : w.heap.size ≤ gb466) : w0.heap.size ≤ gb466)); replace HK := Aside0.mk (KeepBut.trans z2_ (KeepBut.of_below hb g none) (.inl rfl)); have NB0_466 := Aside0.mk ((by rw [hg]; exact Nat.ne_of_lt (IsS126.lt (show IsS126 w0 _ g s0_0 t464 t465 from by repeat (first | (with_reducible first | exact HI0.out | apply IsS126.alloc | apply IsS126.drewN | apply IsS126.drew | apply IsS126.set_1 | apply IsS126.set_2) | exact HI0.out))) : g ≠ gb466)); have NB466_0 := Aside0.mk ((by rw [hg]; exact Nat.ne_of_gt (IsS126.lt (show IsS126 w0 _ g s0_0 t464 t465 from by repeat (first | (with_reducible first | exact HI0.out | apply IsS126.alloc | apply IsS126.drewN | apply IsS126.drew | apply IsS126.set_1 | apply IsS126.set_2) | exact HI0.out))) : gb466 ≠ g)); replace HI0 := Aside0.mk (IsS126.below z3_ hb); clear hb hbox hg; have hnb17 := NB466_0.out; have hnc17 := NB0_466.out; obtain ⟨hcz18_0, hcz18_1, hcz18_2, hcz18_3, hcz18_4, hfz18_0, hfz18_1, hfz18_2, hfz18_3, hfz18_4⟩ := bx5_ BK466.out; obtain ⟨Ao19, co19, eo19⟩ := Kd.R_slice HO460.out; subst eo19) | ((with_reducible refine gate_callee (f := 47) rfl ?_); refine goesL_ (some 29) rfl rfl Try.func47 (by kernel_rfl) rfl #[.slice Ao14 x8_1.length co14, .agg #[.int .i64 t457, .slice Ao19 t458.length co19, .int .i64 t461, .int .i64 t462, .int .i64 t463]] rfl z1_ ?_; (with_reducible refine (spec_ApplyOp.calls k1 _ _ x8_1 t457 _ _ t458 t461 t462 t463 t467 t470 _ ?side1 ?side2 ?side3 ?side4 A12.out).mono ?_); (case side1 => refine (Kd.R_reads' (e := 80) (base := w.heap.size) (ok := fun k_ => True) (n := x8_1.length) (c := co14) ?_).2.2; exact z53_); (case side2 => exact z170_); (case side3 => refine (Kd.R_reads' (e := 3) (base := w.heap.size) (ok := fun k_ => True) (n := t458.length) (c := co19) ?_).2.2; exact z68_); (case side4 => exact (Kd.R_reads' HO460.out).2.1); rintro e w20 ⟨v468, rfl, ho0, hb⟩; refine ⟨_, rfl, ?_⟩; replace HO_7 := Aside0.mk (Kd.S_below (by (with_reducible repeat (first | apply Kd.S_alloc | apply Kd.S_drewN | apply Kd.S_drew)); exact (Kd.S_mono (Kd.S_far (p := ⟨gb466, 4, none⟩) (Kd.S_far (p := ⟨gb466, 3, none⟩) (Kd.S_far (p := ⟨gb466, 2, none⟩) (Kd.S_far (p := ⟨gb466, 1, none⟩) (Kd.S_far (p := ⟨gb466, 0, none⟩) (Kd.S_mono HO_7.out (fun k_ hk => (⟨hk, hk.2⟩ : _ ∧ k_ ≠ gb466))) (fun _ hk => hk.2) (.int .i64 t457)) (fun _ hk => hk.2) (.slice Ao19 t458.length co19)) (fun _ hk => hk.2) (.int .i64 t461)) (fun _ hk => hk.2) (.int .i64 t462)) (fun _ hk => hk.2) (.int .i64 t463)) (fun _ h_ => h_.1))) hb); replace HO460 := Aside0.mk (Kd.R_below z68_ hb); have HO469 := Aside0.mk (Kd.R_lower (Kd.R_new' ho0 (Kd.R_lt z53_)) (keep_size (w := w) (g := g) (row := none) z38_)); replace HO_8 := Aside0.mk (Kd.R_elder' z53_ (Kd.R_base ho0) hb); replace BK466 := Aside0.mk (blk_below (g := gb466) (o := .cells #[.int .i64 t457, .slice Ao19 t458.length co19, .int .i64 t461, .int .i64 t462, .int .i64 t463] 78 (0, 0)) (by (with_reducible repeat (first | refine blk_drewN ?_ _ | refine blk_drew ?_ | refine blk_alloc ?_ _)); refine blk_put (cs := #[.int .i64 t457, .slice Ao19 t458.length co19, .int .i64 t461, .int .i64 t462, .int .i64 0]) ?_ 4 _ rfl; (with_reducible repeat (first | refine blk_drewN ?_ _ | refine blk_drew ?_ | refine blk_alloc ?_ _)); refine blk_put (cs := #[.int .i64 t457, .slice Ao19 t458.length co19, .int .i64 t461, .int .i64 0, .int .i64 0]) ?_ 3 _ rfl; (with_reducible repeat (first | refine blk_drewN ?_ _ | refine blk_drew ?_ | refine blk_alloc ?_ _)); refine blk_put (cs := #[.int .i64 t457, .slice Ao19 t458.length co19, .int .i64 0, .int .i64 0, .int .i64 0]) ?_ 2 _ rfl; (with_reducible repeat (first | refine blk_drewN ?_ _ | refine blk_drew ?_ | refine blk_alloc ?_ _)); refine blk_put (cs := #[.int .i64 t457, .slice none 0 0, .int .i64 0, .int .i64 0, .int .i64 0]) ?_ 1 _ rfl; (with_reducible repeat (first | refine blk_drewN ?_ _ | refine blk_drew ?_ | refine blk_alloc ?_ _)); refine blk_put (cs := #[.int .i64 0, .slice none 0 0, .int .i64 0, .int .i64 0, .int .i64 0]) ?_ 0 _ rfl; (with_reducible repeat (first | refine blk_drewN ?_ _ | refine blk_drew ?_ | refine blk_alloc ?_ _)); exact BK466.out) hb); replace HK := Aside0.mk (KeepBut.trans z38_ (KeepBut.of_below hb g none) (.inl rfl)); replace HB := Aside0.mk (below_step z43_ hb); replace HI0 := Aside0.mk (IsS126.below (show IsS126 w0 (((((w16.setCell ⟨gb466, 0, none⟩ (.int .i64 t457)).setCell ⟨gb466, 1, none⟩ (.slice Ao19 t458.length co19)).setCell ⟨gb466, 2, none⟩ (.int .i64 t461)).setCell ⟨gb466, 3, none⟩ (.int .i64 t462)).setCell ⟨gb466, 4, none⟩ (.int .i64 t463)) g s0_0 t464 t465 from by repeat (first | (with_reducible first | exact HI0.out | apply IsS126.alloc | apply IsS126.drewN | apply IsS126.drew | apply IsS126.set_1 | apply IsS126.set_2 | refine IsS126.far ?_ NB0_466.out _) | exact HI0.out)) hb); (try clear hb ho0)))
    (try simp only [Act.put, List.setIfInBounds_toArray, List.set_cons_zero, List.set_cons_succ])
    go_cut [37] (fun v37 wc => ∃ (kq : Nat) (x37_12 : Bool) (x1001_12 : Int) (x1002_12 : Int), v37 = .bool x37_12 ∧ Aside0 (spec_l13Script.j1 kq x7_1 x8_1 x9_1 t467 t470 x37_12 s0_0 x1001_12 x1002_12 t457 t458 t461 t462 t463 = some (r1, r2, r3)) ∧ Aside0 (kq ≤ k1) ∧ Aside0 (Kd.S k78 78 wc w.heap.size (fun k_ => some k_ ≠ ((.slice Ao19 t458.length co19) : Value).ownBlock ∧ k_ ≠ gb466) u7 x7_1) ∧ Aside0 (Kd.R k80 80 wc w.heap.size (fun k_ => some k_ ≠ (v468 : Value).ownBlock) (.slice Ao14 x8_1.length co14) x8_1) ∧ Aside0 (Kd.R k80 80 wc w.heap.size (fun k_ => some k_ ≠ ((.slice Ao14 x8_1.length co14) : Value).ownBlock) v468 t467) ∧ Aside0 (Kd.R (Kd.int .i64) 3 wc w.heap.size (fun _ => True) (.slice Ao19 t458.length co19) t458) ∧ Aside0 (wc.heap[gb466]? = some (.cells #[.int .i64 t457, (.slice Ao19 t458.length co19), .int .i64 t461, .int .i64 t462, .int .i64 t463] 78 (0, 0))) ∧ Aside0 (IsS126 w0 wc g s0_0 x1001_12 x1002_12) ∧ Aside0 (KeepBut w wc g none) ∧ Aside0 (Below w0.heap.size w0 wc))
    case first =>
     have H := HC13.out
     clear HC13
     by_cases c21 : t470 = 0
     ·rw [if_pos c21] at H
      have c21b0 : (t470 == 0) = true := beq_iff_eq.mpr c21
      have c21b1 : (t470 != 0) = false := bne_eq_false_iff_eq.mpr c21
      clear c21
      (first | rw [c21b0] | rw [c21b1] | (simp only [i64_w, i32_w]; rw [c21b0]) | skip)
      have H' := Aside0.mk H
      clear H
      go_wp2
      go_meet
      case rel => exact ⟨_, (true), (t464), (t465), z11_, H', ⟨z202_⟩, ⟨z186_⟩, ⟨z195_⟩, ⟨z194_⟩, ⟨z144_⟩, ⟨z93_⟩, ⟨z45_⟩, ⟨z38_⟩, ⟨z43_⟩⟩
     ·rw [if_neg c21] at H
      have c21b0 : (t470 == 0) = false := beq_eq_false_iff_ne.mpr c21
      have c21b1 : (t470 != 0) = true := bne_iff_ne.mpr c21
      (first | rw [c21b0] | rw [c21b1] | (simp only [i64_w, i32_w]; rw [c21b0]) | skip)
      replace H := Option.bind_eq_some_iff.mp H
      obtain ⟨⟨t471, t472, t473⟩, A220, H⟩ := H
      try dsimp only at H
      have A22 := Aside0.mk A220
      clear A220
      have H' := Aside0.mk H
      clear H
      go_wp2_with (first | (go_at_call 113; (with_reducible refine (spec_l1Once.calls g s0_0 t464 t465 3 t471 t472 t473 w0 _ ?side1 ?side2 A22.out).mono ?_); (case side1 => exact z45_); (case side2 => exact z43_); rintro e w23 ⟨rfl, hi, hb, hk⟩; replace HO_7 := Aside0.mk (Kd.S_mono (Kd.S_keep (IsS126.apartS (show IsS126 w0 _ g s0_0 t464 t465 from by repeat (first | (with_reducible first | exact HI0.out | apply IsS126.alloc | apply IsS126.drewN | apply IsS126.drew | apply IsS126.set_1 | apply IsS126.set_2 | refine IsS126.far ?_ NB0_466.out _) | exact HI0.out)) z91_ (by decide)) hk (fun _ h => h.2)) (fun _ h => h.1)); replace HO_8 := Aside0.mk (Kd.R_mono (Kd.R_keep (IsS126.apart (show IsS126 w0 _ g s0_0 t464 t465 from by repeat (first | (with_reducible first | exact HI0.out | apply IsS126.alloc | apply IsS126.drewN | apply IsS126.drew | apply IsS126.set_1 | apply IsS126.set_2 | refine IsS126.far ?_ NB0_466.out _) | exact HI0.out)) z41_ (by decide)) hk (fun _ h => h.2)) (fun _ h => h.1)); replace HO460 := Aside0.mk (Kd.R_mono (Kd.R_keep (IsS126.apart (show IsS126 w0 _ g s0_0 t464 t465 from by repeat (first | (with_reducible first | exact HI0.out | apply IsS126.alloc | apply IsS126.drewN | apply IsS126.drew | apply IsS126.set_1 | apply IsS126.set_2 | refine IsS126.far ?_ NB0_466.out _) | exact HI0.out)) z144_ (by decide)) hk (fun _ h => h.2)) (fun _ h => h.1)); replace BK466 := Aside0.mk (KeepBut.blk hk (g' := gb466) (o := .cells #[.int .i64 t457, .slice Ao19 t458.length co19, .int .i64 t461, .int .i64 t462, .int .i64 t463] 78 (0, 0)) z93_ NB466_0.out (by simp)); replace HO469 := Aside0.mk (Kd.R_mono (Kd.R_keep (IsS126.apart (show IsS126 w0 _ g s0_0 t464 t465 from by repeat (first | (with_reducible first | exact HI0.out | apply IsS126.alloc | apply IsS126.drewN | apply IsS126.drew | apply IsS126.set_1 | apply IsS126.set_2 | refine IsS126.far ?_ NB0_466.out _) | exact HI0.out)) (by (with_reducible repeat (first | apply Kd.R_alloc | apply Kd.R_drewN | apply Kd.R_drew)); exact HO469.out) (by decide)) hk (fun _ h => h.2)) (fun _ h => h.1)); replace HK := Aside0.mk (KeepBut.trans z38_ hk (.inl rfl)); replace HB := Aside0.mk (hb); replace HI0 := Aside0.mk (hi); (try clear hb hk hi)))
      go_meet
      case rel => exact ⟨_, (t471), (t472), (t473), z11_, H', ⟨z202_⟩, ⟨z186_⟩, ⟨z195_⟩, ⟨z194_⟩, ⟨z144_⟩, ⟨z93_⟩, ⟨z45_⟩, ⟨z38_⟩, ⟨z43_⟩⟩
    case rest =>
     clear HC13
     try clear c1
     try clear c2
     try clear p2
     try clear c4
     try clear c7
     try clear c10
     try clear c10b0
     try clear c11
     try clear c17
     try clear c21
     try clear c21b0
     try clear c21b1
     try clear hcz18_0
     try clear hcz18_1
     try clear hcz18_2
     try clear hcz18_3
     try clear hcz18_4
     try clear hfz18_0
     try clear hfz18_1
     try clear hfz18_2
     try clear hfz18_3
     try clear hfz18_4
     try clear p2
     obtain ⟨kq, x37_12, x1001_12, x1002_12, rfl, HA, HJ12, HO_7, HO_8, HO_11, HO_467001, BK466, HI0, HK, HB⟩ := hcut
     cases kq with
     | zero => exact absurd HA.out (by simp [spec_l13Script.j1])
     | succ kj12 =>
      have H := HA.out
      clear HA
      simp only [spec_l13Script.j1] at H
      by_cases c24 : x37_12 = true
      ·subst c24
       replace H := ift_ H
       obtain ⟨c25, H⟩ := ifs_ H
       have LMc25 := Aside0.mk c25
       clear c25
       first | ((with_reducible have hz_ := gy_ H); obtain ⟨y474, Ny474, H⟩ := hz_) | (generalize hy_ : (x7_1 ++ [(⟨t457, t458, t461, t462, t463⟩ : S78)]) = y474 at H; have Ny474 := Aside0.mk hy_.symm; clear hy_)
       by_cases c26 : t470 = 0
       ·rw [if_pos c26] at H
        have c26b0 : (t470 == 0) = true := beq_iff_eq.mpr c26
        have c26b1 : (t470 != 0) = false := bne_eq_false_iff_eq.mpr c26
        clear c26
        have H' := Aside0.mk H
        clear H
        have hnb27 := NB466_0.out
        have hnc27 := NB0_466.out
        obtain ⟨hcz28_0, hcz28_1, hcz28_2, hcz28_3, hcz28_4, hfz28_0, hfz28_1, hfz28_2, hfz28_3, hfz28_4⟩ := bx5_ BK466.out
        go_wp2_with (first | ((with_reducible refine gate_builtin (b := .append) (xs := #[.tmp 38, .tmp 40]) rfl ?_); at_builtin; refine Kd.S_append k78 w.heap.size rfl (.tmp 38) (.tmp 40) 26 78 (.agg #[(.int .i64 0), (.slice none 0 0), (.int .i64 0), (.int .i64 0), (.int .i64 0)]) 56 rfl Try.underlying26 info78 rfl (by decide) (by omega) u7 x7_1 (⟨t457, t458, t461, t462, t463⟩ : S78) [.int .i64 t457, .slice Ao19 t458.length co19, .int .i64 t461, .int .i64 t462, .int .i64 t463] (fun k_ => k_ ≠ gb466) (fun k_ => some k_ = (.slice Ao19 t458.length co19 : Value).ownBlock) rfl rfl ?aP (fun k_ hk_ => ((Kd.R_mono (ok' := fun k_ => ((fun k_ => k_ ≠ gb466)) k_ ∧ some k_ ≠ (u7 : Value).ownBlock) (Kd.R_types (Kd.R_apart' (HO_467001.out) (Kd.S_typed HO_7.out) (by decide)) BK466.out (by decide)) (fun k_ hk => ⟨hk.2, hk.1.2⟩))).1 k_ hk_.symm) ?aF ?aO (Below.refl _ _) ?aS ?aL ?_; (case aP => exact z110_); (case aF => exact z119_); (case aO => exact z169_); (case aS => exact z133_); (case aL => have := LMc25.out; omega); intro v475 w29 ho hb hg hat; rw [← Ny474.out] at ho; replace HO_8 := Aside0.mk (Kd.R_over' z41_ (Kd.S_typed z91_) (by decide) hg); replace HO_11 := Aside0.mk (Kd.R_over' z210_ (Kd.S_typed z91_) (by decide) hg); replace BK466 := Aside0.mk (blk_grown (g := gb466) (o := .cells #[.int .i64 t457, .slice Ao19 t458.length co19, .int .i64 t461, .int .i64 t462, .int .i64 t463] 78 (0, 0)) z93_ hg (Kd.S_away HO_7.out (fun _ hk => hk.2))); replace HB := Aside0.mk (below_weaken z43_ HL.out hb); replace HI0 := Aside0.mk (IsS126.grown z45_ hg (IsS126.own_neS HI0.out HO_7.out (by decide))); replace HK := Aside0.mk (KeepBut.trans z38_ (KeepBut.of_grown hg g) (Kd.S_base2 HO_7.out)); have HO476 := Aside0.mk (ho); clear HO_7 HO_467001; clear ho hb hg hat))
        go_roundg kj12
        case measure => have := HK1.out; have := HJ12.out; omega
        case rel => exact ⟨(y474), (t467), (wrap64 (x9_1 - 1)), (x1001_12), (x1002_12), z11_, H', ⟨z217_⟩, ⟨z188_⟩, ⟨z189_⟩, ⟨z45_⟩, ⟨z38_⟩, ⟨z43_⟩⟩
       ·rw [if_neg c26] at H
        have c26b0 : (t470 == 0) = false := beq_eq_false_iff_ne.mpr c26
        have c26b1 : (t470 != 0) = true := bne_iff_ne.mpr c26
        have H' := Aside0.mk H
        clear H
        have hnb30 := NB466_0.out
        have hnc30 := NB0_466.out
        obtain ⟨hcz31_0, hcz31_1, hcz31_2, hcz31_3, hcz31_4, hfz31_0, hfz31_1, hfz31_2, hfz31_3, hfz31_4⟩ := bx5_ BK466.out
        go_wp2_with (first | ((with_reducible refine gate_builtin (b := .append) (xs := #[.tmp 38, .tmp 40]) rfl ?_); at_builtin; refine Kd.S_append k78 w.heap.size rfl (.tmp 38) (.tmp 40) 26 78 (.agg #[(.int .i64 0), (.slice none 0 0), (.int .i64 0), (.int .i64 0), (.int .i64 0)]) 56 rfl Try.underlying26 info78 rfl (by decide) (by omega) u7 x7_1 (⟨t457, t458, t461, t462, t463⟩ : S78) [.int .i64 t457, .slice Ao19 t458.length co19, .int .i64 t461, .int .i64 t462, .int .i64 t463] (fun k_ => k_ ≠ gb466) (fun k_ => some k_ = (.slice Ao19 t458.length co19 : Value).ownBlock) rfl rfl ?aP (fun k_ hk_ => ((Kd.R_mono (ok' := fun k_ => ((fun k_ => k_ ≠ gb466)) k_ ∧ some k_ ≠ (u7 : Value).ownBlock) (Kd.R_types (Kd.R_apart' (HO_467001.out) (Kd.S_typed HO_7.out) (by decide)) BK466.out (by decide)) (fun k_ hk => ⟨hk.2, hk.1.2⟩))).1 k_ hk_.symm) ?aF ?aO (Below.refl _ _) ?aS ?aL ?_; (case aP => exact z110_); (case aF => exact z119_); (case aO => exact z169_); (case aS => exact z133_); (case aL => have := LMc25.out; omega); intro v475 w32 ho hb hg hat; rw [← Ny474.out] at ho; replace HO_8 := Aside0.mk (Kd.R_over' z41_ (Kd.S_typed z91_) (by decide) hg); replace HO_11 := Aside0.mk (Kd.R_over' z210_ (Kd.S_typed z91_) (by decide) hg); replace BK466 := Aside0.mk (blk_grown (g := gb466) (o := .cells #[.int .i64 t457, .slice Ao19 t458.length co19, .int .i64 t461, .int .i64 t462, .int .i64 t463] 78 (0, 0)) z93_ hg (Kd.S_away HO_7.out (fun _ hk => hk.2))); replace HB := Aside0.mk (below_weaken z43_ HL.out hb); replace HI0 := Aside0.mk (IsS126.grown z45_ hg (IsS126.own_neS HI0.out HO_7.out (by decide))); replace HK := Aside0.mk (KeepBut.trans z38_ (KeepBut.of_grown hg g) (Kd.S_base2 HO_7.out)); have HO476 := Aside0.mk (ho); clear HO_7 HO_467001; clear ho hb hg hat))
        go_roundg kj12
        case measure => have := HK1.out; have := HJ12.out; omega
        case rel => exact ⟨(y474), (x8_1), (wrap64 (x9_1 - 1)), (x1001_12), (x1002_12), z11_, H', ⟨z217_⟩, ⟨z188_⟩, ⟨z190_⟩, ⟨z45_⟩, ⟨z38_⟩, ⟨z43_⟩⟩
      ·replace c24 := Bool.eq_false_iff.mpr c24
       subst c24
       replace H := iff_ H
       by_cases c33 : t470 = 0
       ·rw [if_pos c33] at H
        have c33b0 : (t470 == 0) = true := beq_iff_eq.mpr c33
        have c33b1 : (t470 != 0) = false := bne_eq_false_iff_eq.mpr c33
        clear c33
        have H' := Aside0.mk H
        clear H
        go_wp2
        go_roundg kj12
        case measure => have := HK1.out; have := HJ12.out; omega
        case rel => exact ⟨(x7_1), (t467), (wrap64 (x9_1 - 1)), (x1001_12), (x1002_12), z11_, H', ⟨z217_⟩, ⟨z191_⟩, ⟨z189_⟩, ⟨z45_⟩, ⟨z38_⟩, ⟨z43_⟩⟩
       ·rw [if_neg c33] at H
        have c33b0 : (t470 == 0) = false := beq_eq_false_iff_ne.mpr c33
        have c33b1 : (t470 != 0) = true := bne_iff_ne.mpr c33
        have H' := Aside0.mk H
        clear H
        go_wp2
        go_roundg kj12
        case measure => have := HK1.out; have := HJ12.out; omega
        case rel => exact ⟨(x7_1), (x8_1), (wrap64 (x9_1 - 1)), (x1001_12), (x1002_12), z11_, H', ⟨z217_⟩, ⟨z191_⟩, ⟨z190_⟩, ⟨z45_⟩, ⟨z38_⟩, ⟨z43_⟩⟩
   ·rw [if_neg c10] at H
    have c10b0 := decide_eq_false c10
    clear c10
    simp only [Option.some.injEq, Prod.mk.injEq] at H
    obtain ⟨rfl, rfl, rfl⟩ := H
    go_wp2
    go_ret
    exact ⟨_, z6_, z91_, z3_, z4_, z2_⟩

/-! ### spec_DrawApplyAll: function 32 -/
def spec_DrawApplyAll.f (k : Nat) (l0 : List Int) : Option ((List (S80)) × (List (S78))) := (spec_l1New.f k l0).bind fun bt477 => ((spec_l3Any.f k bt477.1 bt477.2.1 bt477.2.2 8).bind fun bt481 => ((spec_l13Script.f k bt477.1 bt481.2.1 bt481.2.2 bt481.1 7).bind fun bt486 => (some (bt481.1, bt486.1))))
set_option maxHeartbeats 8000000 in
set_option maxRecDepth 100000 in
theorem spec_DrawApplyAll.calls (k : Nat) (A0 : Option Addr) (c0 : Nat) (l0 : List Int) (r1 : List (S80)) (r2 : List (S78)) (w : World) (hr0 : Kd.C (Kd.int .u8) w A0 l0.length l0) (hc0 : l0.length ≤ c0) (h : spec_DrawApplyAll.f k l0 = some (r1, r2)) :
  Calls Try.prog 32 #[.slice A0 l0.length c0] w fun e w' => ∃ v0_ v1_ : Value, e = .returned (.tuple #[v0_, v1_]) ∧ Kd.Q k80 80 w' w.heap.size (fun _ => True) v0_ r1 ∧ Kd.S k78 78 w' w.heap.size (fun _ => True) v1_ r2 ∧ Below w.heap.size w w' := by
 have HR0 := Aside0.mk hr0
 have HC0 := Aside0.mk hc0
 clear hr0 hc0
 have HB := Aside0.mk (Below.refl w.heap.size w)
 have H : ((spec_l1New.f k l0).bind fun bt477 => ((spec_l3Any.f k bt477.1 bt477.2.1 bt477.2.2 8).bind fun bt481 => ((spec_l13Script.f k bt477.1 bt481.2.1 bt481.2.2 bt481.1 7).bind fun bt486 => (some (bt481.1, bt486.1))))) = some (r1, r2) := h
 clear h
 replace H := Option.bind_eq_some_iff.mp H
 obtain ⟨⟨t477, t478, t479⟩, A20, H⟩ := H
 try dsimp only at H
 have A2 := Aside0.mk A20
 clear A20
 replace H := Option.bind_eq_some_iff.mp H
 obtain ⟨⟨t481, t484, t485⟩, A30, H⟩ := H
 try dsimp only at H
 have A3 := Aside0.mk A30
 clear A30
 replace H := Option.bind_eq_some_iff.mp H
 obtain ⟨⟨t486, t489, t490⟩, A40, H⟩ := H
 try dsimp only at H
 have A4 := Aside0.mk A40
 clear A40
 simp only [Option.some.injEq, Prod.mk.injEq] at H
 obtain ⟨rfl, rfl⟩ := H
 go_enter Try.func32, Try.ntmps32
 go_wp2_with (first | ((with_reducible refine gate_callee (f := 70) rfl ?_); refine goesL_ (some 7) rfl rfl Try.func70 (by kernel_rfl) rfl #[.slice A0 l0.length c0] rfl z1_ ?_; (with_reducible refine (spec_l1New.calls k _ _ l0 t477 t478 t479 w _ ?side1 ?side2 ?side3 A2.out).mono ?_); (case side1 => exact z0_); (case side2 => exact HR0.out); (case side3 => exact HC0.out); rintro e w5 ⟨g480, rfl, hi, hb, hb2⟩; refine ⟨_, rfl, ?_⟩; replace HB := Aside0.mk (hb); have HI480 := Aside0.mk (hi); (try clear hb hb2 hi)) | ((with_reducible refine gate_callee (f := 71) rfl ?_); refine goesL_ (some 9) rfl rfl Try.func71 (by kernel_rfl) rfl #[.pointer (some ⟨g480, 0, none⟩), .int .i64 8] rfl z1_ ?_; (with_reducible refine (spec_l3Any.calls k g480 t477 t478 t479 8 t481 t484 t485 w _ ?side1 ?side2 A3.out).mono ?_); (case side1 => exact z154_); (case side2 => exact z80_); rintro e w6 ⟨v482, rfl, ho0, hi, hb, hk⟩; refine ⟨_, rfl, ?_⟩; have HO483 := Aside0.mk (Kd.Q_lower ho0 (below_size z80_)); replace HB := Aside0.mk (hb); replace HI480 := Aside0.mk (hi); (try clear hb hk hi ho0); obtain ⟨Ao7, co7, eo7, _⟩ := Kd.Q_slice HO483.out; subst eo7) | ((with_reducible refine gate_callee (f := 72) rfl ?_); refine goesL_ (some 13) rfl rfl Try.func72 (by kernel_rfl) rfl #[.pointer (some ⟨g480, 0, none⟩), .slice Ao7 t481.length co7, .int .i64 7] rfl z1_ ?_; (with_reducible refine (spec_l13Script.calls k g480 t477 t484 t485 _ _ t481 7 t486 t489 t490 w _ ?side1 ?side2 ?side3 ?side4 A4.out).mono ?_); (case side1 => exact z154_); (case side2 => exact z80_); (case side3 => exact Kd.C_foot_ownQ (IsS126.apartQ (show IsS126 w _ g480 t477 t484 t485 from by repeat (first | (with_reducible first | exact HI480.out | apply IsS126.alloc | apply IsS126.drewN | apply IsS126.drew | apply IsS126.set_1 | apply IsS126.set_2) | exact HI480.out)) z173_ (by decide)) (fun _ h_ => h_.2)); (case side4 => exact (Kd.Q_reads' HO483.out).2.1); rintro e w8 ⟨v487, rfl, ho0, hi, hb, hk⟩; refine ⟨_, rfl, ?_⟩; replace HO483 := Aside0.mk (Kd.Q_mono (Kd.Q_keep (IsS126.apartQ (show IsS126 w _ g480 t477 t484 t485 from by repeat (first | (with_reducible first | exact HI480.out | apply IsS126.alloc | apply IsS126.drewN | apply IsS126.drew | apply IsS126.set_1 | apply IsS126.set_2) | exact HI480.out)) z173_ (by decide)) hk (fun _ h => h.2)) (fun _ h => h.1)); have HO488 := Aside0.mk (Kd.S_lower ho0 (below_size z80_)); replace HB := Aside0.mk (hb); replace HI480 := Aside0.mk (hi); (try clear hb hk hi ho0)))
 go_ret2
 exact ⟨_, _, z6_, z173_, by (with_reducible repeat (first | apply Kd.S_alloc | apply Kd.S_drewN | apply Kd.S_drew)); exact HO488.out, z80_⟩

/-! ### spec_l15Script: function 73 -/
def spec_l15Script.l0 : Nat → List (S78) → List Int → Int → Int → Option ((List (S78)) × Int × Int)
 | 0, _, _, _, _ => none
 | k + 1, x4, x1000, x1001, x1002 => (spec_l1Below.f x1000 x1001 x1002 2).bind fun bt504 => (if (x4.length : Int) < (wrap64 (60 + bt504.1)) then (if x4.length < 2513169434916 then (spec_l15Script.l0 k (x4 ++ [(⟨1, ([] : List Int), 0, 0, 0⟩ : S78)]) x1000 bt504.2.1 bt504.2.2) else (none)) else (some (x4, bt504.2.1, bt504.2.2)))
def spec_l15Script.f (k : Nat) (s0_0 : List Int) (s0_1 : Int) (s0_2 : Int) : Option ((List (S78)) × Int × Int) := (spec_l3Tree.f k s0_0 s0_1 s0_2 8).bind fun bt491 => ((spec_l13Script.f k s0_0 bt491.2.1 bt491.2.2 bt491.1 7).bind fun bt496 => ((spec_l1Once.f s0_0 bt496.2.1 bt496.2.2 14).bind fun bt501 => (if bt501.1 = true then (spec_l15Script.l0 k bt496.1 s0_0 bt501.2.1 bt501.2.2) else (some (bt496.1, bt501.2.1, bt501.2.2)))))
set_option maxHeartbeats 8000000 in
set_option maxRecDepth 100000 in
theorem spec_l15Script.calls (k : Nat) (g : Nat) (s0_0 : List Int) (s0_1 : Int) (s0_2 : Int) (r1 : List (S78)) (r2 : Int) (r3 : Int) (w0 w : World) (hI : IsS126 w0 w g s0_0 s0_1 s0_2) (hB : Below w0.heap.size w0 w) (h : spec_l15Script.f k s0_0 s0_1 s0_2 = some (r1, r2, r3)) :
  Calls Try.prog 73 #[.pointer (some ⟨g, 0, none⟩)] w fun e w' => ∃ v0_ : Value, e = .returned (v0_) ∧ Kd.S k78 78 w' w.heap.size (fun _ => True) v0_ r1 ∧ IsS126 w0 w' g s0_0 r2 r3 ∧ Below w0.heap.size w0 w' ∧ KeepBut w w' g none := by
 have hu78 := Try.underlying78
 have HI0 := Aside0.mk hI
 have HK := Aside0.mk (KeepBut.refl w g none)
 have HL := Aside0.mk hB.size
 clear hI
 have HW0 := Aside0.mk hB.size
 have HB := Aside0.mk hB
 clear hB
 have H : ((spec_l3Tree.f k s0_0 s0_1 s0_2 8).bind fun bt491 => ((spec_l13Script.f k s0_0 bt491.2.1 bt491.2.2 bt491.1 7).bind fun bt496 => ((spec_l1Once.f s0_0 bt496.2.1 bt496.2.2 14).bind fun bt501 => (if bt501.1 = true then (spec_l15Script.l0 k bt496.1 s0_0 bt501.2.1 bt501.2.2) else (some (bt496.1, bt501.2.1, bt501.2.2)))))) = some (r1, r2, r3) := h
 clear h
 replace H := Option.bind_eq_some_iff.mp H
 obtain ⟨⟨t491, t494, t495⟩, A20, H⟩ := H
 try dsimp only at H
 have A2 := Aside0.mk A20
 clear A20
 replace H := Option.bind_eq_some_iff.mp H
 obtain ⟨⟨t496, t499, t500⟩, A30, H⟩ := H
 try dsimp only at H
 have A3 := Aside0.mk A30
 clear A30
 replace H := Option.bind_eq_some_iff.mp H
 obtain ⟨⟨t501, t502, t503⟩, A40, H⟩ := H
 try dsimp only at H
 have A4 := Aside0.mk A40
 clear A40
 by_cases c5 : t501 = true
 ·subst c5
  replace H := ift_ H
  have H' := Aside0.mk H
  clear H
  go_enter Try.func73, Try.ntmps73
  go_wp2_with (first | ((with_reducible refine gate_callee (f := 108) rfl ?_); refine goesL_ (some 6) rfl rfl Try.func108 (by kernel_rfl) rfl #[.pointer (some ⟨g, 0, none⟩), .int .i64 8] rfl z1_ ?_; (with_reducible refine (spec_l3Tree.calls k g s0_0 s0_1 s0_2 8 t491 t494 t495 w0 _ ?side1 ?side2 A2.out).mono ?_); (case side1 => exact z3_); (case side2 => exact z4_); rintro e w6 ⟨v492, rfl, ho0, hi, hb, hk⟩; refine ⟨_, rfl, ?_⟩; have HO493 := Aside0.mk (Kd.R_lower ho0 (keep_size (w := w) (g := g) (row := none) z2_)); replace HK := Aside0.mk (KeepBut.trans z2_ hk (.inl rfl)); replace HB := Aside0.mk (hb); replace HI0 := Aside0.mk (hi); (try clear hb hk hi ho0); obtain ⟨Ao7, co7, eo7⟩ := Kd.R_slice HO493.out; subst eo7) | ((with_reducible refine gate_callee (f := 72) rfl ?_); refine goesL_ (some 9) rfl rfl Try.func72 (by kernel_rfl) rfl #[.pointer (some ⟨g, 0, none⟩), .slice Ao7 t491.length co7, .int .i64 7] rfl z1_ ?_; (with_reducible refine (spec_l13Script.calls k g s0_0 t494 t495 _ _ t491 7 t496 t499 t500 w0 _ ?side1 ?side2 ?side3 ?side4 A3.out).mono ?_); (case side1 => exact z3_); (case side2 => exact z4_); (case side3 => exact z97_); (case side4 => exact (Kd.R_reads' HO493.out).2.1); rintro e w8 ⟨v497, rfl, ho0, hi, hb, hk⟩; refine ⟨_, rfl, ?_⟩; replace HO493 := Aside0.mk (Kd.R_mono (Kd.R_keep (IsS126.apart (show IsS126 w0 _ g s0_0 t494 t495 from by repeat (first | (with_reducible first | exact HI0.out | apply IsS126.alloc | apply IsS126.drewN | apply IsS126.drew | apply IsS126.set_1 | apply IsS126.set_2) | exact HI0.out)) z114_ (by decide)) hk (fun _ h => h.2)) (fun _ h => h.1)); have HO498 := Aside0.mk (Kd.S_lower ho0 (keep_size (w := w) (g := g) (row := none) z2_)); replace HK := Aside0.mk (KeepBut.trans z2_ hk (.inl rfl)); replace HB := Aside0.mk (hb); replace HI0 := Aside0.mk (hi); (try clear hb hk hi ho0)) | ((with_reducible refine gate_callee (f := 113) rfl ?_); refine goesL_ (some 11) rfl rfl Try.func113 (by kernel_rfl) rfl #[.pointer (some ⟨g, 0, none⟩), .int .i64 14] rfl z1_ ?_; (with_reducible refine (spec_l1Once.calls g s0_0 t499 t500 14 true t502 t503 w0 _ ?side1 ?side2 A4.out).mono ?_); (case side1 => exact z3_); (case side2 => exact z4_); rintro e w9 ⟨rfl, hi, hb, hk⟩; refine ⟨_, rfl, ?_⟩; replace HO493 := Aside0.mk (Kd.R_mono (Kd.R_keep (IsS126.apart (show IsS126 w0 _ g s0_0 t499 t500 from by repeat (first | (with_reducible first | exact HI0.out | apply IsS126.alloc | apply IsS126.drewN | apply IsS126.drew | apply IsS126.set_1 | apply IsS126.set_2) | exact HI0.out)) z114_ (by decide)) hk (fun _ h => h.2)) (fun _ h => h.1)); replace HO498 := Aside0.mk (Kd.S_mono (Kd.S_keep (IsS126.apartS (show IsS126 w0 _ g s0_0 t499 t500 from by repeat (first | (with_reducible first | exact HI0.out | apply IsS126.alloc | apply IsS126.drewN | apply IsS126.drew | apply IsS126.set_1 | apply IsS126.set_2) | exact HI0.out)) z145_ (by decide)) hk (fun _ h => h.2)) (fun _ h => h.1)); replace HK := Aside0.mk (KeepBut.trans z2_ hk (.inl rfl)); replace HB := Aside0.mk (hb); replace HI0 := Aside0.mk (hi); (try clear hb hk hi)))
  (try simp only [Act.put, List.setIfInBounds_toArray, List.set_cons_zero, List.set_cons_succ])
  go_loopg [4] k (fun kq v4 w' => ∃ (x4_1 : List (S78)) (x1001_1 : Int) (x1002_1 : Int), Aside0 (spec_l15Script.l0 kq x4_1 s0_0 x1001_1 x1002_1 = some (r1, r2, r3)) ∧ Aside0 (kq ≤ k) ∧ Aside0 (Kd.S k78 78 w' w.heap.size (fun _ => True) v4 x4_1) ∧ Aside0 (IsS126 w0 w' g s0_0 x1001_1 x1002_1) ∧ Aside0 (KeepBut w w' g none) ∧ Aside0 (Below w0.heap.size w0 w'))
  case atStart => exact ⟨(t496), (t502), (t503), H', ⟨Nat.le_refl _⟩, ⟨z145_⟩, ⟨z3_⟩, ⟨z2_⟩, ⟨z4_⟩⟩
  case round =>
   clear H'
   try clear c1
   try clear p2
   try clear c5
   try clear c7
   obtain ⟨x4_1, x1001_1, x1002_1, HA, HK1, HO_4, HI0, HK, HB⟩ := hrel
   cases gk with
   | zero => exact absurd HA.out (by simp [spec_l15Script.l0])
   | succ k1 =>
    have H := HA.out
    clear HA
    simp only [spec_l15Script.l0] at H
    replace H := Option.bind_eq_some_iff.mp H
    obtain ⟨⟨t504, t505, t506⟩, A100, H⟩ := H
    try dsimp only at H
    have A10 := Aside0.mk A100
    clear A100
    by_cases c11 : (x4_1.length : Int) < (wrap64 (60 + t504))
    ·rw [if_pos c11] at H
     have c11b0 := decide_eq_true c11
     clear c11
     obtain ⟨c12, H⟩ := ifs_ H
     have LMc12 := Aside0.mk c12
     clear c12
     first | ((with_reducible have hz_ := gy_ H); obtain ⟨y507, Ny507, H⟩ := hz_) | (generalize hy_ : (x4_1 ++ [(⟨1, ([] : List Int), 0, 0, 0⟩ : S78)]) = y507 at H; have Ny507 := Aside0.mk hy_.symm; clear hy_)
     have H' := Aside0.mk H
     clear H
     obtain ⟨Ao13, co13, eo13⟩ := Kd.S_slice HO_4.out
     subst eo13
     go_wp2_with (first | ((with_reducible refine gate_callee (f := 109) rfl ?_); refine goesL_ (some 15) rfl rfl Try.func109 (by kernel_rfl) rfl #[.pointer (some ⟨g, 0, none⟩), .int .i64 2] rfl z1_ ?_; (with_reducible refine (spec_l1Below.calls g s0_0 x1001_1 x1002_1 2 t504 t505 t506 w0 _ ?side1 ?side2 A10.out).mono ?_); (case side1 => exact z3_); (case side2 => exact z4_); rintro e w14 ⟨rfl, hi, hb, hk⟩; refine ⟨_, rfl, ?_⟩; replace HO_4 := Aside0.mk (Kd.S_mono (Kd.S_keep (IsS126.apartS (show IsS126 w0 _ g s0_0 x1001_1 x1002_1 from by repeat (first | (with_reducible first | exact HI0.out | apply IsS126.alloc | apply IsS126.drewN | apply IsS126.drew | apply IsS126.set_1 | apply IsS126.set_2) | exact HI0.out)) z178_ (by decide)) hk (fun _ h => h.2)) (fun _ h => h.1)); replace HK := Aside0.mk (KeepBut.trans z2_ hk (.inl rfl)); replace HB := Aside0.mk (hb); replace HI0 := Aside0.mk (hi); (try clear hb hk hi)) | ((with_reducible refine gate_builtin (b := .append) (xs := #[.tmp 18, .tmp 20]) rfl ?_); at_builtin; refine Kd.S_append k78 w.heap.size rfl (.tmp 18) (.tmp 20) 26 78 (.agg #[(.int .i64 0), (.slice none 0 0), (.int .i64 0), (.int .i64 0), (.int .i64 0)]) 56 rfl Try.underlying26 info78 rfl (by decide) (by omega) (.slice Ao13 x4_1.length co13) x4_1 (⟨1, ([] : List Int), 0, 0, 0⟩ : S78) [.int .i64 1, .slice none 0 0, .int .i64 0, .int .i64 0, .int .i64 0] (fun _ => True) (fun _ => False) rfl rfl ?aP (fun k_ hk_ => hk_.elim) ?aF ?aO (Below.refl _ _) ?aS ?aL ?_; (case aP => exact k78_mkM _ _ _ (⟨1, ([] : List Int), 0, 0, 0⟩ : S78) (Kd.R_nil _ _ _ _ _)); (case aF => exact z116_); (case aO => exact (by (with_reducible repeat (first | apply Kd.S_alloc | apply Kd.S_drewN | apply Kd.S_drew)); exact Kd.S_mono HO_4.out (fun k_ hk => ⟨trivial, fun e_ => e_⟩))); (case aS => exact z60_); (case aL => have := LMc12.out; omega); intro v508 w15 ho hb hg hat; rw [← Ny507.out] at ho; replace HB := Aside0.mk (below_weaken z4_ HL.out hb); replace HI0 := Aside0.mk (IsS126.grown z3_ hg (IsS126.own_neS HI0.out HO_4.out (by decide))); replace HK := Aside0.mk (KeepBut.trans z2_ (KeepBut.of_grown hg g) (Kd.S_base2 HO_4.out)); have HO509 := Aside0.mk (ho); clear HO_4; clear ho hb hg hat))
     go_roundg k1
     case measure => have := HK1.out; omega
     case rel => exact ⟨(y507), (t505), (t506), H', ⟨z106_⟩, ⟨by (with_reducible repeat (first | apply Kd.S_alloc | apply Kd.S_drewN | apply Kd.S_drew)); exact HO509.out⟩, ⟨z3_⟩, ⟨z2_⟩, ⟨z4_⟩⟩
    ·rw [if_neg c11] at H
     have c11b0 := decide_eq_false c11
     clear c11
     simp only [Option.some.injEq, Prod.mk.injEq] at H
     obtain ⟨rfl, rfl, rfl⟩ := H
     obtain ⟨Ao16, co16, eo16⟩ := Kd.S_slice HO_4.out
     subst eo16
     go_wp2_with (first | ((with_reducible refine gate_callee (f := 109) rfl ?_); refine goesL_ (some 15) rfl rfl Try.func109 (by kernel_rfl) rfl #[.pointer (some ⟨g, 0, none⟩), .int .i64 2] rfl z1_ ?_; (with_reducible refine (spec_l1Below.calls g s0_0 x1001_1 x1002_1 2 t504 t505 t506 w0 _ ?side1 ?side2 A10.out).mono ?_); (case side1 => exact z3_); (case side2 => exact z4_); rintro e w17 ⟨rfl, hi, hb, hk⟩; refine ⟨_, rfl, ?_⟩; replace HO_4 := Aside0.mk (Kd.S_mono (Kd.S_keep (IsS126.apartS (show IsS126 w0 _ g s0_0 x1001_1 x1002_1 from by repeat (first | (with_reducible first | exact HI0.out | apply IsS126.alloc | apply IsS126.drewN | apply IsS126.drew | apply IsS126.set_1 | apply IsS126.set_2) | exact HI0.out)) z178_ (by decide)) hk (fun _ h => h.2)) (fun _ h => h.1)); replace HK := Aside0.mk (KeepBut.trans z2_ hk (.inl rfl)); replace HB := Aside0.mk (hb); replace HI0 := Aside0.mk (hi); (try clear hb hk hi)))
     go_ret
     exact ⟨_, z6_, z178_, z3_, z4_, z2_⟩
 ·replace c5 := Bool.eq_false_iff.mpr c5
  subst c5
  replace H := iff_ H
  simp only [Option.some.injEq, Prod.mk.injEq] at H
  obtain ⟨rfl, rfl, rfl⟩ := H
  go_enter Try.func73, Try.ntmps73
  go_wp2_with (first | ((with_reducible refine gate_callee (f := 108) rfl ?_); refine goesL_ (some 6) rfl rfl Try.func108 (by kernel_rfl) rfl #[.pointer (some ⟨g, 0, none⟩), .int .i64 8] rfl z1_ ?_; (with_reducible refine (spec_l3Tree.calls k g s0_0 s0_1 s0_2 8 t491 t494 t495 w0 _ ?side1 ?side2 A2.out).mono ?_); (case side1 => exact z3_); (case side2 => exact z4_); rintro e w18 ⟨v492, rfl, ho0, hi, hb, hk⟩; refine ⟨_, rfl, ?_⟩; have HO493 := Aside0.mk (Kd.R_lower ho0 (keep_size (w := w) (g := g) (row := none) z2_)); replace HK := Aside0.mk (KeepBut.trans z2_ hk (.inl rfl)); replace HB := Aside0.mk (hb); replace HI0 := Aside0.mk (hi); (try clear hb hk hi ho0); obtain ⟨Ao19, co19, eo19⟩ := Kd.R_slice HO493.out; subst eo19) | ((with_reducible refine gate_callee (f := 72) rfl ?_); refine goesL_ (some 9) rfl rfl Try.func72 (by kernel_rfl) rfl #[.pointer (some ⟨g, 0, none⟩), .slice Ao19 t491.length co19, .int .i64 7] rfl z1_ ?_; (with_reducible refine (spec_l13Script.calls k g s0_0 t494 t495 _ _ t491 7 t496 t499 t500 w0 _ ?side1 ?side2 ?side3 ?side4 A3.out).mono ?_); (case side1 => exact z3_); (case side2 => exact z4_); (case side3 => exact z97_); (case side4 => exact (Kd.R_reads' HO493.out).2.1); rintro e w20 ⟨v497, rfl, ho0, hi, hb, hk⟩; refine ⟨_, rfl, ?_⟩; replace HO493 := Aside0.mk (Kd.R_mono (Kd.R_keep (IsS126.apart (show IsS126 w0 _ g s0_0 t494 t495 from by repeat (first | (with_reducible first | exact HI0.out | apply IsS126.alloc | apply IsS126.drewN | apply IsS126.drew | apply IsS126.set_1 | apply IsS126.set_2) | exact HI0.out)) z114_ (by decide)) hk (fun _ h => h.2)) (fun _ h => h.1)); have HO498 := Aside0.mk (Kd.S_lower ho0 (keep_size (w := w) (g := g) (row := none) z2_)); replace HK := Aside0.mk (KeepBut.trans z2_ hk (.inl rfl)); replace HB := Aside0.mk (hb); replace HI0 := Aside0.mk (hi); (try clear hb hk hi ho0)) | ((with_reducible refine gate_callee (f := 113) rfl ?_); refine goesL_ (some 11) rfl rfl Try.func113 (by kernel_rfl) rfl #[.pointer (some ⟨g, 0, none⟩), .int .i64 14] rfl z1_ ?_; (with_reducible refine (spec_l1Once.calls g s0_0 t499 t500 14 false t502 t503 w0 _ ?side1 ?side2 A4.out).mono ?_); (case side1 => exact z3_); (case side2 => exact z4_); rintro e w21 ⟨rfl, hi, hb, hk⟩; refine ⟨_, rfl, ?_⟩; replace HO493 := Aside0.mk (Kd.R_mono (Kd.R_keep (IsS126.apart (show IsS126 w0 _ g s0_0 t499 t500 from by repeat (first | (with_reducible first | exact HI0.out | apply IsS126.alloc | apply IsS126.drewN | apply IsS126.drew | apply IsS126.set_1 | apply IsS126.set_2) | exact HI0.out)) z114_ (by decide)) hk (fun _ h => h.2)) (fun _ h => h.1)); replace HO498 := Aside0.mk (Kd.S_mono (Kd.S_keep (IsS126.apartS (show IsS126 w0 _ g s0_0 t499 t500 from by repeat (first | (with_reducible first | exact HI0.out | apply IsS126.alloc | apply IsS126.drewN | apply IsS126.drew | apply IsS126.set_1 | apply IsS126.set_2) | exact HI0.out)) z145_ (by decide)) hk (fun _ h => h.2)) (fun _ h => h.1)); replace HK := Aside0.mk (KeepBut.trans z2_ hk (.inl rfl)); replace HB := Aside0.mk (hb); replace HI0 := Aside0.mk (hi); (try clear hb hk hi)))
  go_ret
  exact ⟨_, z6_, z145_, z3_, z4_, z2_⟩

/-! ### spec_DrawJoined: function 33 -/
def spec_DrawJoined.f (k : Nat) (l0 : List Int) : Option ((List (S78)) × (List (S78))) := (spec_l1New.f k l0).bind fun bt510 => ((spec_l15Script.f k bt510.1 bt510.2.1 bt510.2.2).bind fun bt514 => ((spec_l15Script.f k bt510.1 bt514.2.1 bt514.2.2).bind fun bt519 => (some (bt514.1, bt519.1))))
set_option maxHeartbeats 8000000 in
set_option maxRecDepth 100000 in
theorem spec_DrawJoined.calls (k : Nat) (A0 : Option Addr) (c0 : Nat) (l0 : List Int) (r1 : List (S78)) (r2 : List (S78)) (w : World) (hr0 : Kd.C (Kd.int .u8) w A0 l0.length l0) (hc0 : l0.length ≤ c0) (h : spec_DrawJoined.f k l0 = some (r1, r2)) :
  Calls Try.prog 33 #[.slice A0 l0.length c0] w fun e w' => ∃ v0_ v1_ : Value, e = .returned (.tuple #[v0_, v1_]) ∧ Kd.S k78 78 w' w.heap.size (fun k_ => some k_ ≠ (v1_ : Value).ownBlock) v0_ r1 ∧ Kd.S k78 78 w' w.heap.size (fun k_ => some k_ ≠ (v0_ : Value).ownBlock) v1_ r2 ∧ Below w.heap.size w w' := by
 have HR0 := Aside0.mk hr0
 have HC0 := Aside0.mk hc0
 clear hr0 hc0
 have HB := Aside0.mk (Below.refl w.heap.size w)
 have H : ((spec_l1New.f k l0).bind fun bt510 => ((spec_l15Script.f k bt510.1 bt510.2.1 bt510.2.2).bind fun bt514 => ((spec_l15Script.f k bt510.1 bt514.2.1 bt514.2.2).bind fun bt519 => (some (bt514.1, bt519.1))))) = some (r1, r2) := h
 clear h
 replace H := Option.bind_eq_some_iff.mp H
 obtain ⟨⟨t510, t511, t512⟩, A20, H⟩ := H
 try dsimp only at H
 have A2 := Aside0.mk A20
 clear A20
 replace H := Option.bind_eq_some_iff.mp H
 obtain ⟨⟨t514, t517, t518⟩, A30, H⟩ := H
 try dsimp only at H
 have A3 := Aside0.mk A30
 clear A30
 replace H := Option.bind_eq_some_iff.mp H
 obtain ⟨⟨t519, t522, t523⟩, A40, H⟩ := H
 try dsimp only at H
 have A4 := Aside0.mk A40
 clear A40
 simp only [Option.some.injEq, Prod.mk.injEq] at H
 obtain ⟨rfl, rfl⟩ := H
 go_enter Try.func33, Try.ntmps33
 go_wp2_with (first | ((with_reducible refine gate_callee (f := 70) rfl ?_); refine goesL_ (some 7) rfl rfl Try.func70 (by kernel_rfl) rfl #[.slice A0 l0.length c0] rfl z1_ ?_; (with_reducible refine (spec_l1New.calls k _ _ l0 t510 t511 t512 w _ ?side1 ?side2 ?side3 A2.out).mono ?_); (case side1 => exact z0_); (case side2 => exact HR0.out); (case side3 => exact HC0.out); rintro e w5 ⟨g513, rfl, hi, hb, hb2⟩; refine ⟨_, rfl, ?_⟩; replace HB := Aside0.mk (hb); have HI513 := Aside0.mk (hi); (try clear hb hb2 hi)) | ((with_reducible refine gate_callee (f := 73) rfl ?_); refine goesL_ (some 9) rfl rfl Try.func73 (by kernel_rfl) rfl #[.pointer (some ⟨g513, 0, none⟩)] rfl z1_ ?_; (with_reducible refine (spec_l15Script.calls k g513 t510 t511 t512 t514 t517 t518 w _ ?side1 ?side2 A3.out).mono ?_); (case side1 => exact z155_); (case side2 => exact z81_); rintro e w6 ⟨v515, rfl, ho0, hi, hb, hk⟩; refine ⟨_, rfl, ?_⟩; have HO516 := Aside0.mk (Kd.S_lower ho0 (below_size z81_)); replace HB := Aside0.mk (hb); replace HI513 := Aside0.mk (hi); (try clear hb hk hi ho0)) | ((with_reducible refine gate_callee (f := 73) rfl ?_); refine goesL_ (some 12) rfl rfl Try.func73 (by kernel_rfl) rfl #[.pointer (some ⟨g513, 0, none⟩)] rfl z1_ ?_; (with_reducible refine (spec_l15Script.calls k g513 t510 t517 t518 t519 t522 t523 w _ ?side1 ?side2 A4.out).mono ?_); (case side1 => exact z155_); (case side2 => exact z81_); rintro e w7 ⟨v520, rfl, ho0, hi, hb, hk⟩; refine ⟨_, rfl, ?_⟩; have HO521 := Aside0.mk (Kd.S_lower (Kd.S_new' ho0 (Kd.S_lt z211_)) (below_size z81_)); replace HO516 := Aside0.mk (Kd.S_mono (Kd.S_told (Kd.S_oldK (IsS126.apartS (show IsS126 w _ g513 t510 t517 t518 from by repeat (first | (with_reducible first | exact HI513.out | apply IsS126.alloc | apply IsS126.drewN | apply IsS126.drew | apply IsS126.set_1 | apply IsS126.set_2) | exact HI513.out)) z211_ (by decide)) hk) (Kd.S_base ho0)) (fun _ h_ => h_.1)); replace HB := Aside0.mk (hb); replace HI513 := Aside0.mk (hi); (try clear hb hk hi ho0)))
 go_ret2
 exact ⟨_, _, z6_, by (with_reducible repeat (first | apply Kd.S_alloc | apply Kd.S_drewN | apply Kd.S_drew)); exact Kd.S_mono HO516.out (fun _ hk => hk.2), by (with_reducible repeat (first | apply Kd.S_alloc | apply Kd.S_drewN | apply Kd.S_drew)); exact Kd.S_mono HO521.out (fun _ hk => hk.2), z81_⟩

/-! ### spec_l7Same: function 114 -/
def spec_l7Same.l0 : Nat → List Int → List Int → Int → Option (Bool)
 | 0, _, _, _ => none
 | k + 1, x0, x1, x5 => if x5 < (x0.length : Int) then (if 0 ≤ x5 then (if x5 < (x1.length : Int) then (if (rd x0 x5) = (rd x1 x5) then (spec_l7Same.l0 k x0 x1 (wrap64 (x5 + 1))) else (some false)) else (none)) else (none)) else (some true)
def spec_l7Same.f (k : Nat) (l0 : List Int) (l1 : List Int) : Option (Bool) := if (l0.length : Int) = (l1.length : Int) then (spec_l7Same.l0 k l0 l1 0) else (some false)
set_option maxHeartbeats 8000000 in
set_option maxRecDepth 100000 in
theorem spec_l7Same.calls (k : Nat) (A0 : Option Addr) (c0 : Nat) (l0 : List Int) (A1 : Option Addr) (c1 : Nat) (l1 : List Int) (r : Bool) (w : World) (hr0 : Kd.C (Kd.int .i64) w A0 l0.length l0) (hc0 : l0.length ≤ c0) (hr1 : Kd.C (Kd.int .i64) w A1 l1.length l1) (hc1 : l1.length ≤ c1) (h : spec_l7Same.f k l0 l1 = some r) :
  Calls Try.prog 114 #[.slice A0 l0.length c0, .slice A1 l1.length c1] w fun e w' => e = .returned (.bool r) ∧ Drawn0 w w' := by
 have HR0 := Aside0.mk hr0
 have HC0 := Aside0.mk hc0
 clear hr0 hc0
 have HR1 := Aside0.mk hr1
 have HC1 := Aside0.mk hc1
 clear hr1 hc1
 have H : (if (l0.length : Int) = (l1.length : Int) then (spec_l7Same.l0 k l0 l1 0) else (some false)) = some r := h
 clear h
 by_cases c3 : (l0.length : Int) = (l1.length : Int)
 ·rw [if_pos c3] at H
  have c3b0 : ((l0.length : Int) == (l1.length : Int)) = true := beq_iff_eq.mpr c3
  have c3b1 : ((l0.length : Int) != (l1.length : Int)) = false := bne_eq_false_iff_eq.mpr c3
  have c3b2 : (l0.length == l1.length) = true := by first | simpa using c3 | (simp at c3 ⊢; omega)
  clear c3
  have H' := Aside0.mk H
  clear H
  go_enter Try.func114, Try.ntmps114
  go_wp2
  repeat (go_quiet (fail); try go_wp2)
  go_loopg [5] k (fun kq v5 w' => ∃ (x5_1 : Int), v5 = .int .i64 x5_1 ∧ Aside0 (spec_l7Same.l0 kq l0 l1 x5_1 = some r) ∧ Aside0 (kq ≤ k) ∧ Drawn0 w w')
  case atStart => exact ⟨(0), z11_, H', ⟨Nat.le_refl _⟩, z50_⟩
  case round =>
   clear H'
   try clear c1
   try clear p2
   try clear c3
   try clear c3b0
   try clear c3b1
   try clear c3b2
   obtain ⟨x5_1, rfl, HA, HK1, ⟨m1, rfl⟩⟩ := hrel
   cases gk with
   | zero => exact absurd HA.out (by simp [spec_l7Same.l0])
   | succ k1 =>
    have H := HA.out
    clear HA
    simp only [spec_l7Same.l0] at H
    by_cases c4 : x5_1 < (l0.length : Int)
    ·rw [if_pos c4] at H
     have c4b0 := decide_eq_true c4
     clear c4
     obtain ⟨c5b0, H⟩ := ifd_ H
     obtain ⟨c6b0, H⟩ := ifd_ H
     by_cases c7 : (rd l0 x5_1) = (rd l1 x5_1)
     ·rw [if_pos c7] at H
      have c7b0 : ((rd l0 x5_1) == (rd l1 x5_1)) = true := beq_iff_eq.mpr c7
      have c7b1 : ((rd l0 x5_1) != (rd l1 x5_1)) = false := bne_eq_false_iff_eq.mpr c7
      clear c7
      have H' := Aside0.mk H
      clear H
      have p524 : 0 ≤ (x5_1 : Int) := odt_
      have q524 : x5_1 < (l0.length : Int) := odt_
      obtain ⟨ad524, e524, hx524_0⟩ := Kd.at_int HR0.out x5_1 p524 q524
      cases e524
      replace p524 := eq_true p524
      replace q524 := eq_true q524
      have p525 : 0 ≤ (x5_1 : Int) := odt_
      have q525 : x5_1 < (l1.length : Int) := odt_
      obtain ⟨ad525, e525, hx525_0⟩ := Kd.at_int HR1.out x5_1 p525 q525
      cases e525
      replace p525 := eq_true p525
      replace q525 := eq_true q525
      go_wp2
      repeat (go_quiet (fail); try go_wp2)
      go_roundg k1
      case measure => have := HK1.out; omega
      case rel => exact ⟨(wrap64 (x5_1 + 1)), z11_, H', ⟨z106_⟩, z50_⟩
     ·rw [if_neg c7] at H
      have c7b0 : ((rd l0 x5_1) == (rd l1 x5_1)) = false := beq_eq_false_iff_ne.mpr c7
      have c7b1 : ((rd l0 x5_1) != (rd l1 x5_1)) = true := bne_iff_ne.mpr c7
      obtain rfl := Option.some.inj H
      have p524 : 0 ≤ (x5_1 : Int) := odt_
      have q524 : x5_1 < (l0.length : Int) := odt_
      obtain ⟨ad524, e524, hx524_0⟩ := Kd.at_int HR0.out x5_1 p524 q524
      cases e524
      replace p524 := eq_true p524
      replace q524 := eq_true q524
      have p525 : 0 ≤ (x5_1 : Int) := odt_
      have q525 : x5_1 < (l1.length : Int) := odt_
      obtain ⟨ad525, e525, hx525_0⟩ := Kd.at_int HR1.out x5_1 p525 q525
      cases e525
      replace p525 := eq_true p525
      replace q525 := eq_true q525
      go_wp2
      repeat (go_quiet (fail); try go_wp2)
      go_ret
      exact ⟨z11_, z50_⟩
    ·rw [if_neg c4] at H
     have c4b0 := decide_eq_false c4
     clear c4
     obtain rfl := Option.some.inj H
     go_wp2
     repeat (go_quiet (fail); try go_wp2)
     go_ret
     exact ⟨z11_, z50_⟩
 ·rw [if_neg c3] at H
  have c3b0 : ((l0.length : Int) == (l1.length : Int)) = false := beq_eq_false_iff_ne.mpr c3
  have c3b1 : ((l0.length : Int) != (l1.length : Int)) = true := bne_iff_ne.mpr c3
  have c3b2 : (l0.length == l1.length) = false := by first | simpa using c3 | (simp at c3 ⊢; omega)
  obtain rfl := Option.some.inj H
  go_enter Try.func114, Try.ntmps114
  go_wp2
  repeat (go_quiet (fail); try go_wp2)
  go_ret
  exact ⟨z11_, z50_⟩

/-! ### spec_l15Same: function 74 -/
def spec_l15Same.f (k : Nat) (a0_0 : Int) (l0_1 : List Int) (a0_2 : Int) (a0_3 : Int) (a0_4 : Int) (a1_0 : Int) (l1_1 : List Int) (a1_2 : Int) (a1_3 : Int) (a1_4 : Int) : Option (Bool) := if a0_0 = a1_0 then ((spec_l7Same.f k l0_1 l1_1).bind fun t528 => (if t528 = true then (if a0_2 = a1_2 then (if a0_3 = a1_3 then (some (a0_4 == a1_4)) else (some false)) else (some false)) else (some false))) else (some false)
set_option maxHeartbeats 8000000 in
set_option maxRecDepth 100000 in
theorem spec_l15Same.calls (k : Nat) (a0_0 : Int) (A0_1 : Option Addr) (c0_1 : Nat) (l0_1 : List Int) (a0_2 : Int) (a0_3 : Int) (a0_4 : Int) (a1_0 : Int) (A1_1 : Option Addr) (c1_1 : Nat) (l1_1 : List Int) (a1_2 : Int) (a1_3 : Int) (a1_4 : Int) (r : Bool) (w : World) (hr0_1 : Kd.C (Kd.int .i64) w A0_1 l0_1.length l0_1) (hc0_1 : l0_1.length ≤ c0_1) (hr1_1 : Kd.C (Kd.int .i64) w A1_1 l1_1.length l1_1) (hc1_1 : l1_1.length ≤ c1_1) (h : spec_l15Same.f k a0_0 l0_1 a0_2 a0_3 a0_4 a1_0 l1_1 a1_2 a1_3 a1_4 = some r) :
  Calls Try.prog 74 #[.agg #[.int .i64 a0_0, .slice A0_1 l0_1.length c0_1, .int .i64 a0_2, .int .i64 a0_3, .int .i64 a0_4], .agg #[.int .i64 a1_0, .slice A1_1 l1_1.length c1_1, .int .i64 a1_2, .int .i64 a1_3, .int .i64 a1_4]] w fun e w' => e = .returned (.bool r) ∧ Below w.heap.size w w' := by
 have hu78 := Try.underlying78
 have HR0_1 := Aside0.mk hr0_1
 have HC0_1 := Aside0.mk hc0_1
 clear hr0_1 hc0_1
 have HR1_1 := Aside0.mk hr1_1
 have HC1_1 := Aside0.mk hc1_1
 clear hr1_1 hc1_1
 have HB := Aside0.mk (Below.refl w.heap.size w)
 have H : (if a0_0 = a1_0 then ((spec_l7Same.f k l0_1 l1_1).bind fun t528 => (if t528 = true then (if a0_2 = a1_2 then (if a0_3 = a1_3 then (some (a0_4 == a1_4)) else (some false)) else (some false)) else (some false))) else (some false)) = some r := h
 clear h
 by_cases c3 : a0_0 = a1_0
 ·rw [if_pos c3] at H
  have c3b0 : (a0_0 == a1_0) = true := beq_iff_eq.mpr c3
  have c3b1 : (a0_0 != a1_0) = false := bne_eq_false_iff_eq.mpr c3
  clear c3
  obtain ⟨t528, A4, H⟩ := bnd_ H
  by_cases c5 : t528 = true
  ·subst c5
   replace H := ift_ H
   by_cases c6 : a0_2 = a1_2
   ·rw [if_pos c6] at H
    have c6b0 : (a0_2 == a1_2) = true := beq_iff_eq.mpr c6
    have c6b1 : (a0_2 != a1_2) = false := bne_eq_false_iff_eq.mpr c6
    clear c6
    by_cases c7 : a0_3 = a1_3
    ·rw [if_pos c7] at H
     have c7b0 : (a0_3 == a1_3) = true := beq_iff_eq.mpr c7
     have c7b1 : (a0_3 != a1_3) = false := bne_eq_false_iff_eq.mpr c7
     clear c7
     obtain rfl := Option.some.inj H
     go_enter Try.func74, Try.ntmps74
     go_wp2_with (first | ((with_reducible refine gate_dst (N := 2) rfl ?_); refine box_event ?hg (N := 2) ?hd (cs := #[.int .i64 a0_0, .slice A0_1 l0_1.length c0_1, .int .i64 a0_2, .int .i64 a0_3, .int .i64 a0_4]) (t := 78) ?hr ?_; (case hd => rfl); (case hg => rfl); (case hr => exact z20_); intro gb526 hg w8 hbox hb; have BK526 := Aside0.mk (hbox); have GW526 := Aside0.mk ((by rw [hg]; exact (below_size z0_) : w.heap.size ≤ gb526)); have GE526 := Aside0.mk ((by rw [hg]; exact (below_size z0_) : w.heap.size ≤ gb526)); replace HB := Aside0.mk (below_step z0_ hb); clear hb hbox hg) | ((with_reducible refine gate_dst (N := 3) rfl ?_); refine box_event ?hg (N := 3) ?hd (cs := #[.int .i64 a1_0, .slice A1_1 l1_1.length c1_1, .int .i64 a1_2, .int .i64 a1_3, .int .i64 a1_4]) (t := 78) ?hr ?_; (case hd => rfl); (case hg => rfl); (case hr => exact z20_); intro gb527 hg w9 hbox hb; have BK527 := Aside0.mk (hbox); have GW527 := Aside0.mk ((by rw [hg]; exact (below_size z36_) : w.heap.size ≤ gb527)); have GE527 := Aside0.mk ((by rw [hg]; exact (below_size z36_) : w.heap.size ≤ gb527)); replace HB := Aside0.mk (below_step z36_ hb); have NB526_527 := Aside0.mk ((by rw [hg]; exact Nat.ne_of_lt (blk_lt (g := gb526) (o := .cells #[.int .i64 a0_0, .slice A0_1 l0_1.length c0_1, .int .i64 a0_2, .int .i64 a0_3, .int .i64 a0_4] 78 (0, 0)) z48_) : gb526 ≠ gb527)); have NB527_526 := Aside0.mk ((by rw [hg]; exact Nat.ne_of_gt (blk_lt (g := gb526) (o := .cells #[.int .i64 a0_0, .slice A0_1 l0_1.length c0_1, .int .i64 a0_2, .int .i64 a0_3, .int .i64 a0_4] 78 (0, 0)) z48_) : gb527 ≠ gb526)); replace BK526 := Aside0.mk (blk_below (g := gb526) (o := .cells #[.int .i64 a0_0, .slice A0_1 l0_1.length c0_1, .int .i64 a0_2, .int .i64 a0_3, .int .i64 a0_4] 78 (0, 0)) z48_ hb); clear hb hbox hg; have hnb10 := NB526_527.out; have hnc10 := NB527_526.out; obtain ⟨hcz11_0, hcz11_1, hcz11_2, hcz11_3, hcz11_4, hfz11_0, hfz11_1, hfz11_2, hfz11_3, hfz11_4⟩ := bx5_ BK526.out; obtain ⟨hcz12_0, hcz12_1, hcz12_2, hcz12_3, hcz12_4, hfz12_0, hfz12_1, hfz12_2, hfz12_3, hfz12_4⟩ := bx5_ BK527.out) | (go_at_call 114; (with_reducible refine (spec_l7Same.calls k _ _ l0_1 _ _ l1_1 true _ ?side1 ?side2 ?side3 ?side4 A4.out).mono ?_); (case side1 => exact z33_); (case side2 => exact HC0_1.out); (case side3 => exact z24_); (case side4 => exact HC1_1.out); rintro e w' ⟨rfl, ⟨nd, rfl⟩⟩))
     go_ret
     exact ⟨z6_, z76_⟩
    ·rw [if_neg c7] at H
     have c7b0 : (a0_3 == a1_3) = false := beq_eq_false_iff_ne.mpr c7
     have c7b1 : (a0_3 != a1_3) = true := bne_iff_ne.mpr c7
     obtain rfl := Option.some.inj H
     go_enter Try.func74, Try.ntmps74
     go_wp2_with (first | ((with_reducible refine gate_dst (N := 2) rfl ?_); refine box_event ?hg (N := 2) ?hd (cs := #[.int .i64 a0_0, .slice A0_1 l0_1.length c0_1, .int .i64 a0_2, .int .i64 a0_3, .int .i64 a0_4]) (t := 78) ?hr ?_; (case hd => rfl); (case hg => rfl); (case hr => exact z20_); intro gb526 hg w13 hbox hb; have BK526 := Aside0.mk (hbox); have GW526 := Aside0.mk ((by rw [hg]; exact (below_size z0_) : w.heap.size ≤ gb526)); have GE526 := Aside0.mk ((by rw [hg]; exact (below_size z0_) : w.heap.size ≤ gb526)); replace HB := Aside0.mk (below_step z0_ hb); clear hb hbox hg) | ((with_reducible refine gate_dst (N := 3) rfl ?_); refine box_event ?hg (N := 3) ?hd (cs := #[.int .i64 a1_0, .slice A1_1 l1_1.length c1_1, .int .i64 a1_2, .int .i64 a1_3, .int .i64 a1_4]) (t := 78) ?hr ?_; (case hd => rfl); (case hg => rfl); (case hr => exact z20_); intro gb527 hg w14 hbox hb; have BK527 := Aside0.mk (hbox); have GW527 := Aside0.mk ((by rw [hg]; exact (below_size z36_) : w.heap.size ≤ gb527)); have GE527 := Aside0.mk ((by rw [hg]; exact (below_size z36_) : w.heap.size ≤ gb527)); replace HB := Aside0.mk (below_step z36_ hb); have NB526_527 := Aside0.mk ((by rw [hg]; exact Nat.ne_of_lt (blk_lt (g := gb526) (o := .cells #[.int .i64 a0_0, .slice A0_1 l0_1.length c0_1, .int .i64 a0_2, .int .i64 a0_3, .int .i64 a0_4] 78 (0, 0)) z48_) : gb526 ≠ gb527)); have NB527_526 := Aside0.mk ((by rw [hg]; exact Nat.ne_of_gt (blk_lt (g := gb526) (o := .cells #[.int .i64 a0_0, .slice A0_1 l0_1.length c0_1, .int .i64 a0_2, .int .i64 a0_3, .int .i64 a0_4] 78 (0, 0)) z48_) : gb527 ≠ gb526)); replace BK526 := Aside0.mk (blk_below (g := gb526) (o := .cells #[.int .i64 a0_0, .slice A0_1 l0_1.length c0_1, .int .i64 a0_2, .int .i64 a0_3, .int .i64 a0_4] 78 (0, 0)) z48_ hb); clear hb hbox hg; have hnb15 := NB526_527.out; have hnc15 := NB527_526.out; obtain ⟨hcz16_0, hcz16_1, hcz16_2, hcz16_3, hcz16_4, hfz16_0, hfz16_1, hfz16_2, hfz16_3, hfz16_4⟩ := bx5_ BK526.out; obtain ⟨hcz17_0, hcz17_1, hcz17_2, hcz17_3, hcz17_4, hfz17_0, hfz17_1, hfz17_2, hfz17_3, hfz17_4⟩ := bx5_ BK527.out) | (go_at_call 114; (with_reducible refine (spec_l7Same.calls k _ _ l0_1 _ _ l1_1 true _ ?side1 ?side2 ?side3 ?side4 A4.out).mono ?_); (case side1 => exact z33_); (case side2 => exact HC0_1.out); (case side3 => exact z24_); (case side4 => exact HC1_1.out); rintro e w' ⟨rfl, ⟨nd, rfl⟩⟩))
     go_ret
     exact ⟨z6_, z76_⟩
   ·rw [if_neg c6] at H
    have c6b0 : (a0_2 == a1_2) = false := beq_eq_false_iff_ne.mpr c6
    have c6b1 : (a0_2 != a1_2) = true := bne_iff_ne.mpr c6
    obtain rfl := Option.some.inj H
    go_enter Try.func74, Try.ntmps74
    go_wp2_with (first | ((with_reducible refine gate_dst (N := 2) rfl ?_); refine box_event ?hg (N := 2) ?hd (cs := #[.int .i64 a0_0, .slice A0_1 l0_1.length c0_1, .int .i64 a0_2, .int .i64 a0_3, .int .i64 a0_4]) (t := 78) ?hr ?_; (case hd => rfl); (case hg => rfl); (case hr => exact z20_); intro gb526 hg w18 hbox hb; have BK526 := Aside0.mk (hbox); have GW526 := Aside0.mk ((by rw [hg]; exact (below_size z0_) : w.heap.size ≤ gb526)); have GE526 := Aside0.mk ((by rw [hg]; exact (below_size z0_) : w.heap.size ≤ gb526)); replace HB := Aside0.mk (below_step z0_ hb); clear hb hbox hg) | ((with_reducible refine gate_dst (N := 3) rfl ?_); refine box_event ?hg (N := 3) ?hd (cs := #[.int .i64 a1_0, .slice A1_1 l1_1.length c1_1, .int .i64 a1_2, .int .i64 a1_3, .int .i64 a1_4]) (t := 78) ?hr ?_; (case hd => rfl); (case hg => rfl); (case hr => exact z20_); intro gb527 hg w19 hbox hb; have BK527 := Aside0.mk (hbox); have GW527 := Aside0.mk ((by rw [hg]; exact (below_size z36_) : w.heap.size ≤ gb527)); have GE527 := Aside0.mk ((by rw [hg]; exact (below_size z36_) : w.heap.size ≤ gb527)); replace HB := Aside0.mk (below_step z36_ hb); have NB526_527 := Aside0.mk ((by rw [hg]; exact Nat.ne_of_lt (blk_lt (g := gb526) (o := .cells #[.int .i64 a0_0, .slice A0_1 l0_1.length c0_1, .int .i64 a0_2, .int .i64 a0_3, .int .i64 a0_4] 78 (0, 0)) z48_) : gb526 ≠ gb527)); have NB527_526 := Aside0.mk ((by rw [hg]; exact Nat.ne_of_gt (blk_lt (g := gb526) (o := .cells #[.int .i64 a0_0, .slice A0_1 l0_1.length c0_1, .int .i64 a0_2, .int .i64 a0_3, .int .i64 a0_4] 78 (0, 0)) z48_) : gb527 ≠ gb526)); replace BK526 := Aside0.mk (blk_below (g := gb526) (o := .cells #[.int .i64 a0_0, .slice A0_1 l0_1.length c0_1, .int .i64 a0_2, .int .i64 a0_3, .int .i64 a0_4] 78 (0, 0)) z48_ hb); clear hb hbox hg; have hnb20 := NB526_527.out; have hnc20 := NB527_526.out; obtain ⟨hcz21_0, hcz21_1, hcz21_2, hcz21_3, hcz21_4, hfz21_0, hfz21_1, hfz21_2, hfz21_3, hfz21_4⟩ := bx5_ BK526.out; obtain ⟨hcz22_0, hcz22_1, hcz22_2, hcz22_3, hcz22_4, hfz22_0, hfz22_1, hfz22_2, hfz22_3, hfz22_4⟩ := bx5_ BK527.out) | (go_at_call 114; (with_reducible refine (spec_l7Same.calls k _ _ l0_1 _ _ l1_1 true _ ?side1 ?side2 ?side3 ?side4 A4.out).mono ?_); (case side1 => exact z33_); (case side2 => exact HC0_1.out); (case side3 => exact z24_); (case side4 => exact HC1_1.out); rintro e w' ⟨rfl, ⟨nd, rfl⟩⟩))
    go_ret
    exact ⟨z6_, z76_⟩
  ·replace c5 := Bool.eq_false_iff.mpr c5
   subst c5
   replace H := iff_ H
   obtain rfl := Option.some.inj H
   go_enter Try.func74, Try.ntmps74
   go_wp2_with (first | ((with_reducible refine gate_dst (N := 2) rfl ?_); refine box_event ?hg (N := 2) ?hd (cs := #[.int .i64 a0_0, .slice A0_1 l0_1.length c0_1, .int .i64 a0_2, .int .i64 a0_3, .int .i64 a0_4]) (t := 78) ?hr ?_; (case hd => rfl); (case hg => rfl); (case hr => exact z20_); intro gb526 hg w23 hbox hb; have BK526 := Aside0.mk (hbox); have GW526 := Aside0.mk ((by rw [hg]; exact (below_size z0_) : w.heap.size ≤ gb526)); have GE526 := Aside0.mk ((by rw [hg]; exact (below_size z0_) : w.heap.size ≤ gb526)); replace HB := Aside0.mk (below_step z0_ hb); clear hb hbox hg) | ((with_reducible refine gate_dst (N := 3) rfl ?_); refine box_event ?hg (N := 3) ?hd (cs := #[.int .i64 a1_0, .slice A1_1 l1_1.length c1_1, .int .i64 a1_2, .int .i64 a1_3, .int .i64 a1_4]) (t := 78) ?hr ?_; (case hd => rfl); (case hg => rfl); (case hr => exact z20_); intro gb527 hg w24 hbox hb; have BK527 := Aside0.mk (hbox); have GW527 := Aside0.mk ((by rw [hg]; exact (below_size z36_) : w.heap.size ≤ gb527)); have GE527 := Aside0.mk ((by rw [hg]; exact (below_size z36_) : w.heap.size ≤ gb527)); replace HB := Aside0.mk (below_step z36_ hb); have NB526_527 := Aside0.mk ((by rw [hg]; exact Nat.ne_of_lt (blk_lt (g := gb526) (o := .cells #[.int .i64 a0_0, .slice A0_1 l0_1.length c0_1, .int .i64 a0_2, .int .i64 a0_3, .int .i64 a0_4] 78 (0, 0)) z48_) : gb526 ≠ gb527)); have NB527_526 := Aside0.mk ((by rw [hg]; exact Nat.ne_of_gt (blk_lt (g := gb526) (o := .cells #[.int .i64 a0_0, .slice A0_1 l0_1.length c0_1, .int .i64 a0_2, .int .i64 a0_3, .int .i64 a0_4] 78 (0, 0)) z48_) : gb527 ≠ gb526)); replace BK526 := Aside0.mk (blk_below (g := gb526) (o := .cells #[.int .i64 a0_0, .slice A0_1 l0_1.length c0_1, .int .i64 a0_2, .int .i64 a0_3, .int .i64 a0_4] 78 (0, 0)) z48_ hb); clear hb hbox hg; have hnb25 := NB526_527.out; have hnc25 := NB527_526.out; obtain ⟨hcz26_0, hcz26_1, hcz26_2, hcz26_3, hcz26_4, hfz26_0, hfz26_1, hfz26_2, hfz26_3, hfz26_4⟩ := bx5_ BK526.out; obtain ⟨hcz27_0, hcz27_1, hcz27_2, hcz27_3, hcz27_4, hfz27_0, hfz27_1, hfz27_2, hfz27_3, hfz27_4⟩ := bx5_ BK527.out) | (go_at_call 114; (with_reducible refine (spec_l7Same.calls k _ _ l0_1 _ _ l1_1 false _ ?side1 ?side2 ?side3 ?side4 A4.out).mono ?_); (case side1 => exact z33_); (case side2 => exact HC0_1.out); (case side3 => exact z24_); (case side4 => exact HC1_1.out); rintro e w' ⟨rfl, ⟨nd, rfl⟩⟩))
   go_ret
   exact ⟨z6_, z76_⟩
 ·rw [if_neg c3] at H
  have c3b0 : (a0_0 == a1_0) = false := beq_eq_false_iff_ne.mpr c3
  have c3b1 : (a0_0 != a1_0) = true := bne_iff_ne.mpr c3
  obtain rfl := Option.some.inj H
  go_enter Try.func74, Try.ntmps74
  go_wp2_with (first | ((with_reducible refine gate_dst (N := 2) rfl ?_); refine box_event ?hg (N := 2) ?hd (cs := #[.int .i64 a0_0, .slice A0_1 l0_1.length c0_1, .int .i64 a0_2, .int .i64 a0_3, .int .i64 a0_4]) (t := 78) ?hr ?_; (case hd => rfl); (case hg => rfl); (case hr => exact z20_); intro gb526 hg w28 hbox hb; have BK526 := Aside0.mk (hbox); have GW526 := Aside0.mk ((by rw [hg]; exact (below_size z0_) : w.heap.size ≤ gb526)); have GE526 := Aside0.mk ((by rw [hg]; exact (below_size z0_) : w.heap.size ≤ gb526)); replace HB := Aside0.mk (below_step z0_ hb); clear hb hbox hg) | ((with_reducible refine gate_dst (N := 3) rfl ?_); refine box_event ?hg (N := 3) ?hd (cs := #[.int .i64 a1_0, .slice A1_1 l1_1.length c1_1, .int .i64 a1_2, .int .i64 a1_3, .int .i64 a1_4]) (t := 78) ?hr ?_; (case hd => rfl); (case hg => rfl); (case hr => exact z20_); intro gb527 hg w29 hbox hb; have BK527 := Aside0.mk (hbox); have GW527 := Aside0.mk ((by rw [hg]; exact (below_size z36_) : w.heap.size ≤ gb527)); have GE527 := Aside0.mk ((by rw [hg]; exact (below_size z36_) : w.heap.size ≤ gb527)); replace HB := Aside0.mk (below_step z36_ hb); have NB526_527 := Aside0.mk ((by rw [hg]; exact Nat.ne_of_lt (blk_lt (g := gb526) (o := .cells #[.int .i64 a0_0, .slice A0_1 l0_1.length c0_1, .int .i64 a0_2, .int .i64 a0_3, .int .i64 a0_4] 78 (0, 0)) z48_) : gb526 ≠ gb527)); have NB527_526 := Aside0.mk ((by rw [hg]; exact Nat.ne_of_gt (blk_lt (g := gb526) (o := .cells #[.int .i64 a0_0, .slice A0_1 l0_1.length c0_1, .int .i64 a0_2, .int .i64 a0_3, .int .i64 a0_4] 78 (0, 0)) z48_) : gb527 ≠ gb526)); replace BK526 := Aside0.mk (blk_below (g := gb526) (o := .cells #[.int .i64 a0_0, .slice A0_1 l0_1.length c0_1, .int .i64 a0_2, .int .i64 a0_3, .int .i64 a0_4] 78 (0, 0)) z48_ hb); clear hb hbox hg; have hnb30 := NB526_527.out; have hnc30 := NB527_526.out; obtain ⟨hcz31_0, hcz31_1, hcz31_2, hcz31_3, hcz31_4, hfz31_0, hfz31_1, hfz31_2, hfz31_3, hfz31_4⟩ := bx5_ BK526.out; obtain ⟨hcz32_0, hcz32_1, hcz32_2, hcz32_3, hcz32_4, hfz32_0, hfz32_1, hfz32_2, hfz32_3, hfz32_4⟩ := bx5_ BK527.out))
  go_ret
  exact ⟨z6_, z76_⟩

end Go.Proofs.Ytdapeboajjidmaa.PFnJoined
