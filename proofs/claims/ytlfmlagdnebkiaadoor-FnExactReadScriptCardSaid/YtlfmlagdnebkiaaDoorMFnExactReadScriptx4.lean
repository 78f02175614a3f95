/- Laid by a program of this session out of the kit's print for the law FnExactReadScript: what it says of the machine is proved here, function by function; each contract under the conditions that it names. -/
import Derived.Test.YtlfmlagdnebkiaaDoorMFnExactReadScriptx0
import Derived.Test.YtlfmlagdnebkiaaDoorMFnExactReadScriptx1
import Derived.Test.YtlfmlagdnebkiaaDoorMFnExactReadScriptx2
import Derived.Test.YtlfmlagdnebkiaaDoorMFnExactReadScriptx3
namespace Go.Proofs.YtlfmlagdnebkiaaDoor.PFnExactReadScript
open Go.RowKit Go.Proofs.YtlfmlagdnebkiaaDoorW.PrintWords Go.Proofs.YtlfmlagdnebkiaaDoorW.PrintLast Go.Proofs.YtlfmlagdnebkiaaDoorW.PrintMore
attribute [local go_sem] max2_int min2_int max_two min_two max_three min_three max_four min_four   -- for this text's walks alone
set_option linter.unusedVariables false
set_option linter.unusedSimpArgs false

/-! ### spec_ReadOp: function 5 -/
mutual
def spec_ReadOp.j0 : Nat → ByteArray → List ByteArray → Int → Int → Int → Int → Option (Int × List Int × Int × Int × Int × Bool)
 | 0, _, _, _, _, _, _ => none
 | k + 1, x0, x4, x153000, x153002, x153003, x153004 => spec_ReadOp.l0 k x0 x4 x153000 x153002 x153003 x153004
def spec_ReadOp.l0 : Nat → ByteArray → List ByteArray → Int → Int → Int → Int → Option (Int × List Int × Int × Int × Int × Bool)
 | 0, _, _, _, _, _, _ => none
 | k + 1, x0, x4, x153000, x153002, x153003, x153004 => if (x4.length : Int) < 5 then (if x4.length < 8796093022208 then (spec_ReadOp.l0 k x0 (x4 ++ [(⟨#[]⟩ : ByteArray)]) x153000 x153002 x153003 x153004) else (none)) else (if 1 < (x4.length : Int) then (if ((rdOf ByteArray.empty x4 1).size : Int) > 1 then (if 1 ≤ ((rdOf ByteArray.empty x4 1).size : Int) then ((spec_l23Cut.f k ((rdOf ByteArray.empty x4 1).extract 1 (rdOf ByteArray.empty x4 1).size) 46).bind fun t159 => (spec_ReadOp.l1 k x0 x4 t159 0 x153000 ([] : List Int) x153002 x153003 x153004)) else (none)) else (spec_ReadOp.j3 k x0 x4 x153000 ([] : List Int) x153002 x153003 x153004)) else (none))
def spec_ReadOp.j3 : Nat → ByteArray → List ByteArray → Int → List Int → Int → Int → Int → Option (Int × List Int × Int × Int × Int × Bool)
 | 0, _, _, _, _, _, _, _ => none
 | k + 1, x0, x4, x153000, x153001, x153002, x153003, x153004 => if x153000 = 2 then (spec_ReadOp.j4 k x0 x4 x153000 x153001 x153002 x153003 x153004) else (if 2 < (x4.length : Int) then ((spec_LabelOf.f k (rdOf ByteArray.empty x4 2)).bind fun t169 => (spec_ReadOp.j4 k x0 x4 x153000 x153001 t169 x153003 x153004)) else (none))
def spec_ReadOp.j4 : Nat → ByteArray → List ByteArray → Int → List Int → Int → Int → Int → Option (Int × List Int × Int × Int × Int × Bool)
 | 0, _, _, _, _, _, _, _ => none
 | k + 1, x0, x4, x153000, x153001, x153002, x153003, x153004 => if x153000 = 3 then (if 3 < (x4.length : Int) then ((spec_ReadDec.f k (rdOf ByteArray.empty x4 3)).bind fun bt171 => (if 4 < (x4.length : Int) then ((spec_ReadDec.f k (rdOf ByteArray.empty x4 4)).bind fun bt174 => (if x0.toList = ([] : List UInt8) then (some (0, ([] : List Int), 0, 0, 0, false)) else ((spec_OpText.f k x153000 x153001 x153002 bt171.1 bt174.1).bind fun t176 => (if t176.toList = x0.toList then (some (x153000, x153001, x153002, bt171.1, bt174.1, true)) else (some (0, ([] : List Int), 0, 0, 0, false)))))) else (none))) else (none)) else (if x0.toList = ([] : List UInt8) then (some (0, ([] : List Int), 0, 0, 0, false)) else ((spec_OpText.f k x153000 x153001 x153002 x153003 x153004).bind fun t177 => (if t177.toList = x0.toList then (some (x153000, x153001, x153002, x153003, x153004, true)) else (some (0, ([] : List Int), 0, 0, 0, false)))))
def spec_ReadOp.l1 : Nat → ByteArray → List ByteArray → List ByteArray → Int → Int → List Int → Int → Int → Int → Option (Int × List Int × Int × Int × Int × Bool)
 | 0, _, _, _, _, _, _, _, _, _ => none
 | k + 1, x0, x4, x6, x7, x153000, x153001, x153002, x153003, x153004 => if x7 < (x6.length : Int) then (if 0 ≤ x7 then ((spec_ReadDec.f k (rdOf ByteArray.empty x6 x7)).bind fun bt163 => (if x153001.length < 17592186044416 then (spec_ReadOp.l1 k x0 x4 x6 (wrap64 (x7 + 1)) x153000 (x153001 ++ [bt163.1]) x153002 x153003 x153004) else (none))) else (none)) else (spec_ReadOp.j3 k x0 x4 x153000 x153001 x153002 x153003 x153004)
end
def spec_ReadOp.f (k : Nat) (a0 : ByteArray) : Option (Int × List Int × Int × Int × Int × Bool) := (spec_l23Cut.f k a0 32).bind fun t148 => (if 0 < (t148.length : Int) then (if (rdOf ByteArray.empty t148 0).toList = ([114, 101, 108, 97, 98, 101, 108] : List UInt8) then (spec_ReadOp.j0 k a0 t148 1 0 0 0) else (if (rdOf ByteArray.empty t148 0).toList = ([105, 110, 115, 101, 114, 116] : List UInt8) then (spec_ReadOp.j0 k a0 t148 3 0 0 0) else (spec_ReadOp.j0 k a0 t148 (wrap64 ((wrap64 (((rdOf ByteArray.empty t148 0).size : Int) - 6)) + 2)) 0 0 0))) else (none))
set_option maxHeartbeats 8000000 in
set_option maxRecDepth 100000 in
theorem spec_ReadOp.calls (k : Nat) (a0 : ByteArray) (r1 : Int) (r2 : List Int) (r3 : Int) (r4 : Int) (r5 : Int) (r6 : Bool) (w : World) (h : spec_ReadOp.f k a0 = some (r1, r2, r3, r4, r5, r6)) :
  Calls Tryd.prog 5 #[.string a0] w fun e w' => ∃ v1_ : Value, e = .returned (.tuple #[.agg #[.int .i64 r1, v1_, .int .i64 r3, .int .i64 r4, .int .i64 r5], .bool r6]) ∧ Kd.R (Kd.int .i64) 3 w' w.heap.size (fun _ => True) v1_ r2 ∧ Below w.heap.size w w' := by
 have hu24 := Tryd.underlying24
 have HB := Aside0.mk (Below.refl w.heap.size w)
 have H : ((spec_l23Cut.f k a0 32).bind fun t148 => (if 0 < (t148.length : Int) then (if (rdOf ByteArray.empty t148 0).toList = ([114, 101, 108, 97, 98, 101, 108] : List UInt8) then (spec_ReadOp.j0 k a0 t148 1 0 0 0) else (if (rdOf ByteArray.empty t148 0).toList = ([105, 110, 115, 101, 114, 116] : List UInt8) then (spec_ReadOp.j0 k a0 t148 3 0 0 0) else (spec_ReadOp.j0 k a0 t148 (wrap64 ((wrap64 (((rdOf ByteArray.empty t148 0).size : Int) - 6)) + 2)) 0 0 0))) else (none))) = some (r1, r2, r3, r4, r5, r6) := h
 clear h
 obtain ⟨t148, A2, H⟩ := bnd_ H
 obtain ⟨c3, H⟩ := ifs_ H
 have c3b0 := decide_eq_true c3
 have c3b1 : decide (0 < t148.length) = true := decide_eq_true (by omega)
 clear c3
 have HC4 := Aside0.mk H
 clear H
 go_enter Tryd.func5, Tryd.ntmps5
 go_upto_block 0 with (first | ((with_reducible refine gate_dst (N := 2) rfl ?_); refine box_event ?hg (N := 2) ?hd (cs := #[.int .i64 0, .slice none 0 0, .int .i64 0, .int .i64 0, .int .i64 0]) (t := 24) ?hr ?_; (case hd => rfl); (case hg => rfl); (case hr => exact z18_); intro gb147 hg w5 hbox hb; have BK147 := Aside0.mk (hbox); have GW147 := Aside0.mk ((by rw [hg]; exact (below_size z0_) : w.heap.size ≤ gb147)); have GE147 := Aside0.mk ((by rw [hg]; exact (below_size z0_) : w.heap.size ≤ gb147)); replace HB := Aside0.mk (below_step z0_ hb); clear hb hbox hg) | ((with_reducible refine gate_callee (f := 15) rfl ?_); refine goesL_ (some 11) rfl rfl Tryd.func15 (by kernel_rfl) rfl #[.string a0, .int .u8 32] rfl z1_ ?_; (with_reducible refine (spec_l23Cut.calls k a0 32 t148 _ A2.out).mono ?_); rintro e w6 ⟨v149, rfl, ho0, hb⟩; refine ⟨_, rfl, ?_⟩; have HO150 := Aside0.mk (Kd.R_lower ho0 (below_size z51_)); replace BK147 := Aside0.mk (blk_below (g := gb147) (o := .cells #[.int .i64 0, .slice none 0 0, .int .i64 0, .int .i64 0, .int .i64 0] 24 (0, 0)) z16_ hb); replace HB := Aside0.mk (below_step z51_ hb); (try clear hb ho0); obtain ⟨Ao7, co7, eo7⟩ := Kd.R_slice HO150.out; subst eo7; have p151 : 0 ≤ (0 : Int) := (by omega); have q151 : 0 < (t148.length : Int) := odt_; obtain ⟨ad151, e151, hx151_0⟩ := Kd.at_string (Kd.R_reads' HO150.out).2.2 0 p151 q151; cases e151; have qi151 : (0 < t148.length) = True := eq_true (by omega); (try rw [show ((0 : Int)).toNat = 0 from rfl] at hx151_0); (try rw [Addr.add_zero'] at hx151_0); replace p151 := eq_true p151; replace q151 := eq_true q151) | ((with_reducible refine gate_dst (N := 5) rfl ?_); refine box_event ?hg (N := 5) ?hd (cs := #[.int .i64 0, .slice none 0 0, .int .i64 0, .int .i64 0, .int .i64 0]) (t := 24) ?hr ?_; (case hd => rfl); (case hg => rfl); (case hr => exact z18_); intro gb152 hg w8 hbox hb; replace HO150 := Aside0.mk (Kd.R_below (by (with_reducible repeat (first | apply Kd.R_alloc | apply Kd.R_drewN | apply Kd.R_drew)); exact HO150.out) hb); have BK152 := Aside0.mk (hbox); have GW152 := Aside0.mk ((by rw [hg]; exact (below_size z51_) : w.heap.size ≤ gb152)); have GE152 := Aside0.mk ((by rw [hg]; exact (below_size z51_) : w.heap.size ≤ gb152)); replace HB := Aside0.mk (below_step z51_ hb); have NB147_152 := Aside0.mk ((by rw [hg]; exact Nat.ne_of_lt (blk_lt (g := gb147) (o := .cells #[.int .i64 0, .slice none 0 0, .int .i64 0, .int .i64 0, .int .i64 0] 24 (0, 0)) z16_) : gb147 ≠ gb152)); have NB152_147 := Aside0.mk ((by rw [hg]; exact Nat.ne_of_gt (blk_lt (g := gb147) (o := .cells #[.int .i64 0, .slice none 0 0, .int .i64 0, .int .i64 0, .int .i64 0] 24 (0, 0)) z16_) : gb152 ≠ gb147)); replace BK147 := Aside0.mk (blk_below (g := gb147) (o := .cells #[.int .i64 0, .slice none 0 0, .int .i64 0, .int .i64 0, .int .i64 0] 24 (0, 0)) z16_ hb); clear hb hbox hg; have hnb9 := NB152_147.out; have hnc9 := NB147_152.out; obtain ⟨hcz10_0, hcz10_1, hcz10_2, hcz10_3, hcz10_4, hfz10_0, hfz10_1, hfz10_2, hfz10_3, hfz10_4⟩ := bx5_ BK152.out; have p153 : 0 ≤ (0 : Int) := (by omega); have q153 : 0 < (t148.length : Int) := odt_; obtain ⟨ad153, e153, hx153_0⟩ := Kd.at_string (Kd.R_reads' HO150.out).2.2 0 p153 q153; obtain rfl : ad151 = ad153 := (by injection e153); have qi153 : (0 < t148.length) = True := eq_true (by omega); (try rw [show ((0 : Int)).toNat = 0 from rfl] at hx153_0); (try rw [Addr.add_zero'] at hx153_0); have hn153_0 : ad151.block ≠ gb152 := Kd.own_blk (Kd.R_ne HO150.out BK152.out (by decide)); have hn153_1 : ad151.block ≠ gb152 := Kd.own_blk (Kd.R_ne HO150.out BK152.out (by decide)); have hn153_2 : ad151.block ≠ gb152 := Kd.own_blk (Kd.R_ne HO150.out BK152.out (by decide)); have hn153_3 : ad151.block ≠ gb152 := Kd.own_blk (Kd.R_ne HO150.out BK152.out (by decide)); have hn153_4 : ad151.block ≠ gb152 := Kd.own_blk (Kd.R_ne HO150.out BK152.out (by decide)); replace hx153_0 := (cell_far (p := ⟨gb152, 0, none⟩) (by first | (rw [add_block]; exact hn153_0) | (show (Addr.add _ _).block ≠ _; rw [add_block]; exact hn153_0) | exact hn153_0) (.int .i64 (wrap64 ((wrap64 (((rdOf ByteArray.empty t148 0).size : Int) - 6)) + 2)))).trans hx153_0; replace hx153_0 := (cell_far (p := ⟨gb152, 1, none⟩) (by first | (rw [add_block]; exact hn153_1) | (show (Addr.add _ _).block ≠ _; rw [add_block]; exact hn153_1) | exact hn153_1) (.slice none 0 0)).trans hx153_0; replace hx153_0 := (cell_far (p := ⟨gb152, 2, none⟩) (by first | (rw [add_block]; exact hn153_2) | (show (Addr.add _ _).block ≠ _; rw [add_block]; exact hn153_2) | exact hn153_2) (.int .i64 0)).trans hx153_0; replace hx153_0 := (cell_far (p := ⟨gb152, 3, none⟩) (by first | (rw [add_block]; exact hn153_3) | (show (Addr.add _ _).block ≠ _; rw [add_block]; exact hn153_3) | exact hn153_3) (.int .i64 0)).trans hx153_0; replace hx153_0 := (cell_far (p := ⟨gb152, 4, none⟩) (by first | (rw [add_block]; exact hn153_4) | (show (Addr.add _ _).block ≠ _; rw [add_block]; exact hn153_4) | exact hn153_4) (.int .i64 0)).trans hx153_0; clear hn153_0; clear hn153_1; clear hn153_2; clear hn153_3; clear hn153_4; replace p153 := eq_true p153; replace q153 := eq_true q153))
 (try simp only [Act.put, List.setIfInBounds_toArray, List.set_cons_zero, List.set_cons_succ])
 go_cut [] (fun wc => ∃ (kq : Nat) (x153000_3 : Int), Aside0 (spec_ReadOp.j0 kq a0 t148 x153000_3 0 0 0 = some (r1, r2, r3, r4, r5, r6)) ∧ Aside0 (kq ≤ k) ∧ Aside0 (Kd.R Kd.string 9 wc w.heap.size (fun _ => True) (.slice (some ad151) t148.length co7) t148) ∧ Aside0 (wc.heap[gb147]? = some (.cells #[.int .i64 0, (.slice none 0 0), .int .i64 0, .int .i64 0, .int .i64 0] 24 (0, 0))) ∧ Aside0 (wc.heap[gb152]? = some (.cells #[.int .i64 x153000_3, (.slice none 0 0), .int .i64 0, .int .i64 0, .int .i64 0] 24 (0, 0))) ∧ Aside0 (Below w.heap.size w wc))
 case first =>
  have H := HC4.out
  clear HC4
  by_cases c11 : (rdOf ByteArray.empty t148 0).toList = ([114, 101, 108, 97, 98, 101, 108] : List UInt8)
  ·rw [if_pos c11] at H
   have c11b0 : ((rdOf ByteArray.empty t148 0).toList == ([114, 101, 108, 97, 98, 101, 108] : List UInt8)) = true := beq_iff_eq.mpr c11
   have c11b1 : ((rdOf ByteArray.empty t148 0).toList != ([114, 101, 108, 97, 98, 101, 108] : List UInt8)) = false := bne_eq_false_iff_eq.mpr c11
   clear c11
   (first | rw [c11b0] | rw [c11b1] | (simp only [i64_w, i32_w]; rw [c11b0]) | skip)
   have H' := Aside0.mk H
   clear H
   have hnb12 := NB152_147.out
   have hnc12 := NB147_152.out
   obtain ⟨hcz13_0, hcz13_1, hcz13_2, hcz13_3, hcz13_4, hfz13_0, hfz13_1, hfz13_2, hfz13_3, hfz13_4⟩ := bx5_ BK152.out
   go_wp2
   go_meet
   case rel => exact ⟨_, (1), H', ⟨z74_⟩, ⟨by (with_reducible repeat (first | apply Kd.R_alloc | apply Kd.R_drewN | apply Kd.R_drew)); exact Kd.R_mono (Kd.R_far (p := ⟨gb152, 0, none⟩) (Kd.R_far (p := ⟨gb152, 4, none⟩) (Kd.R_far (p := ⟨gb152, 3, none⟩) (Kd.R_far (p := ⟨gb152, 2, none⟩) (Kd.R_far (p := ⟨gb152, 1, none⟩) (Kd.R_far (p := ⟨gb152, 0, none⟩) (Kd.R_types HO150.out BK152.out (by decide)) (fun _ hk => hk.2) (.int .i64 (wrap64 ((wrap64 (((rdOf ByteArray.empty t148 0).size : Int) - 6)) + 2)))) (fun _ hk => hk.2) (.slice none 0 0)) (fun _ hk => hk.2) (.int .i64 0)) (fun _ hk => hk.2) (.int .i64 0)) (fun _ hk => hk.2) (.int .i64 0)) (fun _ hk => hk.2) (.int .i64 1)) (fun _ hk => trivial)⟩, ⟨z22_⟩, ⟨z10_⟩, ⟨z3_⟩⟩
  ·rw [if_neg c11] at H
   have c11b0 : ((rdOf ByteArray.empty t148 0).toList == ([114, 101, 108, 97, 98, 101, 108] : List UInt8)) = false := beq_eq_false_iff_ne.mpr c11
   have c11b1 : ((rdOf ByteArray.empty t148 0).toList != ([114, 101, 108, 97, 98, 101, 108] : List UInt8)) = true := bne_iff_ne.mpr c11
   (first | rw [c11b0] | rw [c11b1] | (simp only [i64_w, i32_w]; rw [c11b0]) | skip)
   by_cases c14 : (rdOf ByteArray.empty t148 0).toList = ([105, 110, 115, 101, 114, 116] : List UInt8)
   ·rw [if_pos c14] at H
    have c14b0 : ((rdOf ByteArray.empty t148 0).toList == ([105, 110, 115, 101, 114, 116] : List UInt8)) = true := beq_iff_eq.mpr c14
    have c14b1 : ((rdOf ByteArray.empty t148 0).toList != ([105, 110, 115, 101, 114, 116] : List UInt8)) = false := bne_eq_false_iff_eq.mpr c14
    clear c14
    have H' := Aside0.mk H
    clear H
    have hnb15 := NB152_147.out
    have hnc15 := NB147_152.out
    obtain ⟨hcz16_0, hcz16_1, hcz16_2, hcz16_3, hcz16_4, hfz16_0, hfz16_1, hfz16_2, hfz16_3, hfz16_4⟩ := bx5_ BK152.out
    go_wp2
    go_meet
    case rel => exact ⟨_, (3), H', ⟨z74_⟩, ⟨by (with_reducible repeat (first | apply Kd.R_alloc | apply Kd.R_drewN | apply Kd.R_drew)); exact Kd.R_mono (Kd.R_far (p := ⟨gb152, 0, none⟩) (Kd.R_far (p := ⟨gb152, 4, none⟩) (Kd.R_far (p := ⟨gb152, 3, none⟩) (Kd.R_far (p := ⟨gb152, 2, none⟩) (Kd.R_far (p := ⟨gb152, 1, none⟩) (Kd.R_far (p := ⟨gb152, 0, none⟩) (Kd.R_types HO150.out BK152.out (by decide)) (fun _ hk => hk.2) (.int .i64 (wrap64 ((wrap64 (((rdOf ByteArray.empty t148 0).size : Int) - 6)) + 2)))) (fun _ hk => hk.2) (.slice none 0 0)) (fun _ hk => hk.2) (.int .i64 0)) (fun _ hk => hk.2) (.int .i64 0)) (fun _ hk => hk.2) (.int .i64 0)) (fun _ hk => hk.2) (.int .i64 3)) (fun _ hk => trivial)⟩, ⟨z22_⟩, ⟨z10_⟩, ⟨z3_⟩⟩
   ·rw [if_neg c14] at H
    have c14b0 : ((rdOf ByteArray.empty t148 0).toList == ([105, 110, 115, 101, 114, 116] : List UInt8)) = false := beq_eq_false_iff_ne.mpr c14
    have c14b1 : ((rdOf ByteArray.empty t148 0).toList != ([105, 110, 115, 101, 114, 116] : List UInt8)) = true := bne_iff_ne.mpr c14
    have H' := Aside0.mk H
    clear H
    go_wp2
    go_meet
    case rel => exact ⟨_, (wrap64 ((wrap64 (((rdOf ByteArray.empty t148 0).size : Int) - 6)) + 2)), H', ⟨z74_⟩, ⟨by (with_reducible repeat (first | apply Kd.R_alloc | apply Kd.R_drewN | apply Kd.R_drew)); exact Kd.R_mono (Kd.R_far (p := ⟨gb152, 4, none⟩) (Kd.R_far (p := ⟨gb152, 3, none⟩) (Kd.R_far (p := ⟨gb152, 2, none⟩) (Kd.R_far (p := ⟨gb152, 1, none⟩) (Kd.R_far (p := ⟨gb152, 0, none⟩) (Kd.R_types HO150.out BK152.out (by decide)) (fun _ hk => hk.2) (.int .i64 (wrap64 ((wrap64 (((rdOf ByteArray.empty t148 0).size : Int) - 6)) + 2)))) (fun _ hk => hk.2) (.slice none 0 0)) (fun _ hk => hk.2) (.int .i64 0)) (fun _ hk => hk.2) (.int .i64 0)) (fun _ hk => hk.2) (.int .i64 0)) (fun _ hk => trivial)⟩, ⟨by (with_reducible repeat (first | refine blk_drewN ?_ _ | refine blk_drew ?_ | refine blk_alloc ?_ _)); refine blk_far ?_ NB147_152.out _; (with_reducible repeat (first | refine blk_drewN ?_ _ | refine blk_drew ?_ | refine blk_alloc ?_ _)); refine blk_far ?_ NB147_152.out _; (with_reducible repeat (first | refine blk_drewN ?_ _ | refine blk_drew ?_ | refine blk_alloc ?_ _)); refine blk_far ?_ NB147_152.out _; (with_reducible repeat (first | refine blk_drewN ?_ _ | refine blk_drew ?_ | refine blk_alloc ?_ _)); refine blk_far ?_ NB147_152.out _; (with_reducible repeat (first | refine blk_drewN ?_ _ | refine blk_drew ?_ | refine blk_alloc ?_ _)); refine blk_far ?_ NB147_152.out _; (with_reducible repeat (first | refine blk_drewN ?_ _ | refine blk_drew ?_ | refine blk_alloc ?_ _)); exact BK147.out⟩, ⟨by (with_reducible repeat (first | refine blk_drewN ?_ _ | refine blk_drew ?_ | refine blk_alloc ?_ _)); refine blk_put (cs := #[.int .i64 (wrap64 ((wrap64 (((rdOf ByteArray.empty t148 0).size : Int) - 6)) + 2)), .slice none 0 0, .int .i64 0, .int .i64 0, .int .i64 0]) ?_ 4 _ rfl; (with_reducible repeat (first | refine blk_drewN ?_ _ | refine blk_drew ?_ | refine blk_alloc ?_ _)); refine blk_put (cs := #[.int .i64 (wrap64 ((wrap64 (((rdOf ByteArray.empty t148 0).size : Int) - 6)) + 2)), .slice none 0 0, .int .i64 0, .int .i64 0, .int .i64 0]) ?_ 3 _ rfl; (with_reducible repeat (first | refine blk_drewN ?_ _ | refine blk_drew ?_ | refine blk_alloc ?_ _)); refine blk_put (cs := #[.int .i64 (wrap64 ((wrap64 (((rdOf ByteArray.empty t148 0).size : Int) - 6)) + 2)), .slice none 0 0, .int .i64 0, .int .i64 0, .int .i64 0]) ?_ 2 _ rfl; (with_reducible repeat (first | refine blk_drewN ?_ _ | refine blk_drew ?_ | refine blk_alloc ?_ _)); refine blk_put (cs := #[.int .i64 (wrap64 ((wrap64 (((rdOf ByteArray.empty t148 0).size : Int) - 6)) + 2)), .slice none 0 0, .int .i64 0, .int .i64 0, .int .i64 0]) ?_ 1 _ rfl; (with_reducible repeat (first | refine blk_drewN ?_ _ | refine blk_drew ?_ | refine blk_alloc ?_ _)); refine blk_put (cs := #[.int .i64 0, .slice none 0 0, .int .i64 0, .int .i64 0, .int .i64 0]) ?_ 0 _ rfl; (with_reducible repeat (first | refine blk_drewN ?_ _ | refine blk_drew ?_ | refine blk_alloc ?_ _)); exact BK152.out⟩, ⟨z3_⟩⟩
 case rest =>
  clear HC4
  try clear c1
  try clear p1
  try clear q1
  try clear hx1
  try clear qi1
  try clear p2
  try clear c3
  try clear c3b0
  try clear c3b1
  try clear c5
  try clear p6
  try clear c9
  try clear c11
  try clear c11b0
  try clear c11b1
  try clear c12
  try clear c14
  try clear c14b0
  try clear c14b1
  try clear c15
  try clear p15
  try clear q15
  try clear hx15
  try clear qi15
  try clear hcz10_0
  try clear hcz10_1
  try clear hcz10_2
  try clear hcz10_3
  try clear hcz10_4
  try clear hcz13_0
  try clear hcz13_1
  try clear hcz13_2
  try clear hcz13_3
  try clear hcz13_4
  try clear hcz16_0
  try clear hcz16_1
  try clear hcz16_2
  try clear hcz16_3
  try clear hcz16_4
  try clear hfz10_0
  try clear hfz10_1
  try clear hfz10_2
  try clear hfz10_3
  try clear hfz10_4
  try clear hfz13_0
  try clear hfz13_1
  try clear hfz13_2
  try clear hfz13_3
  try clear hfz13_4
  try clear hfz16_0
  try clear hfz16_1
  try clear hfz16_2
  try clear hfz16_3
  try clear hfz16_4
  try clear hx151_0
  try clear hx153_0
  try clear p151
  try clear p153
  try clear q151
  try clear q153
  obtain ⟨kq, x153000_3, HA, HJ3, HO_4, BK147, BK152, HB⟩ := hcut
  cases kq with
  | zero => exact absurd HA.out (by simp [spec_ReadOp.j0])
  | succ kj3 =>
   have H := HA.out
   clear HA
   simp only [spec_ReadOp.j0] at H
   have H' := Aside0.mk H
   clear H
   go_wp2
   go_loopg [4] kj3 (fun kq v4 w' => ∃ (x4_2 : List ByteArray), Aside0 (spec_ReadOp.l0 kq a0 x4_2 x153000_3 0 0 0 = some (r1, r2, r3, r4, r5, r6)) ∧ Aside0 (kq ≤ kj3) ∧ Aside0 (Kd.R Kd.string 9 w' w.heap.size (fun _ => True) v4 x4_2) ∧ Aside0 (w'.heap[gb147]? = some (.cells #[.int .i64 0, (.slice none 0 0), .int .i64 0, .int .i64 0, .int .i64 0] 24 (0, 0))) ∧ Aside0 (w'.heap[gb152]? = some (.cells #[.int .i64 x153000_3, (.slice none 0 0), .int .i64 0, .int .i64 0, .int .i64 0] 24 (0, 0))) ∧ Aside0 (Below w.heap.size w w'))
   case atStart => exact ⟨(t148), H', ⟨Nat.le_refl _⟩, ⟨z19_⟩, ⟨z16_⟩, ⟨z23_⟩, ⟨z3_⟩⟩
   case round =>
    clear H'
    try clear c1
    try clear p1
    try clear q1
    try clear hx1
    try clear qi1
    try clear p2
    try clear c3
    try clear c3b0
    try clear c3b1
    try clear c5
    try clear p6
    try clear c9
    try clear c11
    try clear c11b0
    try clear c11b1
    try clear c12
    try clear c14
    try clear c14b0
    try clear c14b1
    try clear c15
    try clear p15
    try clear q15
    try clear hx15
    try clear qi15
    try clear hcz10_0
    try clear hcz10_1
    try clear hcz10_2
    try clear hcz10_3
    try clear hcz10_4
    try clear hcz13_0
    try clear hcz13_1
    try clear hcz13_2
    try clear hcz13_3
    try clear hcz13_4
    try clear hcz16_0
    try clear hcz16_1
    try clear hcz16_2
    try clear hcz16_3
    try clear hcz16_4
    try clear hfz10_0
    try clear hfz10_1
    try clear hfz10_2
    try clear hfz10_3
    try clear hfz10_4
    try clear hfz13_0
    try clear hfz13_1
    try clear hfz13_2
    try clear hfz13_3
    try clear hfz13_4
    try clear hfz16_0
    try clear hfz16_1
    try clear hfz16_2
    try clear hfz16_3
    try clear hfz16_4
    try clear hx151_0
    try clear hx153_0
    try clear p1
    try clear p15
    try clear p151
    try clear p153
    try clear p2
    try clear p6
    try clear q1
    try clear q15
    try clear q151
    try clear q153
    obtain ⟨x4_2, HA, HK2, HO_4, BK147, BK152, HB⟩ := hrel
    cases gk with
    | zero => exact absurd HA.out (by simp [spec_ReadOp.l0])
    | succ k2 =>
     have H := HA.out
     clear HA
     simp only [spec_ReadOp.l0] at H
     by_cases c17 : (x4_2.length : Int) < 5
     ·rw [if_pos c17] at H
      have c17b0 := decide_eq_true c17
      have c17b1 : decide (x4_2.length < 5) = true := decide_eq_true (by omega)
      clear c17
      obtain ⟨c18, H⟩ := ifs_ H
      have LMc18 := Aside0.mk c18
      clear c18
      first | ((with_reducible have hz_ := gy_ H); obtain ⟨y154, Ny154, H⟩ := hz_) | (generalize hy_ : ((x4_2 ++ [(⟨#[]⟩ : ByteArray)]) : List ByteArray) = y154 at H; have Ny154 := Aside0.mk hy_.symm; clear hy_)
      have H' := Aside0.mk H
      clear H
      obtain ⟨Ao19, co19, eo19⟩ := Kd.R_slice HO_4.out
      subst eo19
      go_wp2_with (first | ((with_reducible refine gate_builtin (b := .append) (xs := #[.tmp 31, .tmp 32]) rfl ?_); at_builtin; refine Kd.R_append Kd.string (w0 := w) w.heap.size rfl (.tmp 31) (.tmp 32) 35 9 (.string ⟨#[]⟩) 16 rfl Tryd.underlying35 info9 rfl (by decide) (by omega) (.slice Ao19 x4_2.length co19) x4_2 (⟨#[]⟩ : ByteArray) [.string (⟨#[]⟩ : ByteArray)] (fun _ => True) (fun _ => False) rfl rfl ?aP (fun _ hk => hk.elim) ?aF ?aO ?aB ?aS ?aL ?_; (case aP => exact rfl); (case aB => exact z73_); (case aF => exact z116_); (case aO => exact z19_); (case aS => exact z71_); (case aL => have := LMc18.out; omega); intro v155 w20 ho hb hg hat; rw [← Ny154.out] at ho; replace BK147 := Aside0.mk (blk_grown (g := gb147) (o := .cells #[.int .i64 0, .slice none 0 0, .int .i64 0, .int .i64 0, .int .i64 0] 24 (0, 0)) z16_ hg (Kd.R_ne HO_4.out BK147.out (by decide))); replace BK152 := Aside0.mk (blk_grown (g := gb152) (o := .cells #[.int .i64 x153000_3, .slice none 0 0, .int .i64 0, .int .i64 0, .int .i64 0] 24 (0, 0)) z23_ hg (Kd.R_ne HO_4.out BK152.out (by decide))); replace HB := Aside0.mk (hb); have HO156 := Aside0.mk (ho); clear HO_4; clear ho hb hg hat))
      go_roundg k2
      case measure => have := HJ3.out; have := HK2.out; omega
      case rel => exact ⟨(y154), H', ⟨by have := HJ3.out; have := HK2.out; omega⟩, ⟨by (with_reducible repeat (first | apply Kd.R_alloc | apply Kd.R_drewN | apply Kd.R_drew)); exact HO156.out⟩, ⟨z16_⟩, ⟨z23_⟩, ⟨z3_⟩⟩
     ·rw [if_neg c17] at H
      have c17b0 := decide_eq_false c17
      have c17b1 : decide (x4_2.length < 5) = false := decide_eq_false (by omega)
      clear c17
      obtain ⟨c21, H⟩ := ifs_ H
      have c21b0 := decide_eq_true c21
      have c21b1 : decide (1 < x4_2.length) = true := decide_eq_true (by omega)
      clear c21
      have HC22 := Aside0.mk H
      clear H
      obtain ⟨Ao23, co23, eo23⟩ := Kd.R_slice HO_4.out
      subst eo23
      have p157 : 0 ≤ (1 : Int) := (by omega)
      have q157 : 1 < (x4_2.length : Int) := odt_
      obtain ⟨ad157, e157, hx157_0⟩ := Kd.at_string (Kd.R_reads' HO_4.out).2.2 1 p157 q157
      cases e157
      (try simp only [show (1 : Int).toNat = 1 from rfl, Nat.reduceMul, Nat.reduceEqDiff, Go.Addr.add, ↓reduceIte] at hx157_0)
      have qi157 : (1 < x4_2.length) = True := eq_true (by omega)
      (try rw [show ((1 : Int)).toNat = 1 from rfl] at hx157_0)
      replace p157 := eq_true p157
      replace q157 := eq_true q157
      go_upto_if 38 with (fail)
      go_cut [] (fun wc => ∃ (kq : Nat) (x153001_21 : List Int) (u153001 : Value), Aside0 (spec_ReadOp.j3 kq a0 x4_2 x153000_3 x153001_21 0 0 0 = some (r1, r2, r3, r4, r5, r6)) ∧ Aside0 (kq ≤ k2) ∧ Aside0 (Kd.R Kd.string 9 wc w.heap.size (fun _ => True) (.slice (some ad157) x4_2.length co23) x4_2) ∧ Aside0 (Kd.R (Kd.int .i64) 3 wc w.heap.size (fun _ => True) u153001 x153001_21) ∧ Aside0 (wc.heap[gb147]? = some (.cells #[.int .i64 0, (.slice none 0 0), .int .i64 0, .int .i64 0, .int .i64 0] 24 (0, 0))) ∧ Aside0 (wc.heap[gb152]? = some (.cells #[.int .i64 x153000_3, u153001, .int .i64 0, .int .i64 0, .int .i64 0] 24 (0, 0))) ∧ Aside0 (Below w.heap.size w wc))
      case first =>
       have H := HC22.out
       clear HC22
       by_cases c24 : ((rdOf ByteArray.empty x4_2 1).size : Int) > 1
       ·rw [if_pos c24] at H
        have c24b0 := decide_eq_true c24
        have c24b1 : decide (1 < (rdOf ByteArray.empty x4_2 1).size) = true := decide_eq_true (by omega)
        clear c24
        (first | rw [c24b0] | rw [c24b1] | (simp only [i64_w, i32_w]; rw [c24b0]) | skip)
        obtain ⟨c25b0, c25b1, H⟩ := ife_ H
        obtain ⟨t159, A26, H⟩ := bnd_ H
        have H' := Aside0.mk H
        clear H
        have p158 : 0 ≤ (1 : Int) := (by omega)
        have q158 : 1 < (x4_2.length : Int) := odt_
        obtain ⟨ad158, e158, hx158_0⟩ := Kd.at_string (Kd.R_reads' HO_4.out).2.2 1 p158 q158
        obtain rfl : ad157 = ad158 := (by injection e158)
        (try simp only [show (1 : Int).toNat = 1 from rfl, Nat.reduceMul, Nat.reduceEqDiff, Go.Addr.add, ↓reduceIte] at hx158_0)
        have qi158 : (1 < x4_2.length) = True := eq_true (by omega)
        (try rw [show ((1 : Int)).toNat = 1 from rfl] at hx158_0)
        replace p158 := eq_true p158
        replace q158 := eq_true q158
        go_wp2_with (first | ((with_reducible refine gate_callee (f := 15) rfl ?_); refine goesL_ (some 43) rfl rfl Tryd.func15 (by kernel_rfl) rfl #[.string ((rdOf ByteArray.empty x4_2 1).extract 1 (rdOf ByteArray.empty x4_2 1).size), .int .u8 46] rfl z1_ ?_; (with_reducible refine (spec_l23Cut.calls k2 ((rdOf ByteArray.empty x4_2 1).extract 1 (rdOf ByteArray.empty x4_2 1).size) 46 t159 _ A26.out).mono ?_); rintro e w27 ⟨v160, rfl, ho0, hb⟩; refine ⟨_, rfl, ?_⟩; have HO161 := Aside0.mk (Kd.R_lower (Kd.R_new' ho0 (Kd.R_lt z19_)) (below_size z3_)); replace HO_4 := Aside0.mk (Kd.R_elder' z19_ (Kd.R_base ho0) hb); replace BK147 := Aside0.mk (blk_below (g := gb147) (o := .cells #[.int .i64 0, .slice none 0 0, .int .i64 0, .int .i64 0, .int .i64 0] 24 (0, 0)) z16_ hb); replace BK152 := Aside0.mk (blk_below (g := gb152) (o := .cells #[.int .i64 x153000_3, .slice none 0 0, .int .i64 0, .int .i64 0, .int .i64 0] 24 (0, 0)) z23_ hb); replace HB := Aside0.mk (below_step z3_ hb); (try clear hb ho0)))
        go_loopg [7] k2 (fun kq v7 w' => ∃ (x7_3 : Int) (x153001_3 : List Int) (u153001 : Value), v7 = .int .i64 x7_3 ∧ Aside0 (spec_ReadOp.l1 kq a0 x4_2 t159 x7_3 x153000_3 x153001_3 0 0 0 = some (r1, r2, r3, r4, r5, r6)) ∧ Aside0 (kq ≤ k2) ∧ Aside0 (Kd.R Kd.string 9 w' w.heap.size (fun k_ => some k_ ≠ (v160 : Value).ownBlock) (.slice (some ad157) x4_2.length co23) x4_2) ∧ Aside0 (Kd.R Kd.string 9 w' w.heap.size (fun k_ => some k_ ≠ ((.slice (some ad157) x4_2.length co23) : Value).ownBlock) v160 t159) ∧ Aside0 (Kd.R (Kd.int .i64) 3 w' w.heap.size (fun _ => True) u153001 x153001_3) ∧ Aside0 (w'.heap[gb147]? = some (.cells #[.int .i64 0, (.slice none 0 0), .int .i64 0, .int .i64 0, .int .i64 0] 24 (0, 0))) ∧ Aside0 (w'.heap[gb152]? = some (.cells #[.int .i64 x153000_3, u153001, .int .i64 0, .int .i64 0, .int .i64 0] 24 (0, 0))) ∧ Aside0 (Below w.heap.size w w'))
        case atStart => exact ⟨(0), (([] : List Int)), (.slice none 0 0), z4_, H', ⟨Nat.le_refl _⟩, ⟨z93_⟩, ⟨by (with_reducible repeat (first | apply Kd.R_alloc | apply Kd.R_drewN | apply Kd.R_drew)); exact Kd.R_mono HO161.out (fun _ hk => hk.2)⟩, ⟨z32_⟩, ⟨z16_⟩, ⟨z23_⟩, ⟨z3_⟩⟩
        case round =>
         clear H'
         try clear c1
         try clear p1
         try clear q1
         try clear hx1
         try clear qi1
         try clear c2
         try clear p2
         try clear c3
         try clear c3b0
         try clear c3b1
         try clear c5
         try clear p6
         try clear c9
         try clear c11
         try clear c11b0
         try clear c11b1
         try clear c12
         try clear c14
         try clear c14b0
         try clear c14b1
         try clear c15
         try clear p15
         try clear q15
         try clear hx15
         try clear qi15
         try clear c17
         try clear c17b0
         try clear c17b1
         try clear c18
         try clear c21
         try clear c21b0
         try clear c21b1
         try clear c24
         try clear c24b0
         try clear c24b1
         try clear c25
         try clear c25b0
         try clear c25b1
         try clear hcz10_0
         try clear hcz10_1
         try clear hcz10_2
         try clear hcz10_3
         try clear hcz10_4
         try clear hcz13_0
         try clear hcz13_1
         try clear hcz13_2
         try clear hcz13_3
         try clear hcz13_4
         try clear hcz16_0
         try clear hcz16_1
         try clear hcz16_2
         try clear hcz16_3
         try clear hcz16_4
         try clear hfz10_0
         try clear hfz10_1
         try clear hfz10_2
         try clear hfz10_3
         try clear hfz10_4
         try clear hfz13_0
         try clear hfz13_1
         try clear hfz13_2
         try clear hfz13_3
         try clear hfz13_4
         try clear hfz16_0
         try clear hfz16_1
         try clear hfz16_2
         try clear hfz16_3
         try clear hfz16_4
         try clear hx151_0
         try clear hx153_0
         try clear hx157_0
         try clear hx158_0
         try clear p1
         try clear p15
         try clear p151
         try clear p153
         try clear p157
         try clear p158
         try clear p2
         try clear p6
         try clear q1
         try clear q15
         try clear q151
         try clear q153
         try clear q157
         try clear q158
         obtain ⟨x7_3, x153001_3, u153001, rfl, HA, HK3, HO_4, HO_6, HO_153001, BK147, BK152, HB⟩ := hrel
         cases gk with
         | zero => exact absurd HA.out (by simp [spec_ReadOp.l1])
         | succ k3 =>
          have H := HA.out
          clear HA
          simp only [spec_ReadOp.l1] at H
          by_cases c28 : x7_3 < (t159.length : Int)
          ·rw [if_pos c28] at H
           have c28b0 := decide_eq_true c28
           clear c28
           obtain ⟨c29b0, H⟩ := ifd_ H
           replace H := Option.bind_eq_some_iff.mp H
           obtain ⟨⟨t163, t164⟩, A300, H⟩ := H
           try dsimp only at H
           have A30 := Aside0.mk A300
           clear A300
           obtain ⟨c31, H⟩ := ifs_ H
           have LMc31 := Aside0.mk c31
           clear c31
           first | ((with_reducible have hz_ := gy_ H); obtain ⟨y165, Ny165, H⟩ := hz_) | (generalize hy_ : ((x153001_3 ++ [t163]) : List Int) = y165 at H; have Ny165 := Aside0.mk hy_.symm; clear hy_)
           have H' := Aside0.mk H
           clear H
           obtain ⟨Ao32, co32, eo32⟩ := Kd.R_slice HO_6.out
           subst eo32
           have p162 : 0 ≤ (x7_3 : Int) := odt_
           have q162 : x7_3 < (t159.length : Int) := odt_
           obtain ⟨ad162, e162, hx162_0⟩ := Kd.at_string (Kd.R_reads' HO_6.out).2.2 x7_3 p162 q162
           cases e162
           replace p162 := eq_true p162
           replace q162 := eq_true q162
           go_wp2_with (first | ((with_reducible refine gate_callee (f := 16) rfl ?_); refine goesL_ (some 55) rfl rfl Tryd.func16 (by kernel_rfl) rfl #[.string (rdOf ByteArray.empty t159 x7_3)] rfl z1_ ?_; (with_reducible refine (spec_ReadDec.calls k3 (rdOf ByteArray.empty t159 x7_3) t163 t164 _ A30.out).mono ?_); rintro e w33 ⟨rfl, hb⟩; refine ⟨_, rfl, ?_⟩; replace HO_4 := Aside0.mk (Kd.R_below z19_ hb); replace HO_6 := Aside0.mk (Kd.R_below z109_ hb); replace HO_153001 := Aside0.mk (Kd.R_below z35_ hb); replace BK147 := Aside0.mk (blk_below (g := gb147) (o := .cells #[.int .i64 0, .slice none 0 0, .int .i64 0, .int .i64 0, .int .i64 0] 24 (0, 0)) z16_ hb); replace BK152 := Aside0.mk (blk_below (g := gb152) (o := .cells #[.int .i64 x153000_3, u153001, .int .i64 0, .int .i64 0, .int .i64 0] 24 (0, 0)) z23_ hb); replace HB := Aside0.mk (below_step z3_ hb); (try clear hb); have hnb34 := NB152_147.out; have hnc34 := NB147_152.out; obtain ⟨hcz35_0, hcz35_1, hcz35_2, hcz35_3, hcz35_4, hfz35_0, hfz35_1, hfz35_2, hfz35_3, hfz35_4⟩ := bx5_ BK152.out) | ((with_reducible refine gate_builtin (b := .append) (xs := #[.tmp 59, .tmp 61]) rfl ?_); at_builtin; refine Kd.R_append (Kd.int .i64) (w0 := w) w.heap.size rfl (.tmp 59) (.tmp 61) 22 3 (.int .i64 0) 8 rfl Tryd.underlying22 info3 rfl (by decide) (by omega) u153001 x153001_3 t163 [.int .i64 t163] (fun _ => True) (fun _ => False) rfl rfl ?aP (fun _ hk => hk.elim) ?aF ?aO ?aB ?aS ?aL ?_; (case aP => exact rfl); (case aB => exact z73_); (case aF => exact z116_); (case aO => exact z35_); (case aS => exact z71_); (case aL => have := LMc31.out; omega); intro v166 w36 ho hb hg hat; rw [← Ny165.out] at ho; replace HO_4 := Aside0.mk (Kd.R_over' z19_ (Kd.R_typed z35_) (by decide) hg); replace HO_6 := Aside0.mk (Kd.R_over' z109_ (Kd.R_typed z35_) (by decide) hg); replace BK147 := Aside0.mk (blk_grown (g := gb147) (o := .cells #[.int .i64 0, .slice none 0 0, .int .i64 0, .int .i64 0, .int .i64 0] 24 (0, 0)) z16_ hg (Kd.R_ne HO_153001.out BK147.out (by decide))); replace BK152 := Aside0.mk (blk_grown (g := gb152) (o := .cells #[.int .i64 x153000_3, u153001, .int .i64 0, .int .i64 0, .int .i64 0] 24 (0, 0)) z23_ hg (Kd.R_ne HO_153001.out BK152.out (by decide))); replace HB := Aside0.mk (hb); have HO167 := Aside0.mk (ho); clear HO_153001; clear ho hb hg hat; obtain ⟨Ao37, co37, eo37⟩ := Kd.R_slice HO167.out; subst eo37; obtain ⟨hcz38_0, hcz38_1, hcz38_2, hcz38_3, hcz38_4, hfz38_0, hfz38_1, hfz38_2, hfz38_3, hfz38_4⟩ := bx5_ BK152.out))
           go_roundg k3
           case measure => have := HJ3.out; have := HK2.out; have := HK3.out; omega
           case rel => exact ⟨(wrap64 (x7_3 + 1)), (y165), (.slice Ao37 y165.length co37), z4_, H', ⟨by have := HJ3.out; have := HK2.out; have := HK3.out; omega⟩, ⟨by (with_reducible repeat (first | apply Kd.R_alloc | apply Kd.R_drewN | apply Kd.R_drew)); exact Kd.R_mono (Kd.R_far (p := ⟨gb152, 1, none⟩) (Kd.R_types HO_4.out BK152.out (by decide)) (fun _ hk => hk.2) (.slice Ao37 y165.length co37)) (fun _ hk => hk.1)⟩, ⟨by (with_reducible repeat (first | apply Kd.R_alloc | apply Kd.R_drewN | apply Kd.R_drew)); exact Kd.R_mono (Kd.R_far (p := ⟨gb152, 1, none⟩) (Kd.R_types HO_6.out BK152.out (by decide)) (fun _ hk => hk.2) (.slice Ao37 y165.length co37)) (fun _ hk => hk.1)⟩, ⟨by (with_reducible repeat (first | apply Kd.R_alloc | apply Kd.R_drewN | apply Kd.R_drew)); exact Kd.R_mono (Kd.R_far (p := ⟨gb152, 1, none⟩) (Kd.R_types HO167.out BK152.out (by decide)) (fun _ hk => hk.2) (.slice Ao37 y165.length co37)) (fun _ hk => trivial)⟩, ⟨z26_⟩, ⟨by (with_reducible repeat (first | refine blk_drewN ?_ _ | refine blk_drew ?_ | refine blk_alloc ?_ _)); refine blk_put (cs := #[.int .i64 x153000_3, u153001, .int .i64 0, .int .i64 0, .int .i64 0]) ?_ 1 _ rfl; (with_reducible repeat (first | refine blk_drewN ?_ _ | refine blk_drew ?_ | refine blk_alloc ?_ _)); exact BK152.out⟩, ⟨z3_⟩⟩
          ·rw [if_neg c28] at H
           have c28b0 := decide_eq_false c28
           clear c28
           have H' := Aside0.mk H
           clear H
           obtain ⟨Ao39, co39, eo39⟩ := Kd.R_slice HO_6.out
           subst eo39
           go_wp2
           go_meet
           case rel => exact ⟨_, (x153001_3), (u153001), H', ⟨by have := HJ3.out; have := HK2.out; have := HK3.out; first | omega | exact Nat.le_refl _⟩, ⟨z92_⟩, ⟨z35_⟩, ⟨z16_⟩, ⟨z23_⟩, ⟨z3_⟩⟩
       ·rw [if_neg c24] at H
        have c24b0 := decide_eq_false c24
        have c24b1 : decide (1 < (rdOf ByteArray.empty x4_2 1).size) = false := decide_eq_false (by omega)
        clear c24
        (first | rw [c24b0] | rw [c24b1] | (simp only [i64_w, i32_w]; rw [c24b0]) | skip)
        have H' := Aside0.mk H
        clear H
        go_wp2
        go_meet
        case rel => exact ⟨_, (([] : List Int)), (.slice none 0 0), H', ⟨by have := HJ3.out; have := HK2.out; first | omega | exact Nat.le_refl _⟩, ⟨z19_⟩, ⟨z32_⟩, ⟨z16_⟩, ⟨z23_⟩, ⟨z3_⟩⟩
      case rest =>
       clear HC22
       try clear c1
       try clear p1
       try clear q1
       try clear hx1
       try clear qi1
       try clear c2
       try clear p2
       try clear c3
       try clear c3b0
       try clear c3b1
       try clear c5
       try clear p6
       try clear c9
       try clear c11
       try clear c11b0
       try clear c11b1
       try clear c12
       try clear c14
       try clear c14b0
       try clear c14b1
       try clear c15
       try clear p15
       try clear q15
       try clear hx15
       try clear qi15
       try clear c16
       try clear p16
       try clear q16
       try clear hx16
       try clear c17
       try clear c17b0
       try clear c17b1
       try clear c18
       try clear c21
       try clear c21b0
       try clear c21b1
       try clear c24
       try clear c24b0
       try clear c24b1
       try clear c25
       try clear c25b0
       try clear c25b1
       try clear c28
       try clear c28b0
       try clear c29
       try clear c29b0
       try clear c31
       try clear c34
       try clear hcz10_0
       try clear hcz10_1
       try clear hcz10_2
       try clear hcz10_3
       try clear hcz10_4
       try clear hcz13_0
       try clear hcz13_1
       try clear hcz13_2
       try clear hcz13_3
       try clear hcz13_4
       try clear hcz16_0
       try clear hcz16_1
       try clear hcz16_2
       try clear hcz16_3
       try clear hcz16_4
       try clear hcz35_0
       try clear hcz35_1
       try clear hcz35_2
       try clear hcz35_3
       try clear hcz35_4
       try clear hcz38_0
       try clear hcz38_1
       try clear hcz38_2
       try clear hcz38_3
       try clear hcz38_4
       try clear hfz10_0
       try clear hfz10_1
       try clear hfz10_2
       try clear hfz10_3
       try clear hfz10_4
       try clear hfz13_0
       try clear hfz13_1
       try clear hfz13_2
       try clear hfz13_3
       try clear hfz13_4
       try clear hfz16_0
       try clear hfz16_1
       try clear hfz16_2
       try clear hfz16_3
       try clear hfz16_4
       try clear hfz35_0
       try clear hfz35_1
       try clear hfz35_2
       try clear hfz35_3
       try clear hfz35_4
       try clear hfz38_0
       try clear hfz38_1
       try clear hfz38_2
       try clear hfz38_3
       try clear hfz38_4
       try clear hx151_0
       try clear hx153_0
       try clear hx157_0
       try clear hx158_0
       try clear hx162_0
       try clear p1
       try clear p15
       try clear p151
       try clear p153
       try clear p157
       try clear p158
       try clear p162
       try clear p2
       try clear p6
       try clear q1
       try clear q15
       try clear q151
       try clear q153
       try clear q157
       try clear q158
       try clear q162
       obtain ⟨kq, x153001_21, u153001, HA, HJ21, HO_4, HO_153001, BK147, BK152, HB⟩ := hcut
       cases kq with
       | zero => exact absurd HA.out (by simp [spec_ReadOp.j3])
       | succ kj21 =>
        have H := HA.out
        clear HA
        simp only [spec_ReadOp.j3] at H
        have HC40 := Aside0.mk H
        clear H
        have hnb41 := NB152_147.out
        have hnc41 := NB147_152.out
        obtain ⟨hcz42_0, hcz42_1, hcz42_2, hcz42_3, hcz42_4, hfz42_0, hfz42_1, hfz42_2, hfz42_3, hfz42_4⟩ := bx5_ BK152.out
        go_upto_if 66 with (fail)
        go_cut [] (fun wc => ∃ (kq : Nat) (x153002_39 : Int), Aside0 (spec_ReadOp.j4 kq a0 x4_2 x153000_3 x153001_21 x153002_39 0 0 = some (r1, r2, r3, r4, r5, r6)) ∧ Aside0 (kq ≤ kj21) ∧ Aside0 (Kd.R Kd.string 9 wc w.heap.size (fun _ => True) (.slice (some ad157) x4_2.length co23) x4_2) ∧ Aside0 (Kd.R (Kd.int .i64) 3 wc w.heap.size (fun _ => True) u153001 x153001_21) ∧ Aside0 (wc.heap[gb147]? = some (.cells #[.int .i64 0, (.slice none 0 0), .int .i64 0, .int .i64 0, .int .i64 0] 24 (0, 0))) ∧ Aside0 (wc.heap[gb152]? = some (.cells #[.int .i64 x153000_3, u153001, .int .i64 x153002_39, .int .i64 0, .int .i64 0] 24 (0, 0))) ∧ Aside0 (Below w.heap.size w wc))
        case first =>
         have H := HC40.out
         clear HC40
         by_cases c43 : x153000_3 = 2
         ·rw [if_pos c43] at H
          have c43b0 : (x153000_3 == 2) = true := beq_iff_eq.mpr c43
          have c43b1 : (x153000_3 != 2) = false := bne_eq_false_iff_eq.mpr c43
          clear c43
          (first | rw [c43b0] | rw [c43b1] | (simp only [i64_w, i32_w]; rw [c43b0]) | skip)
          have H' := Aside0.mk H
          clear H
          go_wp2
          go_meet
          case rel => exact ⟨_, (0), H', ⟨z115_⟩, ⟨z19_⟩, ⟨z35_⟩, ⟨z16_⟩, ⟨z23_⟩, ⟨z3_⟩⟩
         ·rw [if_neg c43] at H
          have c43b0 : (x153000_3 == 2) = false := beq_eq_false_iff_ne.mpr c43
          have c43b1 : (x153000_3 != 2) = true := bne_iff_ne.mpr c43
          (first | rw [c43b0] | rw [c43b1] | (simp only [i64_w, i32_w]; rw [c43b0]) | skip)
          obtain ⟨c44, H⟩ := ifs_ H
          have c44b0 := decide_eq_true c44
          have c44b1 : decide (2 < x4_2.length) = true := decide_eq_true (by omega)
          clear c44
          obtain ⟨t169, A45, H⟩ := bnd_ H
          have H' := Aside0.mk H
          clear H
          have p168 : 0 ≤ (2 : Int) := (by omega)
          have q168 : 2 < (x4_2.length : Int) := odt_
          obtain ⟨ad168, e168, hx168_0⟩ := Kd.at_string (Kd.R_reads' HO_4.out).2.2 2 p168 q168
          obtain rfl : ad157 = ad168 := (by injection e168)
          (try simp only [show (2 : Int).toNat = 2 from rfl, Nat.reduceMul, Nat.reduceEqDiff, Go.Addr.add, ↓reduceIte] at hx168_0)
          have qi168 : (2 < x4_2.length) = True := eq_true (by omega)
          (try rw [show ((2 : Int)).toNat = 2 from rfl] at hx168_0)
          replace p168 := eq_true p168
          replace q168 := eq_true q168
          go_wp2_with (first | ((with_reducible refine gate_callee (f := 17) rfl ?_); refine goesL_ (some 70) rfl rfl Tryd.func17 (by kernel_rfl) rfl #[.string (rdOf ByteArray.empty x4_2 2)] rfl z1_ ?_; (with_reducible refine (spec_LabelOf.calls kj21 (rdOf ByteArray.empty x4_2 2) t169 _ A45.out).mono ?_); rintro e w46 ⟨rfl, hb⟩; refine ⟨_, rfl, ?_⟩; replace HO_4 := Aside0.mk (Kd.R_below z19_ hb); replace HO_153001 := Aside0.mk (Kd.R_below z35_ hb); replace BK147 := Aside0.mk (blk_below (g := gb147) (o := .cells #[.int .i64 0, .slice none 0 0, .int .i64 0, .int .i64 0, .int .i64 0] 24 (0, 0)) z16_ hb); replace BK152 := Aside0.mk (blk_below (g := gb152) (o := .cells #[.int .i64 x153000_3, u153001, .int .i64 0, .int .i64 0, .int .i64 0] 24 (0, 0)) z23_ hb); replace HB := Aside0.mk (below_step z3_ hb); (try clear hb); have hnb47 := NB152_147.out; have hnc47 := NB147_152.out; obtain ⟨hcz48_0, hcz48_1, hcz48_2, hcz48_3, hcz48_4, hfz48_0, hfz48_1, hfz48_2, hfz48_3, hfz48_4⟩ := bx5_ BK152.out))
          go_meet
          case rel => exact ⟨_, (t169), H', ⟨z115_⟩, ⟨by (with_reducible repeat (first | apply Kd.R_alloc | apply Kd.R_drewN | apply Kd.R_drew)); exact Kd.R_mono (Kd.R_far (p := ⟨gb152, 2, none⟩) (Kd.R_types HO_4.out BK152.out (by decide)) (fun _ hk => hk.2) (.int .i64 t169)) (fun _ hk => trivial)⟩, ⟨by (with_reducible repeat (first | apply Kd.R_alloc | apply Kd.R_drewN | apply Kd.R_drew)); exact Kd.R_mono (Kd.R_far (p := ⟨gb152, 2, none⟩) (Kd.R_types HO_153001.out BK152.out (by decide)) (fun _ hk => hk.2) (.int .i64 t169)) (fun _ hk => trivial)⟩, ⟨z26_⟩, ⟨by (with_reducible repeat (first | refine blk_drewN ?_ _ | refine blk_drew ?_ | refine blk_alloc ?_ _)); refine blk_put (cs := #[.int .i64 x153000_3, u153001, .int .i64 0, .int .i64 0, .int .i64 0]) ?_ 2 _ rfl; (with_reducible repeat (first | refine blk_drewN ?_ _ | refine blk_drew ?_ | refine blk_alloc ?_ _)); exact BK152.out⟩, ⟨z3_⟩⟩
        case rest =>
         clear HC40
         try clear c1
         try clear p1
         try clear q1
         try clear hx1
         try clear qi1
         try clear c2
         try clear p2
         try clear c3
         try clear c3b0
         try clear c3b1
         try clear c4
         try clear c5
         try clear p6
         try clear c9
         try clear c11
         try clear c11b0
         try clear c11b1
         try clear c12
         try clear c14
         try clear c14b0
         try clear c14b1
         try clear c15
         try clear p15
         try clear q15
         try clear hx15
         try clear qi15
         try clear c16
         try clear p16
         try clear q16
         try clear hx16
         try clear qi16
         try clear c17
         try clear c17b0
         try clear c17b1
         try clear c18
         try clear c21
         try clear c21b0
         try clear c21b1
         try clear c24
         try clear c24b0
         try clear c24b1
         try clear c25
         try clear c25b0
         try clear c25b1
         try clear c28
         try clear c28b0
         try clear c29
         try clear c29b0
         try clear c31
         try clear c34
         try clear c41
         try clear c43
         try clear c43b0
         try clear c43b1
         try clear c44
         try clear c44b0
         try clear c44b1
         try clear c47
         try clear hcz10_0
         try clear hcz10_1
         try clear hcz10_2
         try clear hcz10_3
         try clear hcz10_4
         try clear hcz13_0
         try clear hcz13_1
         try clear hcz13_2
         try clear hcz13_3
         try clear hcz13_4
         try clear hcz16_0
         try clear hcz16_1
         try clear hcz16_2
         try clear hcz16_3
         try clear hcz16_4
         try clear hcz35_0
         try clear hcz35_1
         try clear hcz35_2
         try clear hcz35_3
         try clear hcz35_4
         try clear hcz38_0
         try clear hcz38_1
         try clear hcz38_2
         try clear hcz38_3
         try clear hcz38_4
         try clear hcz42_0
         try clear hcz42_1
         try clear hcz42_2
         try clear hcz42_3
         try clear hcz42_4
         try clear hcz48_0
         try clear hcz48_1
         try clear hcz48_2
         try clear hcz48_3
         try clear hcz48_4
         try clear hfz10_0
         try clear hfz10_1
         try clear hfz10_2
         try clear hfz10_3
         try clear hfz10_4
         try clear hfz13_0
         try clear hfz13_1
         try clear hfz13_2
         try clear hfz13_3
         try clear hfz13_4
         try clear hfz16_0
         try clear hfz16_1
         try clear hfz16_2
         try clear hfz16_3
         try clear hfz16_4
         try clear hfz35_0
         try clear hfz35_1
         try clear hfz35_2
         try clear hfz35_3
         try clear hfz35_4
         try clear hfz38_0
         try clear hfz38_1
         try clear hfz38_2
         try clear hfz38_3
         try clear hfz38_4
         try clear hfz42_0
         try clear hfz42_1
         try clear hfz42_2
         try clear hfz42_3
         try clear hfz42_4
         try clear hfz48_0
         try clear hfz48_1
         try clear hfz48_2
         try clear hfz48_3
         try clear hfz48_4
         try clear hx151_0
         try clear hx153_0
         try clear hx157_0
         try clear hx158_0
         try clear hx162_0
         try clear hx168_0
         try clear p1
         try clear p15
         try clear p151
         try clear p153
         try clear p157
         try clear p158
         try clear p16
         try clear p162
         try clear p168
         try clear p2
         try clear p6
         try clear q1
         try clear q15
         try clear q151
         try clear q153
         try clear q157
         try clear q158
         try clear q16
         try clear q162
         try clear q168
         obtain ⟨kq, x153002_39, HA, HJ39, HO_4, HO_153001, BK147, BK152, HB⟩ := hcut
         cases kq with
         | zero => exact absurd HA.out (by simp [spec_ReadOp.j4])
         | succ kj39 =>
          have H := HA.out
          clear HA
          simp only [spec_ReadOp.j4] at H
          by_cases c49 : x153000_3 = 3
          ·rw [if_pos c49] at H
           have c49b0 : (x153000_3 == 3) = true := beq_iff_eq.mpr c49
           have c49b1 : (x153000_3 != 3) = false := bne_eq_false_iff_eq.mpr c49
           clear c49
           obtain ⟨c50, H⟩ := ifs_ H
           have c50b0 := decide_eq_true c50
           have c50b1 : decide (3 < x4_2.length) = true := decide_eq_true (by omega)
           clear c50
           replace H := Option.bind_eq_some_iff.mp H
           obtain ⟨⟨t171, t172⟩, A510, H⟩ := H
           try dsimp only at H
           have A51 := Aside0.mk A510
           clear A510
           obtain ⟨c52, H⟩ := ifs_ H
           have c52b0 := decide_eq_true c52
           have c52b1 : decide (4 < x4_2.length) = true := decide_eq_true (by omega)
           clear c52
           replace H := Option.bind_eq_some_iff.mp H
           obtain ⟨⟨t174, t175⟩, A530, H⟩ := H
           try dsimp only at H
           have A53 := Aside0.mk A530
           clear A530
           by_cases c54 : a0.toList = ([] : List UInt8)
           ·rw [if_pos c54] at H
            have c54b0 : (a0.toList == ([] : List UInt8)) = true := beq_iff_eq.mpr c54
            have c54b1 : (a0.toList != ([] : List UInt8)) = false := bne_eq_false_iff_eq.mpr c54
            clear c54
            simp only [Option.some.injEq, Prod.mk.injEq] at H
            obtain ⟨rfl, rfl, rfl, rfl, rfl, rfl⟩ := H
            have hnb55 := NB152_147.out
            have hnc55 := NB147_152.out
            obtain ⟨hcz56_0, hcz56_1, hcz56_2, hcz56_3, hcz56_4, hfz56_0, hfz56_1, hfz56_2, hfz56_3, hfz56_4⟩ := bx5_ BK152.out
            have p170 : 0 ≤ (3 : Int) := (by omega)
            have q170 : 3 < (x4_2.length : Int) := odt_
            obtain ⟨ad170, e170, hx170_0⟩ := Kd.at_string (Kd.R_reads' HO_4.out).2.2 3 p170 q170
            obtain rfl : ad157 = ad170 := (by injection e170)
            (try simp only [show (3 : Int).toNat = 3 from rfl, Nat.reduceMul, Nat.reduceEqDiff, Go.Addr.add, ↓reduceIte] at hx170_0)
            have qi170 : (3 < x4_2.length) = True := eq_true (by omega)
            (try rw [show ((3 : Int)).toNat = 3 from rfl] at hx170_0)
            replace p170 := eq_true p170
            replace q170 := eq_true q170
            go_wp2_with (first | ((with_reducible refine gate_callee (f := 16) rfl ?_); refine goesL_ (some 79) rfl rfl Tryd.func16 (by kernel_rfl) rfl #[.string (rdOf ByteArray.empty x4_2 3)] rfl z1_ ?_; (with_reducible refine (spec_ReadDec.calls kj39 (rdOf ByteArray.empty x4_2 3) t171 t172 _ A51.out).mono ?_); rintro e w57 ⟨rfl, hb⟩; refine ⟨_, rfl, ?_⟩; replace HO_4 := Aside0.mk (Kd.R_below z19_ hb); replace HO_153001 := Aside0.mk (Kd.R_below z35_ hb); replace BK147 := Aside0.mk (blk_below (g := gb147) (o := .cells #[.int .i64 0, .slice none 0 0, .int .i64 0, .int .i64 0, .int .i64 0] 24 (0, 0)) z16_ hb); replace BK152 := Aside0.mk (blk_below (g := gb152) (o := .cells #[.int .i64 x153000_3, u153001, .int .i64 x153002_39, .int .i64 0, .int .i64 0] 24 (0, 0)) z23_ hb); replace HB := Aside0.mk (below_step z3_ hb); (try clear hb); obtain ⟨hcz58_0, hcz58_1, hcz58_2, hcz58_3, hcz58_4, hfz58_0, hfz58_1, hfz58_2, hfz58_3, hfz58_4⟩ := bx5_ BK152.out; have p173 : 0 ≤ (4 : Int) := (by omega); have q173 : 4 < (x4_2.length : Int) := odt_; obtain ⟨ad173, e173, hx173_0⟩ := Kd.at_string (Kd.R_reads' HO_4.out).2.2 4 p173 q173; obtain rfl : ad157 = ad173 := (by injection e173); (try simp only [show (4 : Int).toNat = 4 from rfl, Nat.reduceMul, Nat.reduceEqDiff, Go.Addr.add, ↓reduceIte] at hx173_0); have qi173 : (4 < x4_2.length) = True := eq_true (by omega); (try rw [show ((4 : Int)).toNat = 4 from rfl] at hx173_0); have hn173_0 : ad157.block ≠ gb152 := Kd.own_blk (Kd.R_ne HO_4.out BK152.out (by decide)); replace hx173_0 := (cell_far (p := ⟨gb152, 3, none⟩) z76_ (.int .i64 t171)).trans hx173_0; clear hn173_0; replace p173 := eq_true p173; replace q173 := eq_true q173) | ((with_reducible refine gate_callee (f := 16) rfl ?_); refine goesL_ (some 87) rfl rfl Tryd.func16 (by kernel_rfl) rfl #[.string (rdOf ByteArray.empty x4_2 4)] rfl z1_ ?_; (with_reducible refine (spec_ReadDec.calls kj39 (rdOf ByteArray.empty x4_2 4) t174 t175 _ A53.out).mono ?_); rintro e w59 ⟨rfl, hb⟩; refine ⟨_, rfl, ?_⟩; replace HO_4 := Aside0.mk (Kd.R_below z56_ hb); replace HO_153001 := Aside0.mk (Kd.R_below z54_ hb); replace BK147 := Aside0.mk (blk_below (g := gb147) (o := .cells #[.int .i64 0, .slice none 0 0, .int .i64 0, .int .i64 0, .int .i64 0] 24 (0, 0)) z26_ hb); replace BK152 := Aside0.mk (blk_below (g := gb152) (o := .cells #[.int .i64 x153000_3, u153001, .int .i64 x153002_39, .int .i64 t171, .int .i64 0] 24 (0, 0)) z43_ hb); replace HB := Aside0.mk (below_step z3_ hb); (try clear hb); obtain ⟨hcz60_0, hcz60_1, hcz60_2, hcz60_3, hcz60_4, hfz60_0, hfz60_1, hfz60_2, hfz60_3, hfz60_4⟩ := bx5_ BK152.out; obtain ⟨hcz61_0, hcz61_1, hcz61_2, hcz61_3, hcz61_4, hfz61_0, hfz61_1, hfz61_2, hfz61_3, hfz61_4⟩ := bx5_ BK147.out))
            refine bodyPost_ret (results_ct rfl _ _ gb147 24 #[.int .i64 0, .slice none 0 0, .int .i64 0, .int .i64 0, .int .i64 0] (0, 0) _ rfl (by (with_reducible repeat (first | refine blk_drewN ?_ _ | refine blk_drew ?_ | refine blk_alloc ?_ _)); refine blk_put (cs := #[.int .i64 0, .slice none 0 0, .int .i64 0, .int .i64 0, .int .i64 0]) ?_ 4 _ rfl; (with_reducible repeat (first | refine blk_drewN ?_ _ | refine blk_drew ?_ | refine blk_alloc ?_ _)); refine blk_put (cs := #[.int .i64 0, .slice none 0 0, .int .i64 0, .int .i64 0, .int .i64 0]) ?_ 3 _ rfl; (with_reducible repeat (first | refine blk_drewN ?_ _ | refine blk_drew ?_ | refine blk_alloc ?_ _)); refine blk_put (cs := #[.int .i64 0, .slice none 0 0, .int .i64 0, .int .i64 0, .int .i64 0]) ?_ 2 _ rfl; (with_reducible repeat (first | refine blk_drewN ?_ _ | refine blk_drew ?_ | refine blk_alloc ?_ _)); refine blk_put (cs := #[.int .i64 0, .slice none 0 0, .int .i64 0, .int .i64 0, .int .i64 0]) ?_ 1 _ rfl; (with_reducible repeat (first | refine blk_drewN ?_ _ | refine blk_drew ?_ | refine blk_alloc ?_ _)); refine blk_put (cs := #[.int .i64 0, .slice none 0 0, .int .i64 0, .int .i64 0, .int .i64 0]) ?_ 0 _ rfl; (with_reducible repeat (first | refine blk_drewN ?_ _ | refine blk_drew ?_ | refine blk_alloc ?_ _)); refine blk_far ?_ NB147_152.out _; (with_reducible repeat (first | refine blk_drewN ?_ _ | refine blk_drew ?_ | refine blk_alloc ?_ _)); exact BK147.out) Tryd.underlying24 rfl (by kernel_rfl)) rfl ?_
            exact ⟨_, z2_, z32_, z3_⟩
           ·rw [if_neg c54] at H
            have c54b0 : (a0.toList == ([] : List UInt8)) = false := beq_eq_false_iff_ne.mpr c54
            have c54b1 : (a0.toList != ([] : List UInt8)) = true := bne_iff_ne.mpr c54
            obtain ⟨t176, A62, H⟩ := bnd_ H
            by_cases c63 : t176.toList = a0.toList
            ·rw [if_pos c63] at H
             have c63b0 : (t176.toList == a0.toList) = true := beq_iff_eq.mpr c63
             have c63b1 : (t176.toList != a0.toList) = false := bne_eq_false_iff_eq.mpr c63
             clear c63
             simp only [Option.some.injEq, Prod.mk.injEq] at H
             obtain ⟨rfl, rfl, rfl, rfl, rfl, rfl⟩ := H
             have hnb64 := NB152_147.out
             have hnc64 := NB147_152.out
             obtain ⟨hcz65_0, hcz65_1, hcz65_2, hcz65_3, hcz65_4, hfz65_0, hfz65_1, hfz65_2, hfz65_3, hfz65_4⟩ := bx5_ BK152.out
             have p170 : 0 ≤ (3 : Int) := (by omega)
             have q170 : 3 < (x4_2.length : Int) := odt_
             obtain ⟨ad170, e170, hx170_0⟩ := Kd.at_string (Kd.R_reads' HO_4.out).2.2 3 p170 q170
             obtain rfl : ad157 = ad170 := (by injection e170)
             (try simp only [show (3 : Int).toNat = 3 from rfl, Nat.reduceMul, Nat.reduceEqDiff, Go.Addr.add, ↓reduceIte] at hx170_0)
             have qi170 : (3 < x4_2.length) = True := eq_true (by omega)
             (try rw [show ((3 : Int)).toNat = 3 from rfl] at hx170_0)
             replace p170 := eq_true p170
             replace q170 := eq_true q170
             go_wp2_with (first | ((with_reducible refine gate_callee (f := 16) rfl ?_); refine goesL_ (some 79) rfl rfl Tryd.func16 (by kernel_rfl) rfl #[.string (rdOf ByteArray.empty x4_2 3)] rfl z1_ ?_; (with_reducible refine (spec_ReadDec.calls kj39 (rdOf ByteArray.empty x4_2 3) t171 t172 _ A51.out).mono ?_); rintro e w66 ⟨rfl, hb⟩; refine ⟨_, rfl, ?_⟩; replace HO_4 := Aside0.mk (Kd.R_below z19_ hb); replace HO_153001 := Aside0.mk (Kd.R_below z35_ hb); replace BK147 := Aside0.mk (blk_below (g := gb147) (o := .cells #[.int .i64 0, .slice none 0 0, .int .i64 0, .int .i64 0, .int .i64 0] 24 (0, 0)) z16_ hb); replace BK152 := Aside0.mk (blk_below (g := gb152) (o := .cells #[.int .i64 x153000_3, u153001, .int .i64 x153002_39, .int .i64 0, .int .i64 0] 24 (0, 0)) z23_ hb); replace HB := Aside0.mk (below_step z3_ hb); (try clear hb); obtain ⟨hcz67_0, hcz67_1, hcz67_2, hcz67_3, hcz67_4, hfz67_0, hfz67_1, hfz67_2, hfz67_3, hfz67_4⟩ := bx5_ BK152.out; have p173 : 0 ≤ (4 : Int) := (by omega); have q173 : 4 < (x4_2.length : Int) := odt_; obtain ⟨ad173, e173, hx173_0⟩ := Kd.at_string (Kd.R_reads' HO_4.out).2.2 4 p173 q173; obtain rfl : ad157 = ad173 := (by injection e173); (try simp only [show (4 : Int).toNat = 4 from rfl, Nat.reduceMul, Nat.reduceEqDiff, Go.Addr.add, ↓reduceIte] at hx173_0); have qi173 : (4 < x4_2.length) = True := eq_true (by omega); (try rw [show ((4 : Int)).toNat = 4 from rfl] at hx173_0); have hn173_0 : ad157.block ≠ gb152 := Kd.own_blk (Kd.R_ne HO_4.out BK152.out (by decide)); replace hx173_0 := (cell_far (p := ⟨gb152, 3, none⟩) z76_ (.int .i64 t171)).trans hx173_0; clear hn173_0; replace p173 := eq_true p173; replace q173 := eq_true q173) | ((with_reducible refine gate_callee (f := 16) rfl ?_); refine goesL_ (some 87) rfl rfl Tryd.func16 (by kernel_rfl) rfl #[.string (rdOf ByteArray.empty x4_2 4)] rfl z1_ ?_; (with_reducible refine (spec_ReadDec.calls kj39 (rdOf ByteArray.empty x4_2 4) t174 t175 _ A53.out).mono ?_); rintro e w68 ⟨rfl, hb⟩; refine ⟨_, rfl, ?_⟩; replace HO_4 := Aside0.mk (Kd.R_below z56_ hb); replace HO_153001 := Aside0.mk (Kd.R_below z54_ hb); replace BK147 := Aside0.mk (blk_below (g := gb147) (o := .cells #[.int .i64 0, .slice none 0 0, .int .i64 0, .int .i64 0, .int .i64 0] 24 (0, 0)) z26_ hb); replace BK152 := Aside0.mk (blk_below (g := gb152) (o := .cells #[.int .i64 x153000_3, u153001, .int .i64 x153002_39, .int .i64 t171, .int .i64 0] 24 (0, 0)) z43_ hb); replace HB := Aside0.mk (below_step z3_ hb); (try clear hb); obtain ⟨hcz69_0, hcz69_1, hcz69_2, hcz69_3, hcz69_4, hfz69_0, hfz69_1, hfz69_2, hfz69_3, hfz69_4⟩ := bx5_ BK152.out; obtain ⟨Ao70, co70, eo70⟩ := Kd.R_slice HO_153001.out; subst eo70) | (go_at_call 18; (with_reducible refine (spec_OpText.calls kj39 x153000_3 _ _ x153001_21 x153002_39 t171 t174 t176 _ ?side1 ?side2 A62.out).mono ?_); (case side1 => refine (Kd.R_reads' (e := 3) (base := w.heap.size) (ok := fun k_ => True) (n := x153001_21.length) (c := co70) ?_).2.2; exact z44_); (case side2 => exact z117_); rintro e w71 ⟨rfl, hb⟩; replace HO_4 := Aside0.mk (Kd.R_below z66_ hb); replace HO_153001 := Aside0.mk (Kd.R_below z44_ hb); replace BK147 := Aside0.mk (blk_below (g := gb147) (o := .cells #[.int .i64 0, .slice none 0 0, .int .i64 0, .int .i64 0, .int .i64 0] 24 (0, 0)) z26_ hb); replace BK152 := Aside0.mk (blk_below (g := gb152) (o := .cells #[.int .i64 x153000_3, .slice Ao70 x153001_21.length co70, .int .i64 x153002_39, .int .i64 t171, .int .i64 t174] 24 (0, 0)) (by (with_reducible repeat (first | refine blk_drewN ?_ _ | refine blk_drew ?_ | refine blk_alloc ?_ _)); refine blk_put (cs := #[.int .i64 x153000_3, .slice Ao70 x153001_21.length co70, .int .i64 x153002_39, .int .i64 t171, .int .i64 0]) ?_ 4 _ rfl; (with_reducible repeat (first | refine blk_drewN ?_ _ | refine blk_drew ?_ | refine blk_alloc ?_ _)); exact BK152.out) hb); replace HB := Aside0.mk (below_step z3_ hb); (try clear hb); obtain ⟨hcz72_0, hcz72_1, hcz72_2, hcz72_3, hcz72_4, hfz72_0, hfz72_1, hfz72_2, hfz72_3, hfz72_4⟩ := bx5_ BK152.out; obtain ⟨hcz73_0, hcz73_1, hcz73_2, hcz73_3, hcz73_4, hfz73_0, hfz73_1, hfz73_2, hfz73_3, hfz73_4⟩ := bx5_ BK147.out))
             refine bodyPost_ret (results_ct rfl _ _ gb147 24 #[.int .i64 x153000_3, .slice Ao70 x153001_21.length co70, .int .i64 x153002_39, .int .i64 t171, .int .i64 t174] (0, 0) _ rfl (by (with_reducible repeat (first | refine blk_drewN ?_ _ | refine blk_drew ?_ | refine blk_alloc ?_ _)); refine blk_put (cs := #[.int .i64 x153000_3, .slice Ao70 x153001_21.length co70, .int .i64 x153002_39, .int .i64 t171, .int .i64 0]) ?_ 4 _ rfl; (with_reducible repeat (first | refine blk_drewN ?_ _ | refine blk_drew ?_ | refine blk_alloc ?_ _)); refine blk_put (cs := #[.int .i64 x153000_3, .slice Ao70 x153001_21.length co70, .int .i64 x153002_39, .int .i64 0, .int .i64 0]) ?_ 3 _ rfl; (with_reducible repeat (first | refine blk_drewN ?_ _ | refine blk_drew ?_ | refine blk_alloc ?_ _)); refine blk_put (cs := #[.int .i64 x153000_3, .slice Ao70 x153001_21.length co70, .int .i64 0, .int .i64 0, .int .i64 0]) ?_ 2 _ rfl; (with_reducible repeat (first | refine blk_drewN ?_ _ | refine blk_drew ?_ | refine blk_alloc ?_ _)); refine blk_put (cs := #[.int .i64 x153000_3, .slice none 0 0, .int .i64 0, .int .i64 0, .int .i64 0]) ?_ 1 _ rfl; (with_reducible repeat (first | refine blk_drewN ?_ _ | refine blk_drew ?_ | refine blk_alloc ?_ _)); refine blk_put (cs := #[.int .i64 0, .slice none 0 0, .int .i64 0, .int .i64 0, .int .i64 0]) ?_ 0 _ rfl; (with_reducible repeat (first | refine blk_drewN ?_ _ | refine blk_drew ?_ | refine blk_alloc ?_ _)); exact BK147.out) Tryd.underlying24 rfl (by kernel_rfl)) rfl ?_
             exact ⟨_, z2_, by (with_reducible repeat (first | apply Kd.R_alloc | apply Kd.R_drewN | apply Kd.R_drew)); exact Kd.R_mono (Kd.R_far (p := ⟨gb147, 4, none⟩) (Kd.R_far (p := ⟨gb147, 3, none⟩) (Kd.R_far (p := ⟨gb147, 2, none⟩) (Kd.R_far (p := ⟨gb147, 1, none⟩) (Kd.R_far (p := ⟨gb147, 0, none⟩) (Kd.R_types HO_153001.out BK147.out (by decide)) (fun _ hk => hk.2) (.int .i64 x153000_3)) (fun _ hk => hk.2) (.slice Ao70 x153001_21.length co70)) (fun _ hk => hk.2) (.int .i64 x153002_39)) (fun _ hk => hk.2) (.int .i64 t171)) (fun _ hk => hk.2) (.int .i64 t174)) (fun _ hk => trivial), z3_⟩
            ·rw [if_neg c63] at H
             have c63b0 : (t176.toList == a0.toList) = false := beq_eq_false_iff_ne.mpr c63
             have c63b1 : (t176.toList != a0.toList) = true := bne_iff_ne.mpr c63
             simp only [Option.some.injEq, Prod.mk.injEq] at H
             obtain ⟨rfl, rfl, rfl, rfl, rfl, rfl⟩ := H
             have hnb74 := NB152_147.out
             have hnc74 := NB147_152.out
             obtain ⟨hcz75_0, hcz75_1, hcz75_2, hcz75_3, hcz75_4, hfz75_0, hfz75_1, hfz75_2, hfz75_3, hfz75_4⟩ := bx5_ BK152.out
             have p170 : 0 ≤ (3 : Int) := (by omega)
             have q170 : 3 < (x4_2.length : Int) := odt_
             obtain ⟨ad170, e170, hx170_0⟩ := Kd.at_string (Kd.R_reads' HO_4.out).2.2 3 p170 q170
             obtain rfl : ad157 = ad170 := (by injection e170)
             (try simp only [show (3 : Int).toNat = 3 from rfl, Nat.reduceMul, Nat.reduceEqDiff, Go.Addr.add, ↓reduceIte] at hx170_0)
             have qi170 : (3 < x4_2.length) = True := eq_true (by omega)
             (try rw [show ((3 : Int)).toNat = 3 from rfl] at hx170_0)
             replace p170 := eq_true p170
             replace q170 := eq_true q170
             go_wp2_with (first | ((with_reducible refine gate_callee (f := 16) rfl ?_); refine goesL_ (some 79) rfl rfl Tryd.func16 (by kernel_rfl) rfl #[.string (rdOf ByteArray.empty x4_2 3)] rfl z1_ ?_; (with_reducible refine (spec_ReadDec.calls kj39 (rdOf ByteArray.empty x4_2 3) t171 t172 _ A51.out).mono ?_); rintro e w76 ⟨rfl, hb⟩; refine ⟨_, rfl, ?_⟩; replace HO_4 := Aside0.mk (Kd.R_below z19_ hb); replace HO_153001 := Aside0.mk (Kd.R_below z35_ hb); replace BK147 := Aside0.mk (blk_below (g := gb147) (o := .cells #[.int .i64 0, .slice none 0 0, .int .i64 0, .int .i64 0, .int .i64 0] 24 (0, 0)) z16_ hb); replace BK152 := Aside0.mk (blk_below (g := gb152) (o := .cells #[.int .i64 x153000_3, u153001, .int .i64 x153002_39, .int .i64 0, .int .i64 0] 24 (0, 0)) z23_ hb); replace HB := Aside0.mk (below_step z3_ hb); (try clear hb); obtain ⟨hcz77_0, hcz77_1, hcz77_2, hcz77_3, hcz77_4, hfz77_0, hfz77_1, hfz77_2, hfz77_3, hfz77_4⟩ := bx5_ BK152.out; have p173 : 0 ≤ (4 : Int) := (by omega); have q173 : 4 < (x4_2.length : Int) := odt_; obtain ⟨ad173, e173, hx173_0⟩ := Kd.at_string (Kd.R_reads' HO_4.out).2.2 4 p173 q173; obtain rfl : ad157 = ad173 := (by injection e173); (try simp only [show (4 : Int).toNat = 4 from rfl, Nat.reduceMul, Nat.reduceEqDiff, Go.Addr.add, ↓reduceIte] at hx173_0); have qi173 : (4 < x4_2.length) = True := eq_true (by omega); (try rw [show ((4 : Int)).toNat = 4 from rfl] at hx173_0); have hn173_0 : ad157.block ≠ gb152 := Kd.own_blk (Kd.R_ne HO_4.out BK152.out (by decide)); replace hx173_0 := (cell_far (p := ⟨gb152, 3, none⟩) z76_ (.int .i64 t171)).trans hx173_0; clear hn173_0; replace p173 := eq_true p173; replace q173 := eq_true q173) | ((with_reducible refine gate_callee (f := 16) rfl ?_); refine goesL_ (some 87) rfl rfl Tryd.func16 (by kernel_rfl) rfl #[.string (rdOf ByteArray.empty x4_2 4)] rfl z1_ ?_; (with_reducible refine (spec_ReadDec.calls kj39 (rdOf ByteArray.empty x4_2 4) t174 t175 _ A53.out).mono ?_); rintro e w78 ⟨rfl, hb⟩; refine ⟨_, rfl, ?_⟩; replace HO_4 := Aside0.mk (Kd.R_below z56_ hb); replace HO_153001 := Aside0.mk (Kd.R_below z54_ hb); replace BK147 := Aside0.mk (blk_below (g := gb147) (o := .cells #[.int .i64 0, .slice none 0 0, .int .i64 0, .int .i64 0, .int .i64 0] 24 (0, 0)) z26_ hb); replace BK152 := Aside0.mk (blk_below (g := gb152) (o := .cells #[.int .i64 x153000_3, u153001, .int .i64 x153002_39, .int .i64 t171, .int .i64 0] 24 (0, 0)) z43_ hb); replace HB := Aside0.mk (below_step z3_ hb); (try clear hb); obtain ⟨hcz79_0, hcz79_1, hcz79_2, hcz79_3, hcz79_4, hfz79_0, hfz79_1, hfz79_2, hfz79_3, hfz79_4⟩ := bx5_ BK152.out; obtain ⟨Ao80, co80, eo80⟩ := Kd.R_slice HO_153001.out; subst eo80) | (go_at_call 18; (with_reducible refine (spec_OpText.calls kj39 x153000_3 _ _ x153001_21 x153002_39 t171 t174 t176 _ ?side1 ?side2 A62.out).mono ?_); (case side1 => refine (Kd.R_reads' (e := 3) (base := w.heap.size) (ok := fun k_ => True) (n := x153001_21.length) (c := co80) ?_).2.2; exact z44_); (case side2 => exact z117_); rintro e w81 ⟨rfl, hb⟩; replace HO_4 := Aside0.mk (Kd.R_below z66_ hb); replace HO_153001 := Aside0.mk (Kd.R_below z44_ hb); replace BK147 := Aside0.mk (blk_below (g := gb147) (o := .cells #[.int .i64 0, .slice none 0 0, .int .i64 0, .int .i64 0, .int .i64 0] 24 (0, 0)) z26_ hb); replace BK152 := Aside0.mk (blk_below (g := gb152) (o := .cells #[.int .i64 x153000_3, .slice Ao80 x153001_21.length co80, .int .i64 x153002_39, .int .i64 t171, .int .i64 t174] 24 (0, 0)) (by (with_reducible repeat (first | refine blk_drewN ?_ _ | refine blk_drew ?_ | refine blk_alloc ?_ _)); refine blk_put (cs := #[.int .i64 x153000_3, .slice Ao80 x153001_21.length co80, .int .i64 x153002_39, .int .i64 t171, .int .i64 0]) ?_ 4 _ rfl; (with_reducible repeat (first | refine blk_drewN ?_ _ | refine blk_drew ?_ | refine blk_alloc ?_ _)); exact BK152.out) hb); replace HB := Aside0.mk (below_step z3_ hb); (try clear hb); obtain ⟨hcz82_0, hcz82_1, hcz82_2, hcz82_3, hcz82_4, hfz82_0, hfz82_1, hfz82_2, hfz82_3, hfz82_4⟩ := bx5_ BK147.out))
             refine bodyPost_ret (results_ct rfl _ _ gb147 24 #[.int .i64 0, .slice none 0 0, .int .i64 0, .int .i64 0, .int .i64 0] (0, 0) _ rfl z8_ Tryd.underlying24 rfl (by kernel_rfl)) rfl ?_
             exact ⟨_, z2_, z32_, z3_⟩
          ·rw [if_neg c49] at H
           have c49b0 : (x153000_3 == 3) = false := beq_eq_false_iff_ne.mpr c49
           have c49b1 : (x153000_3 != 3) = true := bne_iff_ne.mpr c49
           by_cases c83 : a0.toList = ([] : List UInt8)
           ·rw [if_pos c83] at H
            have c83b0 : (a0.toList == ([] : List UInt8)) = true := beq_iff_eq.mpr c83
            have c83b1 : (a0.toList != ([] : List UInt8)) = false := bne_eq_false_iff_eq.mpr c83
            clear c83
            simp only [Option.some.injEq, Prod.mk.injEq] at H
            obtain ⟨rfl, rfl, rfl, rfl, rfl, rfl⟩ := H
            have hnb84 := NB152_147.out
            have hnc84 := NB147_152.out
            obtain ⟨hcz85_0, hcz85_1, hcz85_2, hcz85_3, hcz85_4, hfz85_0, hfz85_1, hfz85_2, hfz85_3, hfz85_4⟩ := bx5_ BK152.out
            obtain ⟨hcz86_0, hcz86_1, hcz86_2, hcz86_3, hcz86_4, hfz86_0, hfz86_1, hfz86_2, hfz86_3, hfz86_4⟩ := bx5_ BK147.out
            go_wp2
            refine bodyPost_ret (results_ct rfl _ _ gb147 24 #[.int .i64 0, .slice none 0 0, .int .i64 0, .int .i64 0, .int .i64 0] (0, 0) _ rfl z8_ Tryd.underlying24 rfl (by kernel_rfl)) rfl ?_
            exact ⟨_, z2_, z32_, z3_⟩
           ·rw [if_neg c83] at H
            have c83b0 : (a0.toList == ([] : List UInt8)) = false := beq_eq_false_iff_ne.mpr c83
            have c83b1 : (a0.toList != ([] : List UInt8)) = true := bne_iff_ne.mpr c83
            obtain ⟨t177, A87, H⟩ := bnd_ H
            by_cases c88 : t177.toList = a0.toList
            ·rw [if_pos c88] at H
             have c88b0 : (t177.toList == a0.toList) = true := beq_iff_eq.mpr c88
             have c88b1 : (t177.toList != a0.toList) = false := bne_eq_false_iff_eq.mpr c88
             clear c88
             simp only [Option.some.injEq, Prod.mk.injEq] at H
             obtain ⟨rfl, rfl, rfl, rfl, rfl, rfl⟩ := H
             have hnb89 := NB152_147.out
             have hnc89 := NB147_152.out
             obtain ⟨hcz90_0, hcz90_1, hcz90_2, hcz90_3, hcz90_4, hfz90_0, hfz90_1, hfz90_2, hfz90_3, hfz90_4⟩ := bx5_ BK152.out
             obtain ⟨Ao91, co91, eo91⟩ := Kd.R_slice HO_153001.out
             subst eo91
             go_wp2_with (first | (go_at_call 18; (with_reducible refine (spec_OpText.calls kj39 x153000_3 _ _ x153001_21 x153002_39 0 0 t177 _ ?side1 ?side2 A87.out).mono ?_); (case side1 => exact z78_); (case side2 => exact z117_); rintro e w92 ⟨rfl, hb⟩; replace HO_4 := Aside0.mk (Kd.R_below z19_ hb); replace HO_153001 := Aside0.mk (Kd.R_below z35_ hb); replace BK147 := Aside0.mk (blk_below (g := gb147) (o := .cells #[.int .i64 0, .slice none 0 0, .int .i64 0, .int .i64 0, .int .i64 0] 24 (0, 0)) z16_ hb); replace BK152 := Aside0.mk (blk_below (g := gb152) (o := .cells #[.int .i64 x153000_3, .slice Ao91 x153001_21.length co91, .int .i64 x153002_39, .int .i64 0, .int .i64 0] 24 (0, 0)) z23_ hb); replace HB := Aside0.mk (below_step z3_ hb); (try clear hb); obtain ⟨hcz93_0, hcz93_1, hcz93_2, hcz93_3, hcz93_4, hfz93_0, hfz93_1, hfz93_2, hfz93_3, hfz93_4⟩ := bx5_ BK152.out; obtain ⟨hcz94_0, hcz94_1, hcz94_2, hcz94_3, hcz94_4, hfz94_0, hfz94_1, hfz94_2, hfz94_3, hfz94_4⟩ := bx5_ BK147.out))
             refine bodyPost_ret (results_ct rfl _ _ gb147 24 #[.int .i64 x153000_3, .slice Ao91 x153001_21.length co91, .int .i64 x153002_39, .int .i64 0, .int .i64 0] (0, 0) _ rfl (by (with_reducible repeat (first | refine blk_drewN ?_ _ | refine blk_drew ?_ | refine blk_alloc ?_ _)); refine blk_put (cs := #[.int .i64 x153000_3, .slice Ao91 x153001_21.length co91, .int .i64 x153002_39, .int .i64 0, .int .i64 0]) ?_ 4 _ rfl; (with_reducible repeat (first | refine blk_drewN ?_ _ | refine blk_drew ?_ | refine blk_alloc ?_ _)); refine blk_put (cs := #[.int .i64 x153000_3, .slice Ao91 x153001_21.length co91, .int .i64 x153002_39, .int .i64 0, .int .i64 0]) ?_ 3 _ rfl; (with_reducible repeat (first | refine blk_drewN ?_ _ | refine blk_drew ?_ | refine blk_alloc ?_ _)); refine blk_put (cs := #[.int .i64 x153000_3, .slice Ao91 x153001_21.length co91, .int .i64 0, .int .i64 0, .int .i64 0]) ?_ 2 _ rfl; (with_reducible repeat (first | refine blk_drewN ?_ _ | refine blk_drew ?_ | refine blk_alloc ?_ _)); refine blk_put (cs := #[.int .i64 x153000_3, .slice none 0 0, .int .i64 0, .int .i64 0, .int .i64 0]) ?_ 1 _ rfl; (with_reducible repeat (first | refine blk_drewN ?_ _ | refine blk_drew ?_ | refine blk_alloc ?_ _)); refine blk_put (cs := #[.int .i64 0, .slice none 0 0, .int .i64 0, .int .i64 0, .int .i64 0]) ?_ 0 _ rfl; (with_reducible repeat (first | refine blk_drewN ?_ _ | refine blk_drew ?_ | refine blk_alloc ?_ _)); exact BK147.out) Tryd.underlying24 rfl (by kernel_rfl)) rfl ?_
             exact ⟨_, z2_, by (with_reducible repeat (first | apply Kd.R_alloc | apply Kd.R_drewN | apply Kd.R_drew)); exact Kd.R_mono (Kd.R_far (p := ⟨gb147, 4, none⟩) (Kd.R_far (p := ⟨gb147, 3, none⟩) (Kd.R_far (p := ⟨gb147, 2, none⟩) (Kd.R_far (p := ⟨gb147, 1, none⟩) (Kd.R_far (p := ⟨gb147, 0, none⟩) (Kd.R_types HO_153001.out BK147.out (by decide)) (fun _ hk => hk.2) (.int .i64 x153000_3)) (fun _ hk => hk.2) (.slice Ao91 x153001_21.length co91)) (fun _ hk => hk.2) (.int .i64 x153002_39)) (fun _ hk => hk.2) (.int .i64 0)) (fun _ hk => hk.2) (.int .i64 0)) (fun _ hk => trivial), z3_⟩
            ·rw [if_neg c88] at H
             have c88b0 : (t177.toList == a0.toList) = false := beq_eq_false_iff_ne.mpr c88
             have c88b1 : (t177.toList != a0.toList) = true := bne_iff_ne.mpr c88
             simp only [Option.some.injEq, Prod.mk.injEq] at H
             obtain ⟨rfl, rfl, rfl, rfl, rfl, rfl⟩ := H
             have hnb95 := NB152_147.out
             have hnc95 := NB147_152.out
             obtain ⟨hcz96_0, hcz96_1, hcz96_2, hcz96_3, hcz96_4, hfz96_0, hfz96_1, hfz96_2, hfz96_3, hfz96_4⟩ := bx5_ BK152.out
             obtain ⟨Ao97, co97, eo97⟩ := Kd.R_slice HO_153001.out
             subst eo97
             go_wp2_with (first | (go_at_call 18; (with_reducible refine (spec_OpText.calls kj39 x153000_3 _ _ x153001_21 x153002_39 0 0 t177 _ ?side1 ?side2 A87.out).mono ?_); (case side1 => exact z78_); (case side2 => exact z117_); rintro e w98 ⟨rfl, hb⟩; replace HO_4 := Aside0.mk (Kd.R_below z19_ hb); replace HO_153001 := Aside0.mk (Kd.R_below z35_ hb); replace BK147 := Aside0.mk (blk_below (g := gb147) (o := .cells #[.int .i64 0, .slice none 0 0, .int .i64 0, .int .i64 0, .int .i64 0] 24 (0, 0)) z16_ hb); replace BK152 := Aside0.mk (blk_below (g := gb152) (o := .cells #[.int .i64 x153000_3, .slice Ao97 x153001_21.length co97, .int .i64 x153002_39, .int .i64 0, .int .i64 0] 24 (0, 0)) z23_ hb); replace HB := Aside0.mk (below_step z3_ hb); (try clear hb); obtain ⟨hcz99_0, hcz99_1, hcz99_2, hcz99_3, hcz99_4, hfz99_0, hfz99_1, hfz99_2, hfz99_3, hfz99_4⟩ := bx5_ BK147.out))
             refine bodyPost_ret (results_ct rfl _ _ gb147 24 #[.int .i64 0, .slice none 0 0, .int .i64 0, .int .i64 0, .int .i64 0] (0, 0) _ rfl z8_ Tryd.underlying24 rfl (by kernel_rfl)) rfl ?_
             exact ⟨_, z2_, z32_, z3_⟩

end Go.Proofs.YtlfmlagdnebkiaaDoor.PFnExactReadScript
