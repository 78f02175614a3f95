/- Laid by a program of this session out of the kit's print for the law FnMirrored: what it says of the machine is proved here, function by function; each contract under the conditions that it names. -/
import Derived.Test.YtbmkobanpakohaaMFnMirroredx0
import Derived.Test.YtbmkobanpakohaaMFnMirroredx3
namespace Go.Proofs.Ytbmkobanpakohaa.PFnMirrored
open Go.RowKit Go.Proofs.YtbmkobanpakohaaW.PrintWords Go.Proofs.YtbmkobanpakohaaW.PrintLast Go.Proofs.YtbmkobanpakohaaW.PrintMore
attribute [local go_sem] max2_int min2_int max_two min_two max_three min_three max_four min_four   -- for this text's walks alone
set_option linter.unusedVariables false
set_option linter.unusedSimpArgs false

/-! ### impl_RankOf: function 94 -/
def impl_RankOf.l0 : Nat → List Int → List Int → Int → Int → Option (List Int)
 | 0, _, _, _, _ => none
 | k + 1, x4, x12, x13, x14 => if x14 < x13 then (if 0 ≤ x14 then (if x14 < (x12.length : Int) then (if 0 ≤ (rd x12 x14) then (if (rd x12 x14) < (x4.length : Int) then (impl_RankOf.l0 k (x4.set ((rd x12 x14) : Int).toNat x14) x12 x13 (wrap64 (x14 + 1))) else (none)) else (none)) else (none)) else (none)) else (some x4)
def impl_RankOf.f (k : Nat) (l0 : List (S61)) : Option (List Int) := (impl_PostOrder.f k l0).bind fun t135 => (if 0 ≤ (t135.length : Int) then (if ((t135.length : Int) : Int).toNat ≤ 35184372088832 then (impl_RankOf.l0 k (List.replicate ((t135.length : Int) : Int).toNat 0) t135 (t135.length : Int) 0) else (none)) else (none))
set_option maxHeartbeats 8000000 in
set_option maxRecDepth 100000 in
theorem impl_RankOf.calls (k : Nat) (A0 : Option Addr) (c0 : Nat) (l0 : List (S61)) (r : List Int) (w : World) (hr0 : Kd.C k61 w A0 l0.length l0) (hc0 : l0.length ≤ c0) (h : impl_RankOf.f k l0 = some r) :
  Calls Try.prog 94 #[.slice A0 l0.length c0] w fun e w' => ∃ v0_ : Value, e = .returned (v0_) ∧ Kd.R (Kd.int .i64) 3 w' w.heap.size (fun _ => True) v0_ r ∧ Below w.heap.size w w' := by
 have HR0 := Aside0.mk hr0
 have HC0 := Aside0.mk hc0
 clear hr0 hc0
 have HB := Aside0.mk (Below.refl w.heap.size w)
 have H : ((impl_PostOrder.f k l0).bind fun t135 => (if 0 ≤ (t135.length : Int) then (if ((t135.length : Int) : Int).toNat ≤ 35184372088832 then (impl_RankOf.l0 k (List.replicate ((t135.length : Int) : Int).toNat 0) t135 (t135.length : Int) 0) else (none)) else (none))) = some r := h
 clear h
 obtain ⟨t135, A2, H⟩ := bnd_ H
 obtain ⟨c3b0, c3b1, H⟩ := ife_ H
 obtain ⟨c4b0, c4b1, H⟩ := ife_ H
 (generalize hy_ : ((List.replicate ((t135.length : Int) : Int).toNat 0) : List Int) = y138 at H; have Ny138 := Aside0.mk hy_.symm; clear hy_)
 have H' := Aside0.mk H
 clear H
 go_enter Try.func94, Try.ntmps94
 go_wp2_with (first | ((with_reducible refine gate_callee (f := 85) rfl ?_); refine goesL_ (some 8) rfl rfl Try.func85 (by kernel_rfl) rfl #[.slice A0 l0.length c0] rfl z1_ ?_; (with_reducible refine (impl_PostOrder.calls k _ _ l0 t135 _ ?side1 ?side2 A2.out).mono ?_); (case side1 => exact z22_); (case side2 => exact HC0.out); rintro e w5 ⟨v136, rfl, ho0, hb⟩; refine ⟨_, rfl, ?_⟩; have HO137 := Aside0.mk (Kd.R_lower ho0 (below_size z0_)); replace HB := Aside0.mk (below_step z0_ hb); (try clear hb ho0); obtain ⟨Ao6, co6, eo6⟩ := Kd.R_slice HO137.out; subst eo6) | ((with_reducible refine gate_dst (N := 11) rfl ?_); refine Kd.R_make (Kd.int .i64) _ 3 rfl (N := 11) rfl 30 _ _ rfl (t135.length : Int) rfl rfl Try.underlying30 (.int .i64 0) 8 info3 rfl (by decide) (by omega) 0 (ok := fun _ => True) (okp := fun _ => True) rfl (fun _ hk => hk) trivial (odt_) (Nat.le_trans (Nat.mul_le_mul_right _ (odt_ : (t135.length : Int).toNat ≤ 35184372088832)) (by omega)) (Below.refl _ _) (Nat.le_refl _) ?_; intro v139 w7 ho8 hb hg_ hnew_; clear hg_ hnew_; (rw [← Ny138.out] at ho8); have HO140 := Aside0.mk (Kd.R_lower (Kd.R_new' ho8 (Kd.R_lt z221_)) (below_size z0_)); replace HO137 := Aside0.mk (Kd.R_elder' z221_ (Kd.R_base ho8) hb); replace HB := Aside0.mk (below_step z0_ hb); clear hb ho8))
 go_loopg [14] k (fun kq v14 w' => ∃ (x4_1 : List Int) (x14_1 : Int), v14 = .int .i64 x14_1 ∧ Aside0 (impl_RankOf.l0 kq x4_1 t135 (t135.length : Int) x14_1 = some r) ∧ Aside0 (kq ≤ k) ∧ Aside0 (Kd.R (Kd.int .i64) 3 w' w.heap.size (fun k_ => some k_ ≠ ((.slice Ao6 t135.length co6) : Value).ownBlock) v139 x4_1) ∧ Aside0 (Kd.R (Kd.int .i64) 3 w' w.heap.size (fun k_ => some k_ ≠ (v139 : Value).ownBlock) (.slice Ao6 t135.length co6) t135) ∧ Aside0 (Below w.heap.size w w'))
 case atStart => exact ⟨(y138), (0), z10_, H', ⟨Nat.le_refl _⟩, ⟨by exact Kd.R_mono HO140.out (fun _ hk => hk.2)⟩, ⟨by exact Kd.R_mono HO137.out (fun _ hk => hk.2)⟩, ⟨z0_⟩⟩
 case round =>
  clear H'
  obtain ⟨x4_1, x14_1, rfl, HA, HK1, HO_4, HO_12, HB⟩ := hrel
  cases gk with
  | zero => exact absurd HA.out (by simp [impl_RankOf.l0])
  | succ k1 =>
   have H := HA.out
   clear HA
   simp only [impl_RankOf.l0] at H
   by_cases c9 : x14_1 < (t135.length : Int)
   ·rw [if_pos c9] at H
    have c9b0 := decide_eq_true c9
    clear c9
    obtain ⟨c10b0, H⟩ := ifd_ H
    obtain ⟨c11b0, H⟩ := ifd_ H
    obtain ⟨c12b0, H⟩ := ifd_ H
    obtain ⟨c13b0, H⟩ := ifd_ H
    (generalize hy_ : ((x4_1.set ((rd t135 x14_1) : Int).toNat x14_1) : List Int) = y142 at H; have Ny142 := Aside0.mk hy_.symm; clear hy_)
    have H' := Aside0.mk H
    clear H
    have p141 : 0 ≤ (x14_1 : Int) := odt_
    have q141 : x14_1 < (t135.length : Int) := odt_
    obtain ⟨ad141, e141, hx141_0⟩ := Kd.at_int (Kd.R_reads' HO_12.out).2.2 x14_1 p141 q141
    cases e141
    replace p141 := eq_true p141
    replace q141 := eq_true q141
    have p14 : 0 ≤ ((rd t135 x14_1) : Int) := odt_
    have q14 : ((rd t135 x14_1) : Int) < ((x4_1.length : Int) : Int) := odt_
    obtain ⟨go14, co14, eo14, gb14, gl14, cl14, HG14⟩ := Kd.R_form HO_4.out (by omega)
    (cases eo14)
    have GB14 := Aside0.mk gb14
    have GG14 := Aside0.mk HG14
    clear gb14 gl14 HG14
    obtain ⟨hx14_0, hf14_0⟩ := Kd.R_celln 0 HO_4.out ((rd t135 x14_1) : Int) p14 q14
    replace p14 := eq_true p14
    replace q14 := eq_true q14
    have HP15 := Kd.R_putg HO_4.out ((rd t135 x14_1) : Int) x14_1
    go_wp2_with (((with_reducible refine gate_store (t := 3) (p := 22) rfl ?_); refine store_event (t := 3) (p := 22) (v := ?vo_w16) (w1 := (wr.setCell ⟨go14, ((rd t135 x14_1) : Int).toNat, none⟩ (.int .i64 x14_1))) ?hg ?ho ?hn ?hr ?_; (case ho => rfl); (case hg => rfl); (case hn => rfl); (case hr => exact z19_); intro w16 hw; have hg : wr.grownBy w16 (some go14) := (by rw [hw]; exact HP15.2); have hp_ : Kd.R (Kd.int .i64) 3 w16 w.heap.size (fun k_ => some k_ ≠ (.slice (some ad141) t135.length co6 : Value).ownBlock) (.slice (some ⟨go14, 0, none⟩) x4_1.length co14) y142 := (by rw [hw, Ny142.out]; exact HP15.1); clear HP15; replace HO_4 := Aside0.mk (hp_); replace HO_12 := Aside0.mk (Kd.R_after (v := (.slice (some ⟨go14, 0, none⟩) x4_1.length co14)) (v1 := (.slice (some ⟨go14, 0, none⟩) x4_1.length co14)) (ok := (fun _ => True)) (by exact Kd.R_mono HO_12.out (fun _ hk => ⟨trivial, hk⟩)) hg (.inl rfl)); replace HB := Aside0.mk ((by rw [hw]; exact below_set (HB.out) GB14.out : Below w.heap.size w w16)); clear hg hw hp_))
    go_roundg k1
    case measure => have := HK1.out; omega
    case rel => exact ⟨(y142), (wrap64 (x14_1 + 1)), z10_, H', ⟨z143_⟩, ⟨z27_⟩, ⟨by exact Kd.R_mono HO_12.out (fun _ hk => hk.2)⟩, ⟨z0_⟩⟩
   ·rw [if_neg c9] at H
    have c9b0 := decide_eq_false c9
    clear c9
    obtain rfl := Option.some.inj H
    go_wp2
    go_ret
    exact ⟨_, z6_, by exact Kd.R_mono HO_4.out (fun _ hk => trivial), z0_⟩

/-! ### impl_LeftLeaf: function 86 -/
def impl_LeftLeaf.l0 : Nat → List (S61) → List Int → List Int → List Int → Int → Int → Option (List Int)
 | 0, _, _, _, _, _, _ => none
 | k + 1, x0, x3, x4, x11, x12, x13 => if x13 < x12 then (if 0 ≤ x13 then (if x13 < (x11.length : Int) then (if 0 ≤ (rd x11 x13) then (if (rd x11 x13) < (x4.length : Int) then ((impl_endOf.f k x0 (rd x11 x13)).bind fun t154 => (if x3.length < 17592186044416 then (impl_LeftLeaf.l0 k x0 (x3 ++ [wrap64 ((rd x4 (rd x11 x13)) - (wrap64 ((wrap64 (t154 - (rd x11 x13))) - 1)))]) x4 x11 x12 (wrap64 (x13 + 1))) else (none))) else (none)) else (none)) else (none)) else (none)) else (some x3)
def impl_LeftLeaf.f (k : Nat) (l0 : List (S61)) : Option (List Int) := (impl_RankOf.f k l0).bind fun t146 => ((impl_PostOrder.f k l0).bind fun t149 => (impl_LeftLeaf.l0 k l0 (([] : List Int)) t146 t149 (t149.length : Int) 0))
def impl_LeftLeaf.T5 : Bool × List (List Nat × List Nat) := (true, [([], []), ([], []), ([], []), ([1, 2], [1, 2]), ([3], [3]), ([], []), ([], []), ([5, 6], [5, 6]), ([], []), ([7, 8], [7, 8]), ([9], [9]), ([4, 10], [4, 10]), ([11], [11]), ([0, 12, 7], [0, 12]), ([13, 13, 0, 1, 2, 3, 4, 5, 6, 7, 8, 9, 10, 11, 12, 13], [0, 13])])
def impl_LeftLeaf.B5 : List Nat := [0, 0, 0, 6, 14, 0, 0, 96, 0, 480, 992, 2046, 4094, 8191, 16383]
theorem impl_LeftLeaf.tab5 : rtab .any (opsOf Try.f86 5) = impl_LeftLeaf.T5 := by kernel_rfl
theorem impl_LeftLeaf.bits5 : waitsOk impl_LeftLeaf.T5.2 impl_LeftLeaf.B5 = true := by kernel_rfl
set_option maxHeartbeats 8000000 in
set_option maxRecDepth 100000 in
theorem impl_LeftLeaf.calls (k : Nat) (A0 : Option Addr) (c0 : Nat) (l0 : List (S61)) (r : List Int) (w : World) (hr0 : Kd.C k61 w A0 l0.length l0) (hc0 : l0.length ≤ c0) (h : impl_LeftLeaf.f k l0 = some r) :
  Calls Try.prog 86 #[.slice A0 l0.length c0] w fun e w' => ∃ v0_ : Value, e = .returned (v0_) ∧ Kd.R (Kd.int .i64) 3 w' w.heap.size (fun _ => True) v0_ r ∧ Below w.heap.size w w' := by
 have HR0 := Aside0.mk hr0
 have HC0 := Aside0.mk hc0
 clear hr0 hc0
 have HB := Aside0.mk (Below.refl w.heap.size w)
 have H : ((impl_RankOf.f k l0).bind fun t146 => ((impl_PostOrder.f k l0).bind fun t149 => (impl_LeftLeaf.l0 k l0 (([] : List Int)) t146 t149 (t149.length : Int) 0))) = some r := h
 clear h
 (generalize hy_ : ((([] : List Int)) : List Int) = y143 at H; have Ny143 := Aside0.mk hy_.symm; clear hy_)
 obtain ⟨t146, A2, H⟩ := bnd_ H
 obtain ⟨t149, A3, H⟩ := bnd_ H
 have H' := Aside0.mk H
 clear H
 go_enter Try.func86, Try.ntmps86
 go_wp2_with (first | ((with_reducible refine gate_dst (N := 7) rfl ?_); refine Kd.R_lit (Kd.int .i64) _ 3 ?hg (N := 7) ?hd (xs := ([] : List Int)) (inner := []) (ok := fun _ => True) (okp := fun _ => True) ?hr ?hp (fun _ hk => hk) trivial (Below.refl _ _) (Nat.le_refl _) (by simp) ?_; (case hd => rfl); (case hg => rfl); (case hr => exact z19_); (case hp => exact z212_); intro v144 w4 ho5 hb hg_ hnew_; clear hg_ hnew_; (rw [← Ny143.out] at ho5); have HO145 := Aside0.mk (Kd.R_lower ho5 (below_size z0_)); replace HB := Aside0.mk (below_step z0_ hb); clear hb ho5) | ((with_reducible refine gate_callee (f := 94) rfl ?_); refine goesL_ (some 9) rfl rfl Try.func94 (by kernel_rfl) rfl #[.slice A0 l0.length c0] rfl z1_ ?_; (with_reducible refine (impl_RankOf.calls k _ _ l0 t146 _ ?side1 ?side2 A2.out).mono ?_); (case side1 => exact z7_); (case side2 => exact HC0.out); rintro e w6 ⟨v147, rfl, ho0, hb⟩; refine ⟨_, rfl, ?_⟩; have HO148 := Aside0.mk (Kd.R_lower (Kd.R_new' ho0 (Kd.R_lt z179_)) (below_size z0_)); replace HO145 := Aside0.mk (Kd.R_elder' z179_ (Kd.R_base ho0) hb); replace HB := Aside0.mk (below_step z0_ hb); (try clear hb ho0)) | ((with_reducible refine gate_callee (f := 85) rfl ?_); refine goesL_ (some 11) rfl rfl Try.func85 (by kernel_rfl) rfl #[.slice A0 l0.length c0] rfl z1_ ?_; (with_reducible refine (impl_PostOrder.calls k _ _ l0 t149 _ ?side1 ?side2 A3.out).mono ?_); (case side1 => exact z7_); (case side2 => exact HC0.out); rintro e w7 ⟨v150, rfl, ho0, hb⟩; refine ⟨_, rfl, ?_⟩; have HO151 := Aside0.mk (Kd.R_lower (Kd.R_new' (Kd.R_new' ho0 (Kd.R_lt z179_)) (Kd.R_lt z222_)) (below_size z0_)); replace HO145 := Aside0.mk (Kd.R_elder' z179_ (Kd.R_base ho0) hb); replace HO148 := Aside0.mk (Kd.R_elder' z222_ (Kd.R_base ho0) hb); replace HB := Aside0.mk (below_step z0_ hb); (try clear hb ho0); obtain ⟨Ao8, co8, eo8⟩ := Kd.R_slice HO151.out; subst eo8))
 go_loopg [3, 13] k (fun kq v3 v13 w' => ∃ (x3_1 : List Int) (x13_1 : Int), v13 = .int .i64 x13_1 ∧ Aside0 (impl_LeftLeaf.l0 kq l0 x3_1 t146 t149 (t149.length : Int) x13_1 = some r) ∧ Aside0 (kq ≤ k) ∧ Aside0 (Kd.R (Kd.int .i64) 3 w' w.heap.size (fun k_ => some k_ ≠ (v147 : Value).ownBlock ∧ some k_ ≠ ((.slice Ao8 t149.length co8) : Value).ownBlock) v3 x3_1) ∧ Aside0 (Kd.R (Kd.int .i64) 3 w' w.heap.size (fun k_ => some k_ ≠ (v3 : Value).ownBlock ∧ some k_ ≠ ((.slice Ao8 t149.length co8) : Value).ownBlock) v147 t146) ∧ Aside0 (Kd.R (Kd.int .i64) 3 w' w.heap.size (fun k_ => some k_ ≠ (v3 : Value).ownBlock ∧ some k_ ≠ (v147 : Value).ownBlock) (.slice Ao8 t149.length co8) t149) ∧ Aside0 (Below w.heap.size w w'))
 case atStart => exact ⟨(y143), (0), z10_, H', ⟨Nat.le_refl _⟩, ⟨by exact Kd.R_mono HO145.out (fun _ hk => ⟨hk.1.2, hk.2⟩)⟩, ⟨by exact Kd.R_mono HO148.out (fun _ hk => ⟨hk.1.2, hk.2⟩)⟩, ⟨by exact Kd.R_mono HO151.out (fun _ hk => ⟨hk.1.2, hk.2⟩)⟩, ⟨z0_⟩⟩
 case round =>
  clear H'
  obtain ⟨x3_1, x13_1, rfl, HA, HK1, HO_3, HO_4, HO_11, HB⟩ := hrel
  cases gk with
  | zero => exact absurd HA.out (by simp [impl_LeftLeaf.l0])
  | succ k1 =>
   have H := HA.out
   clear HA
   simp only [impl_LeftLeaf.l0] at H
   by_cases c9 : x13_1 < (t149.length : Int)
   ·rw [if_pos c9] at H
    have c9b0 := decide_eq_true c9
    clear c9
    obtain ⟨c10b0, H⟩ := ifd_ H
    obtain ⟨c11b0, H⟩ := ifd_ H
    obtain ⟨c12b0, H⟩ := ifd_ H
    obtain ⟨c13b0, H⟩ := ifd_ H
    obtain ⟨t154, A14, H⟩ := bnd_ H
    obtain ⟨c15, H⟩ := ifs_ H
    have LMc15 := Aside0.mk c15
    clear c15
    (generalize hy_ : ((x3_1 ++ [wrap64 ((rd t146 (rd t149 x13_1)) - (wrap64 ((wrap64 (t154 - (rd t149 x13_1))) - 1)))]) : List Int) = y155 at H; have Ny155 := Aside0.mk hy_.symm; clear hy_)
    have H' := Aside0.mk H
    clear H
    have p152 : 0 ≤ (x13_1 : Int) := odt_
    have q152 : x13_1 < (t149.length : Int) := odt_
    obtain ⟨ad152, e152, hx152_0⟩ := Kd.at_int (Kd.R_reads' HO_11.out).2.2 x13_1 p152 q152
    cases e152
    replace p152 := eq_true p152
    replace q152 := eq_true q152
    try go_wp2
    have n0_ := Aside0.mk (Kd.R_drew HO_3.out)
    have n1_ := Aside0.mk (Kd.R_drew HO_4.out)
    have n2_ := Aside0.mk (Kd.R_drew HO_11.out)
    have n3_ := Aside0.mk (below_drew1 HB.out)
    clear HO_3
    clear HO_4
    clear HO_11
    clear HB
    have HO_3 := n0_
    have HO_4 := n1_
    have HO_11 := n2_
    have HB := n3_
    clear n0_ n1_ n2_ n3_
    obtain ⟨Ao17, co17, eo17⟩ := Kd.R_slice HO_4.out
    (subst eo17)
    have p153 : 0 ≤ ((rd t149 x13_1) : Int) := odt_
    have q153 : (rd t149 x13_1) < (t146.length : Int) := odt_
    obtain ⟨ad153, e153, hx153_0⟩ := Kd.at_int (Kd.R_reads' HO_4.out).2.2 (rd t149 x13_1) p153 q153
    cases e153
    replace p153 := eq_true p153
    replace q153 := eq_true q153
    refine start_ (n := 15) (S := fun w' => w'.cell? (ad153.add ((rd t149 x13_1)).toNat) = some (.int .i64 (rd t146 (rd t149 x13_1)))) (ds := [12, 13]) (fl_ 15 0) (by kernel_rfl) rfl (fl_zero _) (hx153_0) (fun hHeld => ?_); refine with_tabW impl_LeftLeaf.tab5 impl_LeftLeaf.bits5 (fun HT_ HW_ => ?_)
    generalize wr.drew = w16 at HO_3 HO_4 HO_11 HB hx153_0 hHeld ⊢
    iterate 4 refine zp_ HT_ rfl rfl (by kernel_rfl) (fun _ _ _ h => h) (by rfl) ?_
    refine zpg_ (i := 5) (ra_ [4, 1, 1, 9]) HT_ rfl rfl (by kernel_rfl) (fun _ _ _ h => h) (by rfl) ?_
    refine zpg_ (i := 6) (ra_ [4, 1, 2, 8]) HT_ rfl rfl (by kernel_rfl) (fun _ _ _ h => h) (by rfl) ?_
    refine zpg_ (i := 8) (ra_ [4, 1, 2, 1, 1, 6]) HT_ rfl rfl (by kernel_rfl) (fun _ _ _ h => h) (by rfl) ?_
    refine ztg_ (i := 4) (ra_ [7, 1, 1, 6]) HT_ HW_ rfl rfl (by kernel_rfl) (fun _ _ _ h => h) (by rfl) hHeld ?_ (by intro w' s0; go_simp; with_reducible rfl)
    refine one_ (i := 7) (N := some 24) (fl_ 15 9) rfl rfl (one_of HT_.out (by kernel_rfl)) (by decide) (fun K hK => ?_)
    refine goes_ Try.func59 (by kernel_rfl) rfl #[.slice A0 l0.length c0, .int .i64 (rd t149 x13_1)] (by rfl) rfl rfl z1_ ?_
    with_reducible refine (impl_endOf.calls k1 _ _ l0 (rd t149 x13_1) t154 _ ?side1 ?side2 A14.out).mono ?_
    (case side1 => exact z7_)
    (case side2 => exact HC0.out)
    rintro e w' ⟨rfl, ⟨nd, rfl⟩⟩
    refine ⟨_, rfl, ?_⟩
    refine hK.out _ _ (hHeld) (fun hHeld => ?_)
    clear hK K
    refine zn_ rfl ?_
    iterate 3 refine zp_ HT_ rfl rfl (by kernel_rfl) (fun _ _ _ h => h) (by rfl) ?_
    refine last_ (i := 12) (N := some 29) (fl_ 15 13) rfl rfl (one_of HT_.out (by kernel_rfl)) (by decide) (fun K hK => ?_)
    refine value_ (w1 := ?_) (v := ?_) (by rfl) rfl ?_ ?_
    rotate_left 2
    ·go_simp
     constructor
     ·rfl
     ·rfl
    refine hK.out _ _ ?_
    clear hK K
    refine zn_ rfl ?_
    refine last_ (i := 13) (N := some 30) (fl_ 15 14) rfl rfl (one_of HT_.out (by kernel_rfl)) (by decide) (fun K hK => ?_)
    refine Kd.R_append_step (Kd.int .i64) (w0 := w) w.heap.size (by rfl) (.tmp 17) (.tmp 29) 30 3 (.int .i64 0) 8 rfl Try.underlying30 info3 rfl (by decide) (by omega) u3 x3_1 (wrap64 ((rd t146 (rd t149 x13_1)) - (wrap64 ((wrap64 (t154 - (rd t149 x13_1))) - 1)))) [.int .i64 (wrap64 ((rd t146 (rd t149 x13_1)) - (wrap64 ((wrap64 (t154 - (rd t149 x13_1))) - 1))))] (fun k_ => some k_ ≠ (.slice (some ad153) t146.length co17 : Value).ownBlock ∧ some k_ ≠ (.slice (some ad152) t149.length co8 : Value).ownBlock) (fun _ => False) rfl rfl ?aP (fun _ hk => hk.elim) ?aF ?aO ?aB ?aS ?aL ?_
    (case aP => exact rfl)
    (case aB => exact z84_)
    (case aF => exact (fun k_ hk => ⟨Kd.fresh' (Kd.R_lt z27_) k_ hk, Kd.fresh' (Kd.R_lt (by (with_reducible repeat (apply Kd.R_drewN)); exact HO_11.out)) k_ hk⟩))
    (case aO => exact z218_)
    (case aS => exact z78_)
    (case aL => have := LMc15.out; omega)
    intro v156 w18 ho hb hg hat
    rw [← Ny155.out] at ho
    have n0_ := Aside0.mk (Kd.R_after (ok := (fun k_ => some k_ ≠ (.slice (some ad152) t149.length co8 : Value).ownBlock)) z209_ hg hat)
    have n1_ := Aside0.mk (Kd.R_after (ok := (fun k_ => some k_ ≠ (.slice (some ad153) t146.length co17 : Value).ownBlock)) z208_ hg hat)
    have n2_ := Aside0.mk (hb)
    have n3_ := Aside0.mk (ho)
    clear HO_4
    clear HO_11
    clear HB
    clear HO_3
    have HO_4 := n0_
    have HO_11 := n1_
    have HB := n2_
    have HO157 := n3_
    clear n0_ n1_ n2_ n3_
    clear ho hb hg hat
    refine hK.out _ _ ?_
    clear hK K
    refine zn_ rfl ?_
    refine zp_ HT_ rfl rfl (by kernel_rfl) (fun _ _ _ h => h) (by rfl) ?_
    refine done_ (done_of HT_.out (by kernel_rfl)) ?_
    try go_wp2
    go_roundg k1
    case measure => have := HK1.out; omega
    case rel => exact ⟨(y155), (wrap64 (x13_1 + 1)), z10_, H', ⟨z143_⟩, ⟨by exact HO157.out⟩, ⟨z209_⟩, ⟨z208_⟩, ⟨z0_⟩⟩
   ·rw [if_neg c9] at H
    have c9b0 := decide_eq_false c9
    clear c9
    obtain rfl := Option.some.inj H
    go_wp2
    go_ret
    exact ⟨_, z6_, by exact Kd.R_mono HO_3.out (fun _ hk => trivial), z0_⟩

end Go.Proofs.Ytbmkobanpakohaa.PFnMirrored
