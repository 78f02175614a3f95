/- Laid by a program of this session out of the kit's print for the law FnExactDomDelete: what it says of the machine is proved here, function by function; each contract under the conditions that it names. -/
import Derived.Test.YtdapeboajjidmabMFnExactDomDeletex0
import Derived.Test.YtdapeboajjidmabMFnExactDomDeletex1
import Derived.Test.YtdapeboajjidmabMFnExactDomDeletex2
import Derived.Test.YtdapeboajjidmabMFnExactDomDeletex3
import Derived.Test.YtdapeboajjidmabMFnExactDomDeletex4
namespace Go.Proofs.Ytdapeboajjidmab.PFnExactDomDelete
open Go.RowKit Go.Proofs.YtdapeboajjidmabW.PrintWords Go.Proofs.YtdapeboajjidmabW.PrintLast Go.Proofs.YtdapeboajjidmabW.PrintMore
attribute [local go_sem] max2_int min2_int max_two min_two max_three min_three max_four min_four   -- for this text's walks alone
set_option linter.unusedVariables false
set_option linter.unusedSimpArgs false

attribute [local go_sem high] eqA72
/-! ### spec_DomOk: function 15 -/
mutual
def spec_DomOk.j0 : Nat → Bool → List (S72) → Option (Bool)
 | 0, _, _ => none
 | k + 1, x44, x149000 => if x44 = true then (some false) else ((spec_l16Walk.f k x149000 0 0 ([] : List Int) ([] : List Int)).bind fun bt154 => (if (bt154.1.length : Int) > 24 then (some false) else (if 0 ≤ (x149000.length : Int) then (if ((x149000.length : Int) : Int).toNat ≤ 281474976710656 then (spec_DomOk.l0 k bt154.1 (List.replicate ((x149000.length : Int) : Int).toNat false) 0 x149000) else (none)) else (none))))
def spec_DomOk.l0 : Nat → List Int → List Bool → Int → List (S72) → Option (Bool)
 | 0, _, _, _, _ => none
 | k + 1, x3, x5, x6, x149000 => if x6 < (x3.length : Int) then (if 0 ≤ x6 then (if 0 ≤ (rd x3 x6) then (if (rd x3 x6) < (x5.length : Int) then (if rdOf false x5 (rd x3 x6) = true then (some false) else (if (rd x3 x6) < (x149000.length : Int) then (if ((rd_T72 x149000 (rd x3 x6)).f0 = true) then ((spec_LabelOk.f ((rd_T72 x149000 (rd x3 x6)).f1)).bind fun t169 => (if t169 = true then (spec_DomOk.l0 k x3 (x5.set ((rd x3 x6) : Int).toNat true) (wrap64 (x6 + 1)) x149000) else (some false))) else (some false)) else (none))) else (none)) else (none)) else (none)) else (spec_DomOk.l1 k x5 0 x149000)
def spec_DomOk.l1 : Nat → List Bool → Int → List (S72) → Option (Bool)
 | 0, _, _, _ => none
 | k + 1, x5, x7, x149000 => if x7 < (x149000.length : Int) then (if 0 ≤ x7 then (if x7 < (x5.length : Int) then (if rdOf false x5 x7 = true then ((spec_l16Links.f k x149000 x7).bind fun t174 => (if t174 = true then (spec_DomOk.l1 k x5 (wrap64 (x7 + 1)) x149000) else (some false))) else ((spec_l16Empty.f).bind fun bt176 => (if (!(((rd_T72 x149000 x7).f0) == bt176.1) || (!(((rd_T72 x149000 x7).f1) == bt176.2.1) || (!(((rd_T72 x149000 x7).f2) == bt176.2.2.1) || (!(((rd_T72 x149000 x7).f3) == bt176.2.2.2.1) || (!(((rd_T72 x149000 x7).f4) == bt176.2.2.2.2.1) || (!(((rd_T72 x149000 x7).f5) == bt176.2.2.2.2.2.1) || (!(((rd_T72 x149000 x7).f6) == bt176.2.2.2.2.2.2)))))))) = true then (some false) else (spec_DomOk.l1 k x5 (wrap64 (x7 + 1)) x149000)))) else (none)) else (none)) else (some true)
end
def spec_DomOk.f (k : Nat) (l0_0 : List (S72)) : Option (Bool) := (spec_l1In.f (l0_0.length : Int) 1 24).bind fun t149 => (if t149 = true then (if 0 < (l0_0.length : Int) then (if ((rd_T72 l0_0 0).f0 = true) then (if ((rd_T72 l0_0 0).f2) = (-1) then (if ((rd_T72 l0_0 0).f5) = (-1) then (spec_DomOk.j0 k (((rd_T72 l0_0 0).f6) != (-1)) l0_0) else (spec_DomOk.j0 k true l0_0)) else (spec_DomOk.j0 k true l0_0)) else (spec_DomOk.j0 k true l0_0)) else (none)) else (spec_DomOk.j0 k true l0_0))
def spec_DomOk.T10 : Bool × List (List Nat × List Nat) := (true, [([], []), ([], []), ([], []), ([1, 2], [1, 2]), ([3], [3]), ([0, 4], [0, 4]), ([5], [5]), ([6], [6]), ([7], [7]), ([8, 7], [7, 8]), ([7], [7]), ([7], [7]), ([10, 11, 7], [7, 10, 11]), ([12, 7], [7, 12]), ([9, 13, 7], [7, 9, 13]), ([14, 7], [7, 14]), ([15, 7], [7, 15]), ([16, 7], [7, 16]), ([7, 17], [7, 17]), ([18, 7], [18]), ([19], [19]), ([20, 19], [19, 20]), ([19], [19]), ([19], [19]), ([22, 23, 19], [19, 22, 23]), ([24, 19], [19, 24]), ([21, 25, 19], [19, 21, 25]), ([26, 19], [19, 26]), ([27, 19], [19, 27]), ([28, 19, 19], [19, 28]), ([29, 19], [19, 29]), ([19, 30], [19, 30])])
def spec_DomOk.B10 : List Nat := [0, 0, 0, 6, 14, 31, 63, 127, 255, 511, 255, 255, 3327, 7423, 16383, 32767, 65535, 131071, 262143, 524287, 1048575, 2097151, 1048575, 1048575, 13631487, 30408703, 67108863, 134217727, 268435455, 536870911, 1073741823, 2147483647]
theorem spec_DomOk.tab10 : rtab .any (opsOf Try.f15 10) = spec_DomOk.T10 := by kernel_rfl
theorem spec_DomOk.bits10 : waitsOk spec_DomOk.T10.2 spec_DomOk.B10 = true := by kernel_rfl
def spec_DomOk.T16 : Bool × List (List Nat × List Nat) := (true, [([], []), ([], []), ([0, 1], [0, 1]), ([2], [2]), ([3], [3]), ([4], [4]), ([5], [5]), ([6, 5], [5, 6]), ([5], [5]), ([7, 8, 5], [5, 7, 8]), ([9, 5], [5, 9]), ([5, 5], [5]), ([10, 11, 5], [5, 10, 11]), ([5, 12], [5, 12]), ([13, 11], [13]), ([14], [14]), ([14], [14]), ([15, 16, 14], [14, 15, 16]), ([17, 14], [14, 17]), ([18, 14, 14], [14, 18]), ([19], [19]), ([19], [19]), ([20, 21, 19, 19], [19, 20, 21]), ([22, 19], [19, 22]), ([19, 23, 14], [14, 19, 23]), ([14, 24], [14, 24])])
def spec_DomOk.B16 : List Nat := [0, 0, 3, 7, 15, 31, 63, 127, 63, 511, 1023, 63, 4095, 8191, 16383, 32767, 32767, 131071, 262143, 524287, 1048575, 1048575, 4194303, 8388607, 16777215, 33554431]
theorem spec_DomOk.tab16 : rtab .any (opsOf Try.f15 16) = spec_DomOk.T16 := by kernel_rfl
theorem spec_DomOk.bits16 : waitsOk spec_DomOk.T16.2 spec_DomOk.B16 = true := by kernel_rfl
set_option maxHeartbeats 8000000 in
set_option maxRecDepth 100000 in
theorem spec_DomOk.calls (k : Nat) (A0_0 : Option Addr) (c0_0 : Nat) (l0_0 : List (S72)) (r : Bool) (w : World) (hr0_0 : Kd.C k72 w A0_0 l0_0.length l0_0) (hc0_0 : l0_0.length ≤ c0_0) (h : spec_DomOk.f k l0_0 = some r) :
  Calls Try.prog 15 #[.agg #[.slice A0_0 l0_0.length c0_0]] w fun e w' => e = .returned (.bool r) ∧ Below w.heap.size w w' := by
 have hu28 := Try.underlying28
 have hu72 := Try.underlying72
 have HR0_0 := Aside0.mk hr0_0
 have HC0_0 := Aside0.mk hc0_0
 clear hr0_0 hc0_0
 have HB := Aside0.mk (Below.refl w.heap.size w)
 have H : ((spec_l1In.f (l0_0.length : Int) 1 24).bind fun t149 => (if t149 = true then (if 0 < (l0_0.length : Int) then (if ((rd_T72 l0_0 0).f0 = true) then (if ((rd_T72 l0_0 0).f2) = (-1) then (if ((rd_T72 l0_0 0).f5) = (-1) then (spec_DomOk.j0 k (((rd_T72 l0_0 0).f6) != (-1)) l0_0) else (spec_DomOk.j0 k true l0_0)) else (spec_DomOk.j0 k true l0_0)) else (spec_DomOk.j0 k true l0_0)) else (none)) else (spec_DomOk.j0 k true l0_0))) = some r := h
 clear h
 have HC2 := Aside0.mk H
 clear H
 go_enter Try.func15, Try.ntmps15
 go_upto_region 1 with (first | ((with_reducible refine gate_dst (N := 1) rfl ?_); refine box_event ?hg (N := 1) ?hd (cs := #[.slice A0_0 l0_0.length c0_0]) (t := 28) ?hr ?_; (case hd => rfl); (case hg => rfl); (case hr => exact z25_); intro gb148 hg w3 hbox hb; have BK148 := Aside0.mk (hbox); have GW148 := Aside0.mk ((by rw [hg]; exact (below_size z0_) : w.heap.size ≤ gb148)); have GE148 := Aside0.mk ((by rw [hg]; exact (below_size z0_) : w.heap.size ≤ gb148)); replace HB := Aside0.mk (below_step z0_ hb); clear hb hbox hg))
 (try simp only [Act.put, List.setIfInBounds_toArray, List.set_cons_zero, List.set_cons_succ])
 go_cut [44] (fun v44 wc => ∃ (kq : Nat) (x44_1 : Bool), v44 = .bool x44_1 ∧ Aside0 (spec_DomOk.j0 kq x44_1 l0_0 = some r) ∧ Aside0 (kq ≤ k) ∧ Aside0 (wc.heap[gb148]? = some (.cells #[(.slice A0_0 l0_0.length c0_0)] 28 (0, 0))) ∧ Aside0 (Below w.heap.size w wc))
 case first =>
  have H := HC2.out
  clear HC2
  obtain ⟨t149, A4, H⟩ := bnd_ H
  by_cases c5 : t149 = true
  ·subst c5
   replace H := ift_ H
   obtain ⟨c6, H⟩ := ifs_ H
   have c6b0 : decide (0 < (l0_0.length : Int)) = true := decide_eq_true c6
   have c6b1 : decide (0 < l0_0.length) = true := decide_eq_true (by omega)
   clear c6
   (first | rw [c6b0] | rw [c6b1] | (simp only [i64_w, i32_w]; rw [c6b0]) | skip)
   obtain ⟨bq7, hbq7⟩ : ∃ b_ : Bool, b_ = ((rd_T72 l0_0 0).f0) := ⟨_, rfl⟩
   replace H : (if (bq7 = true) then (if ((rd_T72 l0_0 0).f2) = (-1) then (if ((rd_T72 l0_0 0).f5) = (-1) then (spec_DomOk.j0 k (((rd_T72 l0_0 0).f6) != (-1)) l0_0) else (spec_DomOk.j0 k true l0_0)) else (spec_DomOk.j0 k true l0_0)) else (spec_DomOk.j0 k true l0_0)) = some r := by rw [← hbq7] at H; exact H
   have Nbq7 := Aside0.mk hbq7
   clear hbq7
   by_cases c8 : (bq7 = true)
   ·subst c8
    replace H := ift_ H
    by_cases c9 : ((rd_T72 l0_0 0).f2) = (-1)
    ·rw [if_pos c9] at H
     have c9b0 : (((rd_T72 l0_0 0).f2) == (-1)) = true := beq_iff_eq.mpr c9
     have c9b1 : (((rd_T72 l0_0 0).f2) != (-1)) = false := bne_eq_false_iff_eq.mpr c9
     clear c9
     by_cases c10 : ((rd_T72 l0_0 0).f5) = (-1)
     ·rw [if_pos c10] at H
      have c10b0 : (((rd_T72 l0_0 0).f5) == (-1)) = true := beq_iff_eq.mpr c10
      have c10b1 : (((rd_T72 l0_0 0).f5) != (-1)) = false := bne_eq_false_iff_eq.mpr c10
      clear c10
      have H' := Aside0.mk H
      clear H
      have hcz11_0 : w3.cell? ⟨gb148, 0, none⟩ = some (.slice A0_0 l0_0.length c0_0) := (blk_cell BK148.out 0).trans rfl
      have hfz11_0 := blk_frozen BK148.out 0
      go_wp2_with (first | ((with_reducible refine gate_callee (f := 58) rfl ?_); refine goesL_ (some 11) rfl rfl Try.func58 (by kernel_rfl) rfl #[.int .i64 (l0_0.length : Int), .int .i64 1, .int .i64 24] rfl z1_ ?_; (with_reducible refine (spec_l1In.calls (l0_0.length : Int) 1 24 true _ A4.out).mono ?_); rintro e w' ⟨rfl, ⟨nd, rfl⟩⟩; refine ⟨_, rfl, ?_⟩; have p150 : 0 ≤ (0 : Int) := (by omega); have q150 : 0 < (l0_0.length : Int) := odt_; obtain ⟨ad150, e150, hx150_0, hx150_1, hx150_2, hx150_3, hx150_4, hx150_5, hx150_6⟩ := at_T72 HR0_0.out 0 p150 q150; (try rw [← Nbq7.out] at hx150_0); cases e150; have qi150 : (0 < l0_0.length) = True := eq_true (by omega); (try rw [show ((0 : Int)).toNat = 0 from rfl] at hx150_0); (try rw [show 0 * 7 = 0 from rfl] at hx150_0); (try rw [Addr.add_zero'] at hx150_0); (try rw [show ((0 : Int)).toNat = 0 from rfl] at hx150_1); (try rw [show 0 * 7 = 0 from rfl] at hx150_1); (try rw [Addr.add_zero'] at hx150_1); (try rw [show ((0 : Int)).toNat = 0 from rfl] at hx150_2); (try rw [show 0 * 7 = 0 from rfl] at hx150_2); (try rw [Addr.add_zero'] at hx150_2); (try rw [show ((0 : Int)).toNat = 0 from rfl] at hx150_3); (try rw [show 0 * 7 = 0 from rfl] at hx150_3); (try rw [Addr.add_zero'] at hx150_3); (try rw [show ((0 : Int)).toNat = 0 from rfl] at hx150_4); (try rw [show 0 * 7 = 0 from rfl] at hx150_4); (try rw [Addr.add_zero'] at hx150_4); (try rw [show ((0 : Int)).toNat = 0 from rfl] at hx150_5); (try rw [show 0 * 7 = 0 from rfl] at hx150_5); (try rw [Addr.add_zero'] at hx150_5); (try rw [show ((0 : Int)).toNat = 0 from rfl] at hx150_6); (try rw [show 0 * 7 = 0 from rfl] at hx150_6); (try rw [Addr.add_zero'] at hx150_6); replace hx150_0 := (HB.out.cell (World.block_lt_of_cell? w _ hx150_0)).trans hx150_0; replace hx150_1 := (HB.out.cell (World.block_lt_of_cell? w _ hx150_1)).trans hx150_1; replace hx150_2 := (HB.out.cell (World.block_lt_of_cell? w _ hx150_2)).trans hx150_2; replace hx150_3 := (HB.out.cell (World.block_lt_of_cell? w _ hx150_3)).trans hx150_3; replace hx150_4 := (HB.out.cell (World.block_lt_of_cell? w _ hx150_4)).trans hx150_4; replace hx150_5 := (HB.out.cell (World.block_lt_of_cell? w _ hx150_5)).trans hx150_5; replace hx150_6 := (HB.out.cell (World.block_lt_of_cell? w _ hx150_6)).trans hx150_6; replace p150 := eq_true p150; replace q150 := eq_true q150; have p151 : 0 ≤ (0 : Int) := (by omega); have q151 : 0 < (l0_0.length : Int) := odt_; obtain ⟨ad151, e151, hx151_0, hx151_1, hx151_2, hx151_3, hx151_4, hx151_5, hx151_6⟩ := at_T72 HR0_0.out 0 p151 q151; (try rw [← Nbq7.out] at hx151_0); obtain rfl : ad150 = ad151 := (by injection e151); have qi151 : (0 < l0_0.length) = True := eq_true (by omega); (try rw [show ((0 : Int)).toNat = 0 from rfl] at hx151_0); (try rw [show 0 * 7 = 0 from rfl] at hx151_0); (try rw [Addr.add_zero'] at hx151_0); (try rw [show ((0 : Int)).toNat = 0 from rfl] at hx151_1); (try rw [show 0 * 7 = 0 from rfl] at hx151_1); (try rw [Addr.add_zero'] at hx151_1); (try rw [show ((0 : Int)).toNat = 0 from rfl] at hx151_2); (try rw [show 0 * 7 = 0 from rfl] at hx151_2); (try rw [Addr.add_zero'] at hx151_2); (try rw [show ((0 : Int)).toNat = 0 from rfl] at hx151_3); (try rw [show 0 * 7 = 0 from rfl] at hx151_3); (try rw [Addr.add_zero'] at hx151_3); (try rw [show ((0 : Int)).toNat = 0 from rfl] at hx151_4); (try rw [show 0 * 7 = 0 from rfl] at hx151_4); (try rw [Addr.add_zero'] at hx151_4); (try rw [show ((0 : Int)).toNat = 0 from rfl] at hx151_5); (try rw [show 0 * 7 = 0 from rfl] at hx151_5); (try rw [Addr.add_zero'] at hx151_5); (try rw [show ((0 : Int)).toNat = 0 from rfl] at hx151_6); (try rw [show 0 * 7 = 0 from rfl] at hx151_6); (try rw [Addr.add_zero'] at hx151_6); replace hx151_0 := (HB.out.cell (World.block_lt_of_cell? w _ hx151_0)).trans hx151_0; replace hx151_1 := (HB.out.cell (World.block_lt_of_cell? w _ hx151_1)).trans hx151_1; replace hx151_2 := (HB.out.cell (World.block_lt_of_cell? w _ hx151_2)).trans hx151_2; replace hx151_3 := (HB.out.cell (World.block_lt_of_cell? w _ hx151_3)).trans hx151_3; replace hx151_4 := (HB.out.cell (World.block_lt_of_cell? w _ hx151_4)).trans hx151_4; replace hx151_5 := (HB.out.cell (World.block_lt_of_cell? w _ hx151_5)).trans hx151_5; replace hx151_6 := (HB.out.cell (World.block_lt_of_cell? w _ hx151_6)).trans hx151_6; replace p151 := eq_true p151; replace q151 := eq_true q151; have p152 : 0 ≤ (0 : Int) := (by omega); have q152 : 0 < (l0_0.length : Int) := odt_; obtain ⟨ad152, e152, hx152_0, hx152_1, hx152_2, hx152_3, hx152_4, hx152_5, hx152_6⟩ := at_T72 HR0_0.out 0 p152 q152; (try rw [← Nbq7.out] at hx152_0); obtain rfl : ad150 = ad152 := (by injection e152); have qi152 : (0 < l0_0.length) = True := eq_true (by omega); (try rw [show ((0 : Int)).toNat = 0 from rfl] at hx152_0); (try rw [show 0 * 7 = 0 from rfl] at hx152_0); (try rw [Addr.add_zero'] at hx152_0); (try rw [show ((0 : Int)).toNat = 0 from rfl] at hx152_1); (try rw [show 0 * 7 = 0 from rfl] at hx152_1); (try rw [Addr.add_zero'] at hx152_1); (try rw [show ((0 : Int)).toNat = 0 from rfl] at hx152_2); (try rw [show 0 * 7 = 0 from rfl] at hx152_2); (try rw [Addr.add_zero'] at hx152_2); (try rw [show ((0 : Int)).toNat = 0 from rfl] at hx152_3); (try rw [show 0 * 7 = 0 from rfl] at hx152_3); (try rw [Addr.add_zero'] at hx152_3); (try rw [show ((0 : Int)).toNat = 0 from rfl] at hx152_4); (try rw [show 0 * 7 = 0 from rfl] at hx152_4); (try rw [Addr.add_zero'] at hx152_4); (try rw [show ((0 : Int)).toNat = 0 from rfl] at hx152_5); (try rw [show 0 * 7 = 0 from rfl] at hx152_5); (try rw [Addr.add_zero'] at hx152_5); (try rw [show ((0 : Int)).toNat = 0 from rfl] at hx152_6); (try rw [show 0 * 7 = 0 from rfl] at hx152_6); (try rw [Addr.add_zero'] at hx152_6); replace hx152_0 := (HB.out.cell (World.block_lt_of_cell? w _ hx152_0)).trans hx152_0; replace hx152_1 := (HB.out.cell (World.block_lt_of_cell? w _ hx152_1)).trans hx152_1; replace hx152_2 := (HB.out.cell (World.block_lt_of_cell? w _ hx152_2)).trans hx152_2; replace hx152_3 := (HB.out.cell (World.block_lt_of_cell? w _ hx152_3)).trans hx152_3; replace hx152_4 := (HB.out.cell (World.block_lt_of_cell? w _ hx152_4)).trans hx152_4; replace hx152_5 := (HB.out.cell (World.block_lt_of_cell? w _ hx152_5)).trans hx152_5; replace hx152_6 := (HB.out.cell (World.block_lt_of_cell? w _ hx152_6)).trans hx152_6; replace p152 := eq_true p152; replace q152 := eq_true q152; have p153 : 0 ≤ (0 : Int) := (by omega); have q153 : 0 < (l0_0.length : Int) := odt_; obtain ⟨ad153, e153, hx153_0, hx153_1, hx153_2, hx153_3, hx153_4, hx153_5, hx153_6⟩ := at_T72 HR0_0.out 0 p153 q153; (try rw [← Nbq7.out] at hx153_0); obtain rfl : ad150 = ad153 := (by injection e153); have qi153 : (0 < l0_0.length) = True := eq_true (by omega); (try rw [show ((0 : Int)).toNat = 0 from rfl] at hx153_0); (try rw [show 0 * 7 = 0 from rfl] at hx153_0); (try rw [Addr.add_zero'] at hx153_0); (try rw [show ((0 : Int)).toNat = 0 from rfl] at hx153_1); (try rw [show 0 * 7 = 0 from rfl] at hx153_1); (try rw [Addr.add_zero'] at hx153_1); (try rw [show ((0 : Int)).toNat = 0 from rfl] at hx153_2); (try rw [show 0 * 7 = 0 from rfl] at hx153_2); (try rw [Addr.add_zero'] at hx153_2); (try rw [show ((0 : Int)).toNat = 0 from rfl] at hx153_3); (try rw [show 0 * 7 = 0 from rfl] at hx153_3); (try rw [Addr.add_zero'] at hx153_3); (try rw [show ((0 : Int)).toNat = 0 from rfl] at hx153_4); (try rw [show 0 * 7 = 0 from rfl] at hx153_4); (try rw [Addr.add_zero'] at hx153_4); (try rw [show ((0 : Int)).toNat = 0 from rfl] at hx153_5); (try rw [show 0 * 7 = 0 from rfl] at hx153_5); (try rw [Addr.add_zero'] at hx153_5); (try rw [show ((0 : Int)).toNat = 0 from rfl] at hx153_6); (try rw [show 0 * 7 = 0 from rfl] at hx153_6); (try rw [Addr.add_zero'] at hx153_6); replace hx153_0 := (HB.out.cell (World.block_lt_of_cell? w _ hx153_0)).trans hx153_0; replace hx153_1 := (HB.out.cell (World.block_lt_of_cell? w _ hx153_1)).trans hx153_1; replace hx153_2 := (HB.out.cell (World.block_lt_of_cell? w _ hx153_2)).trans hx153_2; replace hx153_3 := (HB.out.cell (World.block_lt_of_cell? w _ hx153_3)).trans hx153_3; replace hx153_4 := (HB.out.cell (World.block_lt_of_cell? w _ hx153_4)).trans hx153_4; replace hx153_5 := (HB.out.cell (World.block_lt_of_cell? w _ hx153_5)).trans hx153_5; replace hx153_6 := (HB.out.cell (World.block_lt_of_cell? w _ hx153_6)).trans hx153_6; replace p153 := eq_true p153; replace q153 := eq_true q153))
      go_meet
      case rel => exact ⟨_, ((((rd_T72 l0_0 0).f6) != (-1))), z12_, H', ⟨z103_⟩, ⟨z42_⟩, ⟨z13_⟩⟩
     ·rw [if_neg c10] at H
      have c10b0 : (((rd_T72 l0_0 0).f5) == (-1)) = false := beq_eq_false_iff_ne.mpr c10
      have c10b1 : (((rd_T72 l0_0 0).f5) != (-1)) = true := bne_iff_ne.mpr c10
      have H' := Aside0.mk H
      clear H
      have hcz12_0 : w3.cell? ⟨gb148, 0, none⟩ = some (.slice A0_0 l0_0.length c0_0) := (blk_cell BK148.out 0).trans rfl
      have hfz12_0 := blk_frozen BK148.out 0
      go_wp2_with (first | ((with_reducible refine gate_callee (f := 58) rfl ?_); refine goesL_ (some 11) rfl rfl Try.func58 (by kernel_rfl) rfl #[.int .i64 (l0_0.length : Int), .int .i64 1, .int .i64 24] rfl z1_ ?_; (with_reducible refine (spec_l1In.calls (l0_0.length : Int) 1 24 true _ A4.out).mono ?_); rintro e w' ⟨rfl, ⟨nd, rfl⟩⟩; refine ⟨_, rfl, ?_⟩; have p150 : 0 ≤ (0 : Int) := (by omega); have q150 : 0 < (l0_0.length : Int) := odt_; obtain ⟨ad150, e150, hx150_0, hx150_1, hx150_2, hx150_3, hx150_4, hx150_5, hx150_6⟩ := at_T72 HR0_0.out 0 p150 q150; (try rw [← Nbq7.out] at hx150_0); cases e150; have qi150 : (0 < l0_0.length) = True := eq_true (by omega); (try rw [show ((0 : Int)).toNat = 0 from rfl] at hx150_0); (try rw [show 0 * 7 = 0 from rfl] at hx150_0); (try rw [Addr.add_zero'] at hx150_0); (try rw [show ((0 : Int)).toNat = 0 from rfl] at hx150_1); (try rw [show 0 * 7 = 0 from rfl] at hx150_1); (try rw [Addr.add_zero'] at hx150_1); (try rw [show ((0 : Int)).toNat = 0 from rfl] at hx150_2); (try rw [show 0 * 7 = 0 from rfl] at hx150_2); (try rw [Addr.add_zero'] at hx150_2); (try rw [show ((0 : Int)).toNat = 0 from rfl] at hx150_3); (try rw [show 0 * 7 = 0 from rfl] at hx150_3); (try rw [Addr.add_zero'] at hx150_3); (try rw [show ((0 : Int)).toNat = 0 from rfl] at hx150_4); (try rw [show 0 * 7 = 0 from rfl] at hx150_4); (try rw [Addr.add_zero'] at hx150_4); (try rw [show ((0 : Int)).toNat = 0 from rfl] at hx150_5); (try rw [show 0 * 7 = 0 from rfl] at hx150_5); (try rw [Addr.add_zero'] at hx150_5); (try rw [show ((0 : Int)).toNat = 0 from rfl] at hx150_6); (try rw [show 0 * 7 = 0 from rfl] at hx150_6); (try rw [Addr.add_zero'] at hx150_6); replace hx150_0 := (HB.out.cell (World.block_lt_of_cell? w _ hx150_0)).trans hx150_0; replace hx150_1 := (HB.out.cell (World.block_lt_of_cell? w _ hx150_1)).trans hx150_1; replace hx150_2 := (HB.out.cell (World.block_lt_of_cell? w _ hx150_2)).trans hx150_2; replace hx150_3 := (HB.out.cell (World.block_lt_of_cell? w _ hx150_3)).trans hx150_3; replace hx150_4 := (HB.out.cell (World.block_lt_of_cell? w _ hx150_4)).trans hx150_4; replace hx150_5 := (HB.out.cell (World.block_lt_of_cell? w _ hx150_5)).trans hx150_5; replace hx150_6 := (HB.out.cell (World.block_lt_of_cell? w _ hx150_6)).trans hx150_6; replace p150 := eq_true p150; replace q150 := eq_true q150; have p151 : 0 ≤ (0 : Int) := (by omega); have q151 : 0 < (l0_0.length : Int) := odt_; obtain ⟨ad151, e151, hx151_0, hx151_1, hx151_2, hx151_3, hx151_4, hx151_5, hx151_6⟩ := at_T72 HR0_0.out 0 p151 q151; (try rw [← Nbq7.out] at hx151_0); obtain rfl : ad150 = ad151 := (by injection e151); have qi151 : (0 < l0_0.length) = True := eq_true (by omega); (try rw [show ((0 : Int)).toNat = 0 from rfl] at hx151_0); (try rw [show 0 * 7 = 0 from rfl] at hx151_0); (try rw [Addr.add_zero'] at hx151_0); (try rw [show ((0 : Int)).toNat = 0 from rfl] at hx151_1); (try rw [show 0 * 7 = 0 from rfl] at hx151_1); (try rw [Addr.add_zero'] at hx151_1); (try rw [show ((0 : Int)).toNat = 0 from rfl] at hx151_2); (try rw [show 0 * 7 = 0 from rfl] at hx151_2); (try rw [Addr.add_zero'] at hx151_2); (try rw [show ((0 : Int)).toNat = 0 from rfl] at hx151_3); (try rw [show 0 * 7 = 0 from rfl] at hx151_3); (try rw [Addr.add_zero'] at hx151_3); (try rw [show ((0 : Int)).toNat = 0 from rfl] at hx151_4); (try rw [show 0 * 7 = 0 from rfl] at hx151_4); (try rw [Addr.add_zero'] at hx151_4); (try rw [show ((0 : Int)).toNat = 0 from rfl] at hx151_5); (try rw [show 0 * 7 = 0 from rfl] at hx151_5); (try rw [Addr.add_zero'] at hx151_5); (try rw [show ((0 : Int)).toNat = 0 from rfl] at hx151_6); (try rw [show 0 * 7 = 0 from rfl] at hx151_6); (try rw [Addr.add_zero'] at hx151_6); replace hx151_0 := (HB.out.cell (World.block_lt_of_cell? w _ hx151_0)).trans hx151_0; replace hx151_1 := (HB.out.cell (World.block_lt_of_cell? w _ hx151_1)).trans hx151_1; replace hx151_2 := (HB.out.cell (World.block_lt_of_cell? w _ hx151_2)).trans hx151_2; replace hx151_3 := (HB.out.cell (World.block_lt_of_cell? w _ hx151_3)).trans hx151_3; replace hx151_4 := (HB.out.cell (World.block_lt_of_cell? w _ hx151_4)).trans hx151_4; replace hx151_5 := (HB.out.cell (World.block_lt_of_cell? w _ hx151_5)).trans hx151_5; replace hx151_6 := (HB.out.cell (World.block_lt_of_cell? w _ hx151_6)).trans hx151_6; replace p151 := eq_true p151; replace q151 := eq_true q151; have p152 : 0 ≤ (0 : Int) := (by omega); have q152 : 0 < (l0_0.length : Int) := odt_; obtain ⟨ad152, e152, hx152_0, hx152_1, hx152_2, hx152_3, hx152_4, hx152_5, hx152_6⟩ := at_T72 HR0_0.out 0 p152 q152; (try rw [← Nbq7.out] at hx152_0); obtain rfl : ad150 = ad152 := (by injection e152); have qi152 : (0 < l0_0.length) = True := eq_true (by omega); (try rw [show ((0 : Int)).toNat = 0 from rfl] at hx152_0); (try rw [show 0 * 7 = 0 from rfl] at hx152_0); (try rw [Addr.add_zero'] at hx152_0); (try rw [show ((0 : Int)).toNat = 0 from rfl] at hx152_1); (try rw [show 0 * 7 = 0 from rfl] at hx152_1); (try rw [Addr.add_zero'] at hx152_1); (try rw [show ((0 : Int)).toNat = 0 from rfl] at hx152_2); (try rw [show 0 * 7 = 0 from rfl] at hx152_2); (try rw [Addr.add_zero'] at hx152_2); (try rw [show ((0 : Int)).toNat = 0 from rfl] at hx152_3); (try rw [show 0 * 7 = 0 from rfl] at hx152_3); (try rw [Addr.add_zero'] at hx152_3); (try rw [show ((0 : Int)).toNat = 0 from rfl] at hx152_4); (try rw [show 0 * 7 = 0 from rfl] at hx152_4); (try rw [Addr.add_zero'] at hx152_4); (try rw [show ((0 : Int)).toNat = 0 from rfl] at hx152_5); (try rw [show 0 * 7 = 0 from rfl] at hx152_5); (try rw [Addr.add_zero'] at hx152_5); (try rw [show ((0 : Int)).toNat = 0 from rfl] at hx152_6); (try rw [show 0 * 7 = 0 from rfl] at hx152_6); (try rw [Addr.add_zero'] at hx152_6); replace hx152_0 := (HB.out.cell (World.block_lt_of_cell? w _ hx152_0)).trans hx152_0; replace hx152_1 := (HB.out.cell (World.block_lt_of_cell? w _ hx152_1)).trans hx152_1; replace hx152_2 := (HB.out.cell (World.block_lt_of_cell? w _ hx152_2)).trans hx152_2; replace hx152_3 := (HB.out.cell (World.block_lt_of_cell? w _ hx152_3)).trans hx152_3; replace hx152_4 := (HB.out.cell (World.block_lt_of_cell? w _ hx152_4)).trans hx152_4; replace hx152_5 := (HB.out.cell (World.block_lt_of_cell? w _ hx152_5)).trans hx152_5; replace hx152_6 := (HB.out.cell (World.block_lt_of_cell? w _ hx152_6)).trans hx152_6; replace p152 := eq_true p152; replace q152 := eq_true q152))
      go_meet
      case rel => exact ⟨_, (true), z12_, H', ⟨z103_⟩, ⟨z42_⟩, ⟨z13_⟩⟩
    ·rw [if_neg c9] at H
     have c9b0 : (((rd_T72 l0_0 0).f2) == (-1)) = false := beq_eq_false_iff_ne.mpr c9
     have c9b1 : (((rd_T72 l0_0 0).f2) != (-1)) = true := bne_iff_ne.mpr c9
     have H' := Aside0.mk H
     clear H
     have hcz13_0 : w3.cell? ⟨gb148, 0, none⟩ = some (.slice A0_0 l0_0.length c0_0) := (blk_cell BK148.out 0).trans rfl
     have hfz13_0 := blk_frozen BK148.out 0
     go_wp2_with (first | ((with_reducible refine gate_callee (f := 58) rfl ?_); refine goesL_ (some 11) rfl rfl Try.func58 (by kernel_rfl) rfl #[.int .i64 (l0_0.length : Int), .int .i64 1, .int .i64 24] rfl z1_ ?_; (with_reducible refine (spec_l1In.calls (l0_0.length : Int) 1 24 true _ A4.out).mono ?_); rintro e w' ⟨rfl, ⟨nd, rfl⟩⟩; refine ⟨_, rfl, ?_⟩; have p150 : 0 ≤ (0 : Int) := (by omega); have q150 : 0 < (l0_0.length : Int) := odt_; obtain ⟨ad150, e150, hx150_0, hx150_1, hx150_2, hx150_3, hx150_4, hx150_5, hx150_6⟩ := at_T72 HR0_0.out 0 p150 q150; (try rw [← Nbq7.out] at hx150_0); cases e150; have qi150 : (0 < l0_0.length) = True := eq_true (by omega); (try rw [show ((0 : Int)).toNat = 0 from rfl] at hx150_0); (try rw [show 0 * 7 = 0 from rfl] at hx150_0); (try rw [Addr.add_zero'] at hx150_0); (try rw [show ((0 : Int)).toNat = 0 from rfl] at hx150_1); (try rw [show 0 * 7 = 0 from rfl] at hx150_1); (try rw [Addr.add_zero'] at hx150_1); (try rw [show ((0 : Int)).toNat = 0 from rfl] at hx150_2); (try rw [show 0 * 7 = 0 from rfl] at hx150_2); (try rw [Addr.add_zero'] at hx150_2); (try rw [show ((0 : Int)).toNat = 0 from rfl] at hx150_3); (try rw [show 0 * 7 = 0 from rfl] at hx150_3); (try rw [Addr.add_zero'] at hx150_3); (try rw [show ((0 : Int)).toNat = 0 from rfl] at hx150_4); (try rw [show 0 * 7 = 0 from rfl] at hx150_4); (try rw [Addr.add_zero'] at hx150_4); (try rw [show ((0 : Int)).toNat = 0 from rfl] at hx150_5); (try rw [show 0 * 7 = 0 from rfl] at hx150_5); (try rw [Addr.add_zero'] at hx150_5); (try rw [show ((0 : Int)).toNat = 0 from rfl] at hx150_6); (try rw [show 0 * 7 = 0 from rfl] at hx150_6); (try rw [Addr.add_zero'] at hx150_6); replace hx150_0 := (HB.out.cell (World.block_lt_of_cell? w _ hx150_0)).trans hx150_0; replace hx150_1 := (HB.out.cell (World.block_lt_of_cell? w _ hx150_1)).trans hx150_1; replace hx150_2 := (HB.out.cell (World.block_lt_of_cell? w _ hx150_2)).trans hx150_2; replace hx150_3 := (HB.out.cell (World.block_lt_of_cell? w _ hx150_3)).trans hx150_3; replace hx150_4 := (HB.out.cell (World.block_lt_of_cell? w _ hx150_4)).trans hx150_4; replace hx150_5 := (HB.out.cell (World.block_lt_of_cell? w _ hx150_5)).trans hx150_5; replace hx150_6 := (HB.out.cell (World.block_lt_of_cell? w _ hx150_6)).trans hx150_6; replace p150 := eq_true p150; replace q150 := eq_true q150; have p151 : 0 ≤ (0 : Int) := (by omega); have q151 : 0 < (l0_0.length : Int) := odt_; obtain ⟨ad151, e151, hx151_0, hx151_1, hx151_2, hx151_3, hx151_4, hx151_5, hx151_6⟩ := at_T72 HR0_0.out 0 p151 q151; (try rw [← Nbq7.out] at hx151_0); obtain rfl : ad150 = ad151 := (by injection e151); have qi151 : (0 < l0_0.length) = True := eq_true (by omega); (try rw [show ((0 : Int)).toNat = 0 from rfl] at hx151_0); (try rw [show 0 * 7 = 0 from rfl] at hx151_0); (try rw [Addr.add_zero'] at hx151_0); (try rw [show ((0 : Int)).toNat = 0 from rfl] at hx151_1); (try rw [show 0 * 7 = 0 from rfl] at hx151_1); (try rw [Addr.add_zero'] at hx151_1); (try rw [show ((0 : Int)).toNat = 0 from rfl] at hx151_2); (try rw [show 0 * 7 = 0 from rfl] at hx151_2); (try rw [Addr.add_zero'] at hx151_2); (try rw [show ((0 : Int)).toNat = 0 from rfl] at hx151_3); (try rw [show 0 * 7 = 0 from rfl] at hx151_3); (try rw [Addr.add_zero'] at hx151_3); (try rw [show ((0 : Int)).toNat = 0 from rfl] at hx151_4); (try rw [show 0 * 7 = 0 from rfl] at hx151_4); (try rw [Addr.add_zero'] at hx151_4); (try rw [show ((0 : Int)).toNat = 0 from rfl] at hx151_5); (try rw [show 0 * 7 = 0 from rfl] at hx151_5); (try rw [Addr.add_zero'] at hx151_5); (try rw [show ((0 : Int)).toNat = 0 from rfl] at hx151_6); (try rw [show 0 * 7 = 0 from rfl] at hx151_6); (try rw [Addr.add_zero'] at hx151_6); replace hx151_0 := (HB.out.cell (World.block_lt_of_cell? w _ hx151_0)).trans hx151_0; replace hx151_1 := (HB.out.cell (World.block_lt_of_cell? w _ hx151_1)).trans hx151_1; replace hx151_2 := (HB.out.cell (World.block_lt_of_cell? w _ hx151_2)).trans hx151_2; replace hx151_3 := (HB.out.cell (World.block_lt_of_cell? w _ hx151_3)).trans hx151_3; replace hx151_4 := (HB.out.cell (World.block_lt_of_cell? w _ hx151_4)).trans hx151_4; replace hx151_5 := (HB.out.cell (World.block_lt_of_cell? w _ hx151_5)).trans hx151_5; replace hx151_6 := (HB.out.cell (World.block_lt_of_cell? w _ hx151_6)).trans hx151_6; replace p151 := eq_true p151; replace q151 := eq_true q151))
     go_meet
     case rel => exact ⟨_, (true), z12_, H', ⟨z103_⟩, ⟨z42_⟩, ⟨z13_⟩⟩
   ·replace c8 := Bool.eq_false_iff.mpr c8
    subst c8
    replace H := iff_ H
    have H' := Aside0.mk H
    clear H
    have hcz14_0 : w3.cell? ⟨gb148, 0, none⟩ = some (.slice A0_0 l0_0.length c0_0) := (blk_cell BK148.out 0).trans rfl
    have hfz14_0 := blk_frozen BK148.out 0
    go_wp2_with (first | ((with_reducible refine gate_callee (f := 58) rfl ?_); refine goesL_ (some 11) rfl rfl Try.func58 (by kernel_rfl) rfl #[.int .i64 (l0_0.length : Int), .int .i64 1, .int .i64 24] rfl z1_ ?_; (with_reducible refine (spec_l1In.calls (l0_0.length : Int) 1 24 true _ A4.out).mono ?_); rintro e w' ⟨rfl, ⟨nd, rfl⟩⟩; refine ⟨_, rfl, ?_⟩; have p150 : 0 ≤ (0 : Int) := (by omega); have q150 : 0 < (l0_0.length : Int) := odt_; obtain ⟨ad150, e150, hx150_0, hx150_1, hx150_2, hx150_3, hx150_4, hx150_5, hx150_6⟩ := at_T72 HR0_0.out 0 p150 q150; (try rw [← Nbq7.out] at hx150_0); cases e150; have qi150 : (0 < l0_0.length) = True := eq_true (by omega); (try rw [show ((0 : Int)).toNat = 0 from rfl] at hx150_0); (try rw [show 0 * 7 = 0 from rfl] at hx150_0); (try rw [Addr.add_zero'] at hx150_0); (try rw [show ((0 : Int)).toNat = 0 from rfl] at hx150_1); (try rw [show 0 * 7 = 0 from rfl] at hx150_1); (try rw [Addr.add_zero'] at hx150_1); (try rw [show ((0 : Int)).toNat = 0 from rfl] at hx150_2); (try rw [show 0 * 7 = 0 from rfl] at hx150_2); (try rw [Addr.add_zero'] at hx150_2); (try rw [show ((0 : Int)).toNat = 0 from rfl] at hx150_3); (try rw [show 0 * 7 = 0 from rfl] at hx150_3); (try rw [Addr.add_zero'] at hx150_3); (try rw [show ((0 : Int)).toNat = 0 from rfl] at hx150_4); (try rw [show 0 * 7 = 0 from rfl] at hx150_4); (try rw [Addr.add_zero'] at hx150_4); (try rw [show ((0 : Int)).toNat = 0 from rfl] at hx150_5); (try rw [show 0 * 7 = 0 from rfl] at hx150_5); (try rw [Addr.add_zero'] at hx150_5); (try rw [show ((0 : Int)).toNat = 0 from rfl] at hx150_6); (try rw [show 0 * 7 = 0 from rfl] at hx150_6); (try rw [Addr.add_zero'] at hx150_6); replace hx150_0 := (HB.out.cell (World.block_lt_of_cell? w _ hx150_0)).trans hx150_0; replace hx150_1 := (HB.out.cell (World.block_lt_of_cell? w _ hx150_1)).trans hx150_1; replace hx150_2 := (HB.out.cell (World.block_lt_of_cell? w _ hx150_2)).trans hx150_2; replace hx150_3 := (HB.out.cell (World.block_lt_of_cell? w _ hx150_3)).trans hx150_3; replace hx150_4 := (HB.out.cell (World.block_lt_of_cell? w _ hx150_4)).trans hx150_4; replace hx150_5 := (HB.out.cell (World.block_lt_of_cell? w _ hx150_5)).trans hx150_5; replace hx150_6 := (HB.out.cell (World.block_lt_of_cell? w _ hx150_6)).trans hx150_6; replace p150 := eq_true p150; replace q150 := eq_true q150))
    go_meet
    case rel => exact ⟨_, (true), z12_, H', ⟨z103_⟩, ⟨z42_⟩, ⟨z13_⟩⟩
  ·replace c5 := Bool.eq_false_iff.mpr c5
   subst c5
   replace H := iff_ H
   have H' := Aside0.mk H
   clear H
   have hcz15_0 : w3.cell? ⟨gb148, 0, none⟩ = some (.slice A0_0 l0_0.length c0_0) := (blk_cell BK148.out 0).trans rfl
   have hfz15_0 := blk_frozen BK148.out 0
   go_wp2_with (first | ((with_reducible refine gate_callee (f := 58) rfl ?_); refine goesL_ (some 11) rfl rfl Try.func58 (by kernel_rfl) rfl #[.int .i64 (l0_0.length : Int), .int .i64 1, .int .i64 24] rfl z1_ ?_; (with_reducible refine (spec_l1In.calls (l0_0.length : Int) 1 24 false _ A4.out).mono ?_); rintro e w' ⟨rfl, ⟨nd, rfl⟩⟩; refine ⟨_, rfl, ?_⟩))
   go_meet
   case rel => exact ⟨_, (true), z12_, H', ⟨z103_⟩, ⟨z42_⟩, ⟨z13_⟩⟩
 case rest =>
  clear HC2
  try clear c1
  try clear p1
  try clear q1
  try clear hx1
  try clear qi1
  try clear p2
  try clear c5
  try clear c6
  try clear c6b0
  try clear c6b1
  try clear q7
  try clear c8
  try clear c9
  try clear c9b0
  try clear c9b1
  try clear c10
  try clear c10b0
  try clear c10b1
  try clear c15
  try clear p15
  try clear q15
  try clear hx15
  try clear qi15
  try clear hcz11_0
  try clear hcz12_0
  try clear hcz13_0
  try clear hcz14_0
  try clear hcz15_0
  try clear hfz11_0
  try clear hfz12_0
  try clear hfz13_0
  try clear hfz14_0
  try clear hfz15_0
  try clear hx150_0
  try clear hx150_1
  try clear hx150_2
  try clear hx150_3
  try clear hx150_4
  try clear hx150_5
  try clear hx150_6
  try clear hx151_0
  try clear hx151_1
  try clear hx151_2
  try clear hx151_3
  try clear hx151_4
  try clear hx151_5
  try clear hx151_6
  try clear hx152_0
  try clear hx152_1
  try clear hx152_2
  try clear hx152_3
  try clear hx152_4
  try clear hx152_5
  try clear hx152_6
  try clear hx153_0
  try clear hx153_1
  try clear hx153_2
  try clear hx153_3
  try clear hx153_4
  try clear hx153_5
  try clear hx153_6
  try clear p150
  try clear p151
  try clear p152
  try clear p153
  try clear q150
  try clear q151
  try clear q152
  try clear q153
  obtain ⟨kq, x44_1, rfl, HA, HJ1, BK148, HB⟩ := hcut
  cases kq with
  | zero => exact absurd HA.out (by simp [spec_DomOk.j0])
  | succ kj1 =>
   have H := HA.out
   clear HA
   simp only [spec_DomOk.j0] at H
   by_cases c16 : x44_1 = true
   ·subst c16
    replace H := ift_ H
    obtain rfl := Option.some.inj H
    go_wp2
    go_ret
    exact ⟨z4_, z13_⟩
   ·replace c16 := Bool.eq_false_iff.mpr c16
    subst c16
    replace H := iff_ H
    replace H := Option.bind_eq_some_iff.mp H
    obtain ⟨⟨t154, t157⟩, A170, H⟩ := H
    replace H : (if (t154.length : Int) > 24 then (some false) else (if 0 ≤ (l0_0.length : Int) then (if ((l0_0.length : Int) : Int).toNat ≤ 281474976710656 then (spec_DomOk.l0 kj1 t154 (List.replicate ((l0_0.length : Int) : Int).toNat false) 0 l0_0) else (none)) else (none))) = some r := H
    have A17 := Aside0.mk A170
    clear A170
    by_cases c18 : (t154.length : Int) > 24
    ·rw [if_pos c18] at H
     have c18b0 : decide (24 < (t154.length : Int)) = true := decide_eq_true c18
     have c18b1 : decide (24 < t154.length) = true := decide_eq_true (by omega)
     clear c18
     obtain rfl := Option.some.inj H
     have hcz19_0 : wc.cell? ⟨gb148, 0, none⟩ = some (.slice A0_0 l0_0.length c0_0) := (blk_cell BK148.out 0).trans rfl
     have hfz19_0 := blk_frozen BK148.out 0
     go_wp2_with (first | ((with_reducible refine gate_callee (f := 61) rfl ?_); refine goesL_ (some 47) rfl rfl Try.func61 (by kernel_rfl) rfl #[.agg #[.slice A0_0 l0_0.length c0_0], .int .i64 0, .int .i64 0, .slice none 0 0, .slice none 0 0] rfl z1_ ?_; (refine (spec_l16Walk.calls kj1 _ _ l0_0 0 0 (fun k_ => some k_ = (.slice none 0 0 : Value).ownBlock) (.slice none 0 0) ([] : List Int) (fun k_ => some k_ = (.slice none 0 0 : Value).ownBlock) (.slice none 0 0) ([] : List Int) t154 t157 w _ ?side1 ?side2 ?side3 ?side4 ?side5 ?side6 ?side7 A17.out).mono ?_); (case side1 => exact z13_); (case side2 => exact z101_); (case side3 => exact HC0_0.out); (case side4 => exact z258_); (case side5 => exact z250_); (case side6 => exact z258_); (case side7 => exact z250_); rintro e w20 ⟨v155, v158, rfl, ho0, ho1, hb, hkp⟩; refine ⟨_, rfl, ?_⟩; replace BK148 := Aside0.mk (blk_kept z42_ hkp (fun hs_ => Or.elim hs_ (fun e_ => (fun e_ => by simp [Value.ownBlock] at e_) e_) (fun e_ => (fun e_ => by simp [Value.ownBlock] at e_) e_))); have HO156 := Aside0.mk (Kd.R_mono (ok' := fun k_ => some k_ ≠ (v158 : Value).ownBlock) ho0 (fun k_ hk_ => hk_.2)); have HO159 := Aside0.mk (Kd.R_mono (ok' := fun k_ => some k_ ≠ (v155 : Value).ownBlock) ho1 (fun k_ hk_ => hk_.2)); replace HB := Aside0.mk (hb); (try clear hb hkp ho0 ho1); obtain ⟨Ao21, co21, eo21⟩ := Kd.R_slice HO156.out; subst eo21))
     go_ret
     exact ⟨z4_, z13_⟩
    ·rw [if_neg c18] at H
     have c18b0 : decide (24 < (t154.length : Int)) = false := decide_eq_false c18
     have c18b1 : decide (24 < t154.length) = false := decide_eq_false (by omega)
     clear c18
     obtain ⟨c22b0, c22b1, H⟩ := ife_ H
     obtain ⟨c23b0, c23b1, H⟩ := ife_ H
     obtain ⟨y160, hy160⟩ : ∃ y_ : List Bool, y_ = (List.replicate ((l0_0.length : Int) : Int).toNat false) := ⟨_, rfl⟩
     replace H : (spec_DomOk.l0 kj1 t154 y160 0 l0_0) = some r := by first | (rw [hy160]; with_reducible exact H) | (have H2_ := (Option.bind_some _ _).symm.trans H; rw [hy160]; with_reducible exact H2_) | (have H2_ := (Option.bind_some _ _).symm.trans H; with_reducible exact H2_) | with_reducible exact H | (rw [hy160]; exact H) | exact H
     have Ny160 := Aside0.mk hy160
     clear hy160
     have H' := Aside0.mk H
     clear H
     have hcz24_0 : wc.cell? ⟨gb148, 0, none⟩ = some (.slice A0_0 l0_0.length c0_0) := (blk_cell BK148.out 0).trans rfl
     have hfz24_0 := blk_frozen BK148.out 0
     go_wp2_with (first | ((with_reducible refine gate_callee (f := 61) rfl ?_); refine goesL_ (some 47) rfl rfl Try.func61 (by kernel_rfl) rfl #[.agg #[.slice A0_0 l0_0.length c0_0], .int .i64 0, .int .i64 0, .slice none 0 0, .slice none 0 0] rfl z1_ ?_; (refine (spec_l16Walk.calls kj1 _ _ l0_0 0 0 (fun k_ => some k_ = (.slice none 0 0 : Value).ownBlock) (.slice none 0 0) ([] : List Int) (fun k_ => some k_ = (.slice none 0 0 : Value).ownBlock) (.slice none 0 0) ([] : List Int) t154 t157 w _ ?side1 ?side2 ?side3 ?side4 ?side5 ?side6 ?side7 A17.out).mono ?_); (case side1 => exact z13_); (case side2 => exact z101_); (case side3 => exact HC0_0.out); (case side4 => exact z258_); (case side5 => exact z250_); (case side6 => exact z258_); (case side7 => exact z250_); rintro e w25 ⟨v155, v158, rfl, ho0, ho1, hb, hkp⟩; refine ⟨_, rfl, ?_⟩; replace BK148 := Aside0.mk (blk_kept z42_ hkp (fun hs_ => Or.elim hs_ (fun e_ => (fun e_ => by simp [Value.ownBlock] at e_) e_) (fun e_ => (fun e_ => by simp [Value.ownBlock] at e_) e_))); have HO156 := Aside0.mk (Kd.R_mono (ok' := fun k_ => some k_ ≠ (v158 : Value).ownBlock) ho0 (fun k_ hk_ => hk_.2)); have HO159 := Aside0.mk (Kd.R_mono (ok' := fun k_ => some k_ ≠ (v155 : Value).ownBlock) ho1 (fun k_ hk_ => hk_.2)); replace HB := Aside0.mk (hb); (try clear hb hkp ho0 ho1); obtain ⟨Ao26, co26, eo26⟩ := Kd.R_slice HO156.out; subst eo26; have hcz27_0 : w25.cell? ⟨gb148, 0, none⟩ = some (.slice A0_0 l0_0.length c0_0) := (blk_cell BK148.out 0).trans rfl; have hfz27_0 := blk_frozen BK148.out 0) | ((with_reducible refine gate_dst (N := 56) rfl ?_); refine Kd.R_make Kd.bool _ 4 rfl (N := 56) rfl 96 _ _ rfl (l0_0.length : Int) rfl rfl Try.underlying96 (.bool false) 1 info4 rfl (by decide) (by omega) false (ok := fun _ => True) (okp := fun _ => True) rfl (fun _ hk => hk) trivial (odt_) (Nat.le_trans (Nat.mul_le_mul_right _ (odt_ : (l0_0.length : Int).toNat ≤ 281474976710656)) (by omega)) (Below.refl _ _) (Nat.le_refl _) ?_; intro v161 w28 ho29 hb hg_ hnew_; clear hg_ hnew_; (first | rw [← Ny160.out] at ho29 | (simp only [Int.reduceToNat] at ho29; rw [← Ny160.out] at ho29)); replace HO156 := Aside0.mk (Kd.R_below (by (with_reducible repeat (first | apply Kd.R_alloc | apply Kd.R_drewN | apply Kd.R_drew)); exact HO156.out) hb); replace HO159 := Aside0.mk (Kd.R_below (by (with_reducible repeat (first | apply Kd.R_alloc | apply Kd.R_drewN | apply Kd.R_drew)); exact HO159.out) hb); have HO162 := Aside0.mk (Kd.R_lower ho29 (below_size z13_)); replace BK148 := Aside0.mk (blk_below (g := gb148) (o := .cells #[.slice A0_0 l0_0.length c0_0] 28 (0, 0)) z42_ hb); replace HB := Aside0.mk (below_step z13_ hb); clear hb ho29))
     go_loopg [6] kj1 (fun kq v6 w' => ∃ (x5_2 : List Bool) (x6_2 : Int), v6 = .int .i64 x6_2 ∧ Aside0 (spec_DomOk.l0 kq t154 x5_2 x6_2 l0_0 = some r) ∧ Aside0 (kq ≤ kj1) ∧ Aside0 (Kd.R (Kd.int .i64) 3 w' w.heap.size (fun _ => True) (.slice Ao26 t154.length co26) t154) ∧ Aside0 (Kd.R Kd.bool 4 w' w.heap.size (fun _ => True) v161 x5_2) ∧ Aside0 (w'.heap[gb148]? = some (.cells #[(.slice A0_0 l0_0.length c0_0)] 28 (0, 0))) ∧ Aside0 (Below w.heap.size w w'))
     case atStart => exact ⟨(y160), (0), z12_, H', ⟨Nat.le_refl _⟩, ⟨by (with_reducible repeat (first | apply Kd.R_alloc | apply Kd.R_drewN | apply Kd.R_drew)); exact Kd.R_mono HO156.out (fun _ hk => trivial)⟩, ⟨by (with_reducible repeat (first | apply Kd.R_alloc | apply Kd.R_drewN | apply Kd.R_drew)); exact HO162.out⟩, ⟨z42_⟩, ⟨z13_⟩⟩
     case round =>
      clear H'
      try clear c1
      try clear p1
      try clear q1
      try clear hx1
      try clear qi1
      try clear c2
      try clear p2
      try clear c5
      try clear c6
      try clear c6b0
      try clear c6b1
      try clear q7
      try clear c8
      try clear c9
      try clear c9b0
      try clear c9b1
      try clear c10
      try clear c10b0
      try clear c10b1
      try clear c15
      try clear p15
      try clear q15
      try clear hx15
      try clear qi15
      try clear c16
      try clear c18
      try clear c18b0
      try clear c18b1
      try clear c22
      try clear c22b0
      try clear c22b1
      try clear c23
      try clear c23b0
      try clear c23b1
      try clear hcz11_0
      try clear hcz12_0
      try clear hcz13_0
      try clear hcz14_0
      try clear hcz15_0
      try clear hcz19_0
      try clear hcz24_0
      try clear hcz27_0
      try clear hfz11_0
      try clear hfz12_0
      try clear hfz13_0
      try clear hfz14_0
      try clear hfz15_0
      try clear hfz19_0
      try clear hfz24_0
      try clear hfz27_0
      try clear hx150_0
      try clear hx150_1
      try clear hx150_2
      try clear hx150_3
      try clear hx150_4
      try clear hx150_5
      try clear hx150_6
      try clear hx151_0
      try clear hx151_1
      try clear hx151_2
      try clear hx151_3
      try clear hx151_4
      try clear hx151_5
      try clear hx151_6
      try clear hx152_0
      try clear hx152_1
      try clear hx152_2
      try clear hx152_3
      try clear hx152_4
      try clear hx152_5
      try clear hx152_6
      try clear hx153_0
      try clear hx153_1
      try clear hx153_2
      try clear hx153_3
      try clear hx153_4
      try clear hx153_5
      try clear hx153_6
      try clear p1
      try clear p15
      try clear p150
      try clear p151
      try clear p152
      try clear p153
      try clear p2
      try clear q1
      try clear q15
      try clear q150
      try clear q151
      try clear q152
      try clear q153
      try clear q7
      obtain ⟨x5_2, x6_2, rfl, HA, HK2, HO_3, HO_5, BK148, HB⟩ := hrel
      cases gk with
      | zero => exact absurd HA.out (by simp [spec_DomOk.l0])
      | succ k2 =>
       have H := HA.out
       clear HA
       simp only [spec_DomOk.l0] at H
       by_cases c30 : x6_2 < (t154.length : Int)
       ·rw [if_pos c30] at H
        have c30b0 : decide (x6_2 < (t154.length : Int)) = true := decide_eq_true c30
        clear c30
        obtain ⟨c31b0, H⟩ := ifd_ H
        obtain ⟨c32b0, H⟩ := ifd_ H
        obtain ⟨c33b0, H⟩ := ifd_ H
        obtain ⟨bq34, hbq34⟩ : ∃ b_ : Bool, b_ = (rdOf false x5_2 (rd t154 x6_2)) := ⟨_, rfl⟩
        replace H : (if bq34 = true then (some false) else (if (rd t154 x6_2) < (l0_0.length : Int) then (if ((rd_T72 l0_0 (rd t154 x6_2)).f0 = true) then ((spec_LabelOk.f ((rd_T72 l0_0 (rd t154 x6_2)).f1)).bind fun t169 => (if t169 = true then (spec_DomOk.l0 k2 t154 (x5_2.set ((rd t154 x6_2) : Int).toNat true) (wrap64 (x6_2 + 1)) l0_0) else (some false))) else (some false)) else (none))) = some r := by rw [← hbq34] at H; exact H
        have Nbq34 := Aside0.mk hbq34
        clear hbq34
        by_cases c35 : bq34 = true
        ·subst c35
         replace H := ift_ H
         obtain rfl := Option.some.inj H
         try go_wp2
         have n0_ := Aside0.mk (Kd.R_drew HO_3.out)
         have n1_ := Aside0.mk (Kd.R_drew HO_5.out)
         have n2_ := Aside0.mk (blk_drew BK148.out)
         have n3_ := Aside0.mk (below_drew1 HB.out)
         clear HO_3
         clear HO_5
         clear BK148
         clear HB
         have HO_3 := n0_
         have HO_5 := n1_
         have BK148 := n2_
         have HB := n3_
         clear n0_ n1_ n2_ n3_
         have p163 : 0 ≤ (x6_2 : Int) := odt_
         have q163 : x6_2 < (t154.length : Int) := odt_
         obtain ⟨ad163, e163, hx163_0⟩ := Kd.at_int (Kd.R_reads' HO_3.out).2.2 x6_2 p163 q163
         cases e163
         replace p163 := eq_true p163
         replace q163 := eq_true q163
         obtain ⟨Ao37, co37, eo37⟩ := Kd.R_slice HO_5.out
         (first | subst eo37 | (injection eo37 with f1_ f2_ f3_; have f4_ := f1_.symm; have f5_ := f3_.symm; clear f1_ f2_ f3_; subst f4_; subst f5_))
         have p164 : 0 ≤ ((rd t154 x6_2) : Int) := odt_
         have q164 : (rd t154 x6_2) < (x5_2.length : Int) := odt_
         obtain ⟨ad164, e164, hx164_0⟩ := Kd.at_bool (Kd.R_reads' HO_5.out).2.2 (rd t154 x6_2) p164 q164
         (try rw [← Nbq34.out] at hx164_0)
         (try rw [← Nbq34.out] at hw164_0)
         cases e164
         replace p164 := eq_true p164
         replace q164 := eq_true q164
         refine start_ (n := 32) (S := fun w' => w'.cell? (ad163.add (x6_2).toNat) = some (.int .i64 (rd t154 x6_2)) ∧ w'.cell? (ad164.add ((rd t154 x6_2)).toNat) = some (.bool true)) (ds := []) (fl_ 32 0) (by kernel_rfl) rfl (fl_zero _) ⟨hx163_0, hx164_0⟩ (fun hHeld => ?_); refine with_tabW spec_DomOk.tab10 spec_DomOk.bits10 (fun HT_ HW_ => ?_)
         generalize wr.drew = w36 at HO_3 HO_5 BK148 HB hx163_0 hx164_0 hHeld ⊢
         iterate 4 refine zp_ HT_ rfl rfl (by kernel_rfl) (fun _ _ _ h => h) (by rfl) ?_
         refine zt_ HT_ HW_ rfl rfl (by kernel_rfl) (fun _ _ _ h => h) (by rfl) hHeld ?_ z184_
         refine zp_ HT_ rfl rfl (by kernel_rfl) (fun _ _ _ h => h) (by rfl) ?_
         refine zt_ HT_ HW_ rfl rfl (by kernel_rfl) (fun _ _ _ h => h) (by rfl) hHeld ?_ z184_
         refine zp_ HT_ rfl rfl (by kernel_rfl) (fun _ _ _ h => h) (by rfl) ?_
         iterate 10 refine zu_ HT_ rfl rfl (by kernel_rfl) (fun _ _ _ h => h) (by rfl) ?_
         iterate 2 refine zp_ HT_ rfl rfl (by kernel_rfl) (fun _ _ _ h => h) (by rfl) ?_
         iterate 11 refine zu_ HT_ rfl rfl (by kernel_rfl) (fun _ _ _ h => h) (by rfl) ?_
         refine zp_ HT_ rfl rfl (by kernel_rfl) (fun _ _ _ h => h) (by rfl) ?_
         refine done_ (done_of HT_.out (by kernel_rfl)) ?_
         try go_wp2
         go_ret
         exact ⟨z4_, z13_⟩
        ·replace c35 := Bool.eq_false_iff.mpr c35
         subst c35
         replace H := iff_ H
         obtain ⟨c38b0, H⟩ := ifd_ H
         obtain ⟨bq39, hbq39⟩ : ∃ b_ : Bool, b_ = ((rd_T72 l0_0 (rd t154 x6_2)).f0) := ⟨_, rfl⟩
         replace H : (if (bq39 = true) then ((spec_LabelOk.f ((rd_T72 l0_0 (rd t154 x6_2)).f1)).bind fun t169 => (if t169 = true then (spec_DomOk.l0 k2 t154 (x5_2.set ((rd t154 x6_2) : Int).toNat true) (wrap64 (x6_2 + 1)) l0_0) else (some false))) else (some false)) = some r := by rw [← hbq39] at H; exact H
         have Nbq39 := Aside0.mk hbq39
         clear hbq39
         by_cases c40 : (bq39 = true)
         ·subst c40
          replace H := ift_ H
          obtain ⟨t169, A41, H⟩ := bnd_ H
          by_cases c42 : t169 = true
          ·subst c42
           replace H := ift_ H
           obtain ⟨y171, hy171⟩ : ∃ y_ : List Bool, y_ = (x5_2.set ((rd t154 x6_2) : Int).toNat true) := ⟨_, rfl⟩
           replace H : (spec_DomOk.l0 k2 t154 y171 (wrap64 (x6_2 + 1)) l0_0) = some r := by first | (rw [hy171]; with_reducible exact H) | (have H2_ := (Option.bind_some _ _).symm.trans H; rw [hy171]; with_reducible exact H2_) | (have H2_ := (Option.bind_some _ _).symm.trans H; with_reducible exact H2_) | with_reducible exact H | (rw [hy171]; exact H) | exact H
           have Ny171 := Aside0.mk hy171
           clear hy171
           have H' := Aside0.mk H
           clear H
           try go_wp2
           have n0_ := Aside0.mk (Kd.R_drew HO_3.out)
           have n1_ := Aside0.mk (Kd.R_drew HO_5.out)
           have n2_ := Aside0.mk (blk_drew BK148.out)
           have n3_ := Aside0.mk (below_drew1 HB.out)
           clear HO_3
           clear HO_5
           clear BK148
           clear HB
           have HO_3 := n0_
           have HO_5 := n1_
           have BK148 := n2_
           have HB := n3_
           clear n0_ n1_ n2_ n3_
           have p163 : 0 ≤ (x6_2 : Int) := odt_
           have q163 : x6_2 < (t154.length : Int) := odt_
           obtain ⟨ad163, e163, hx163_0⟩ := Kd.at_int (Kd.R_reads' HO_3.out).2.2 x6_2 p163 q163
           cases e163
           replace p163 := eq_true p163
           replace q163 := eq_true q163
           obtain ⟨Ao45, co45, eo45⟩ := Kd.R_slice HO_5.out
           (first | subst eo45 | (injection eo45 with f1_ f2_ f3_; have f4_ := f1_.symm; have f5_ := f3_.symm; clear f1_ f2_ f3_; subst f4_; subst f5_))
           have p164 : 0 ≤ ((rd t154 x6_2) : Int) := odt_
           have q164 : (rd t154 x6_2) < (x5_2.length : Int) := odt_
           obtain ⟨ad164, e164, hx164_0⟩ := Kd.at_bool (Kd.R_reads' HO_5.out).2.2 (rd t154 x6_2) p164 q164
           (try rw [← Nbq34.out] at hx164_0)
           (try rw [← Nbq34.out] at hw164_0)
           (try rw [← Nbq39.out] at hx164_0)
           (try rw [← Nbq39.out] at hw164_0)
           cases e164
           replace p164 := eq_true p164
           replace q164 := eq_true q164
           have p165 : 0 ≤ (x6_2 : Int) := odt_
           have q165 : x6_2 < (t154.length : Int) := odt_
           obtain ⟨ad165, e165, hx165_0⟩ := Kd.at_int (Kd.R_reads' HO_3.out).2.2 x6_2 p165 q165
           obtain rfl : ad163 = ad165 := (by injection e165)
           replace p165 := eq_true p165
           replace q165 := eq_true q165
           have p166 : 0 ≤ ((rd t154 x6_2) : Int) := odt_
           have q166 : (rd t154 x6_2) < (l0_0.length : Int) := odt_
           obtain ⟨ad166, e166, hx166_0, hx166_1, hx166_2, hx166_3, hx166_4, hx166_5, hx166_6⟩ := at_T72 HR0_0.out (rd t154 x6_2) p166 q166
           have hw166_6 := hx166_6
           have hw166_5 := hx166_5
           have hw166_4 := hx166_4
           have hw166_3 := hx166_3
           have hw166_2 := hx166_2
           have hw166_1 := hx166_1
           have hw166_0 := hx166_0
           (try rw [← Nbq34.out] at hx166_0)
           (try rw [← Nbq34.out] at hw166_0)
           (try rw [← Nbq39.out] at hx166_0)
           (try rw [← Nbq39.out] at hw166_0)
           cases e166
           replace hx166_0 := (HB.out.cell (World.block_lt_of_cell? w _ hx166_0)).trans hx166_0
           replace hx166_1 := (HB.out.cell (World.block_lt_of_cell? w _ hx166_1)).trans hx166_1
           replace hx166_2 := (HB.out.cell (World.block_lt_of_cell? w _ hx166_2)).trans hx166_2
           replace hx166_3 := (HB.out.cell (World.block_lt_of_cell? w _ hx166_3)).trans hx166_3
           replace hx166_4 := (HB.out.cell (World.block_lt_of_cell? w _ hx166_4)).trans hx166_4
           replace hx166_5 := (HB.out.cell (World.block_lt_of_cell? w _ hx166_5)).trans hx166_5
           replace hx166_6 := (HB.out.cell (World.block_lt_of_cell? w _ hx166_6)).trans hx166_6
           replace p166 := eq_true p166
           replace q166 := eq_true q166
           have p167 : 0 ≤ (x6_2 : Int) := odt_
           have q167 : x6_2 < (t154.length : Int) := odt_
           obtain ⟨ad167, e167, hx167_0⟩ := Kd.at_int (Kd.R_reads' HO_3.out).2.2 x6_2 p167 q167
           obtain rfl : ad163 = ad167 := (by injection e167)
           replace p167 := eq_true p167
           replace q167 := eq_true q167
           have p168 : 0 ≤ ((rd t154 x6_2) : Int) := odt_
           have q168 : (rd t154 x6_2) < (l0_0.length : Int) := odt_
           obtain ⟨ad168, e168, hx168_0, hx168_1, hx168_2, hx168_3, hx168_4, hx168_5, hx168_6⟩ := at_T72 HR0_0.out (rd t154 x6_2) p168 q168
           have hw168_6 := hx168_6
           have hw168_5 := hx168_5
           have hw168_4 := hx168_4
           have hw168_3 := hx168_3
           have hw168_2 := hx168_2
           have hw168_1 := hx168_1
           have hw168_0 := hx168_0
           (try rw [← Nbq34.out] at hx168_0)
           (try rw [← Nbq34.out] at hw168_0)
           (try rw [← Nbq39.out] at hx168_0)
           (try rw [← Nbq39.out] at hw168_0)
           obtain rfl : ad166 = ad168 := (by injection e168)
           replace hx168_0 := (HB.out.cell (World.block_lt_of_cell? w _ hx168_0)).trans hx168_0
           replace hx168_1 := (HB.out.cell (World.block_lt_of_cell? w _ hx168_1)).trans hx168_1
           replace hx168_2 := (HB.out.cell (World.block_lt_of_cell? w _ hx168_2)).trans hx168_2
           replace hx168_3 := (HB.out.cell (World.block_lt_of_cell? w _ hx168_3)).trans hx168_3
           replace hx168_4 := (HB.out.cell (World.block_lt_of_cell? w _ hx168_4)).trans hx168_4
           replace hx168_5 := (HB.out.cell (World.block_lt_of_cell? w _ hx168_5)).trans hx168_5
           replace hx168_6 := (HB.out.cell (World.block_lt_of_cell? w _ hx168_6)).trans hx168_6
           replace p168 := eq_true p168
           replace q168 := eq_true q168
           refine start_ (n := 32) (S := fun w' => w'.cell? ⟨gb148, 0, none⟩ = some (.slice (some ad166) l0_0.length c0_0) ∧ w'.cell? (ad163.add (x6_2).toNat) = some (.int .i64 (rd t154 x6_2)) ∧ w'.cell? (ad164.add ((rd t154 x6_2)).toNat) = some (.bool false) ∧ w'.cell? (ad166.add (((rd t154 x6_2)).toNat * 7)) = some (.bool true) ∧ w'.cell? ⟨(ad166.add (((rd t154 x6_2)).toNat * 7)).block, (ad166.add (((rd t154 x6_2)).toNat * 7)).off + 1, none⟩ = some (.int .i64 ((rd_T72 l0_0 (rd t154 x6_2)).f1)) ∧ w'.cell? ⟨(ad166.add (((rd t154 x6_2)).toNat * 7)).block, (ad166.add (((rd t154 x6_2)).toNat * 7)).off + 2, none⟩ = some (.int .i64 ((rd_T72 l0_0 (rd t154 x6_2)).f2)) ∧ w'.cell? ⟨(ad166.add (((rd t154 x6_2)).toNat * 7)).block, (ad166.add (((rd t154 x6_2)).toNat * 7)).off + 3, none⟩ = some (.int .i64 ((rd_T72 l0_0 (rd t154 x6_2)).f3)) ∧ w'.cell? ⟨(ad166.add (((rd t154 x6_2)).toNat * 7)).block, (ad166.add (((rd t154 x6_2)).toNat * 7)).off + 4, none⟩ = some (.int .i64 ((rd_T72 l0_0 (rd t154 x6_2)).f4)) ∧ w'.cell? ⟨(ad166.add (((rd t154 x6_2)).toNat * 7)).block, (ad166.add (((rd t154 x6_2)).toNat * 7)).off + 5, none⟩ = some (.int .i64 ((rd_T72 l0_0 (rd t154 x6_2)).f5)) ∧ w'.cell? ⟨(ad166.add (((rd t154 x6_2)).toNat * 7)).block, (ad166.add (((rd t154 x6_2)).toNat * 7)).off + 6, none⟩ = some (.int .i64 ((rd_T72 l0_0 (rd t154 x6_2)).f6)) ∧ w'.cell? (ad166.add (((rd t154 x6_2)).toNat * 7)) = some (.bool (true))) (ds := []) (fl_ 32 0) (by kernel_rfl) rfl (fl_zero _) ⟨(blk_cell BK148.out 0).trans rfl, hx163_0, hx164_0, ((HB.out.cell (World.block_lt_of_cell? w _ hw166_0)).trans hw166_0), ((HB.out.cell (World.block_lt_of_cell? w _ hw166_1)).trans hw166_1), ((HB.out.cell (World.block_lt_of_cell? w _ hw166_2)).trans hw166_2), ((HB.out.cell (World.block_lt_of_cell? w _ hw166_3)).trans hw166_3), ((HB.out.cell (World.block_lt_of_cell? w _ hw166_4)).trans hw166_4), ((HB.out.cell (World.block_lt_of_cell? w _ hw166_5)).trans hw166_5), ((HB.out.cell (World.block_lt_of_cell? w _ hw166_6)).trans hw166_6), ((HB.out.cell (World.block_lt_of_cell? w _ hw168_0)).trans hw168_0)⟩ (fun hHeld => ?_); refine with_tabW spec_DomOk.tab10 spec_DomOk.bits10 (fun HT_ HW_ => ?_)
           generalize wr.drew = w44 at HO_3 HO_5 BK148 HB hx163_0 hx164_0 hx165_0 hx166_0 hx166_1 hx166_2 hx166_3 hx166_4 hx166_5 hx166_6 hx167_0 hx168_0 hx168_1 hx168_2 hx168_3 hx168_4 hx168_5 hx168_6 hHeld ⊢
           iterate 4 refine zp_ HT_ rfl rfl (by kernel_rfl) (fun _ _ _ h => h) (by rfl) ?_
           refine zt_ HT_ HW_ rfl rfl (by kernel_rfl) (fun _ _ _ h => h) (by rfl) hHeld ?_ z59_
           refine zp_ HT_ rfl rfl (by kernel_rfl) (fun _ _ _ h => h) (by rfl) ?_
           refine zt_ HT_ HW_ rfl rfl (by kernel_rfl) (fun _ _ _ h => h) (by rfl) hHeld ?_ z59_
           iterate 2 refine zp_ HT_ rfl rfl (by kernel_rfl) (fun _ _ _ h => h) (by rfl) ?_
           refine zpg_ (i := 10) (ra_ [9, 1, 1, 21]) HT_ rfl rfl (by kernel_rfl) (fun _ _ _ h => h) (by rfl) ?_
           refine zpg_ (i := 11) (ra_ [9, 1, 2, 20]) HT_ rfl rfl (by kernel_rfl) (fun _ _ _ h => h) (by rfl) ?_
           refine zpg_ (i := 12) (ra_ [9, 1, 3, 19]) HT_ rfl rfl (by kernel_rfl) (fun _ _ _ h => h) (by rfl) ?_
           refine ztg_ (i := 9) (fl_ 32 13) HT_ HW_ rfl rfl (by kernel_rfl) (fun _ _ _ h => h) (by rfl) hHeld ?_ z59_
           refine zt_ HT_ HW_ rfl rfl (by kernel_rfl) (fun _ _ _ h => h) (by rfl) hHeld ?_ z59_
           iterate 2 refine zp_ HT_ rfl rfl (by kernel_rfl) (fun _ _ _ h => h) (by rfl) ?_
           refine zt_ HT_ HW_ rfl rfl (by kernel_rfl) (fun _ _ _ h => h) (by rfl) hHeld ?_ z59_
           iterate 4 refine zp_ HT_ rfl rfl (by kernel_rfl) (fun _ _ _ h => h) (by rfl) ?_
           refine zpg_ (i := 22) (ra_ [21, 1, 1, 9]) HT_ rfl rfl (by kernel_rfl) (fun _ _ _ h => h) (by rfl) ?_
           refine zpg_ (i := 23) (ra_ [21, 1, 2, 8]) HT_ rfl rfl (by kernel_rfl) (fun _ _ _ h => h) (by rfl) ?_
           refine zpg_ (i := 24) (ra_ [21, 1, 3, 7]) HT_ rfl rfl (by kernel_rfl) (fun _ _ _ h => h) (by rfl) ?_
           refine ztg_ (i := 21) (fl_ 32 25) HT_ HW_ rfl rfl (by kernel_rfl) (fun _ _ _ h => h) (by rfl) hHeld ?_ z59_
           refine zt_ HT_ HW_ rfl rfl (by kernel_rfl) (fun _ _ _ h => h) (by rfl) hHeld ?_ z59_
           iterate 2 refine zp_ HT_ rfl rfl (by kernel_rfl) (fun _ _ _ h => h) (by rfl) ?_
           refine zt_ HT_ HW_ rfl rfl (by kernel_rfl) (fun _ _ _ h => h) (by rfl) hHeld ?_ z59_
           refine one_ (i := 29) (N := some 92) (fl_ 32 30) rfl rfl (one_of HT_.out (by kernel_rfl)) (by decide) (fun K hK => ?_)
           refine goes_ Try.func57 (by kernel_rfl) rfl #[.int .i64 ((rd_T72 l0_0 (rd t154 x6_2)).f1)] (by rfl) rfl rfl z1_ ?_
           with_reducible refine (spec_LabelOk.calls ((rd_T72 l0_0 (rd t154 x6_2)).f1) true _ A41.out).mono ?_
           rintro e w' ⟨rfl, ⟨nd, rfl⟩⟩
           refine ⟨_, rfl, ?_⟩
           refine hK.out _ _ ⟨(blk_cell BK148.out 0).trans rfl, hHeld.2.1, hHeld.2.2.1, ((HB.out.cell (World.block_lt_of_cell? w _ hw166_0)).trans hw166_0), ((HB.out.cell (World.block_lt_of_cell? w _ hw166_1)).trans hw166_1), ((HB.out.cell (World.block_lt_of_cell? w _ hw166_2)).trans hw166_2), ((HB.out.cell (World.block_lt_of_cell? w _ hw166_3)).trans hw166_3), ((HB.out.cell (World.block_lt_of_cell? w _ hw166_4)).trans hw166_4), ((HB.out.cell (World.block_lt_of_cell? w _ hw166_5)).trans hw166_5), ((HB.out.cell (World.block_lt_of_cell? w _ hw166_6)).trans hw166_6), ((HB.out.cell (World.block_lt_of_cell? w _ hw168_0)).trans hw168_0)⟩ (fun hHeld => ?_)
           clear hK K
           refine zn_ rfl ?_
           iterate 2 refine zp_ HT_ rfl rfl (by kernel_rfl) (fun _ _ _ h => h) (by rfl) ?_
           refine done_ (done_of HT_.out (by kernel_rfl)) ?_
           have n0_ := Aside0.mk (Kd.R_drewN HO_3.out nd)
           have n1_ := Aside0.mk (Kd.R_drewN HO_5.out nd)
           have n2_ := Aside0.mk (blk_drewN BK148.out nd)
           have n3_ := Aside0.mk (pw_below_drewN HB.out nd)
           clear HO_3 HO_5 BK148 HB
           have HO_3 := n0_
           have HO_5 := n1_
           have BK148 := n2_
           have HB := n3_
           clear n0_ n1_ n2_ n3_
           generalize w44.drewN nd = w44 at HO_3 HO_5 BK148 HB ⊢
           have p170 : 0 ≤ (x6_2 : Int) := odt_
           have q170 : x6_2 < (t154.length : Int) := odt_
           obtain ⟨ad170, e170, hx170_0⟩ := Kd.at_int (Kd.R_reads' HO_3.out).2.2 x6_2 p170 q170
           obtain rfl : ad163 = ad170 := (by injection e170)
           replace p170 := eq_true p170
           replace q170 := eq_true q170
           have p43 : 0 ≤ ((rd t154 x6_2) : Int) := odt_
           have q43 : ((rd t154 x6_2) : Int) < ((x5_2.length : Int) : Int) := odt_
           obtain ⟨go43, co43, eo43, gb43, gl43, cl43, HG43⟩ := Kd.R_form HO_5.out (by omega)
           (first | cases eo43 | (injection eo43 with ea_ en_ ec_; (first | subst ea_ | (injection ea_ with ea_; subst ea_)); subst ec_; clear en_))
           have GB43 := Aside0.mk gb43
           have GG43 := Aside0.mk HG43
           clear gb43 gl43 HG43
           (first | simp only [add_plain] at hx164_0 | skip)
           obtain ⟨hx43_0, hf43_0⟩ := Kd.R_celln false HO_5.out ((rd t154 x6_2) : Int) p43 q43
           replace p43 := eq_true p43
           replace q43 := eq_true q43
           obtain ⟨hy46_, hz46_⟩ := Kd.R_celln false HO_5.out ((rd t154 x6_2) : Int) (odt_) (odt_)
           have HP46 := Kd.R_putg HO_5.out ((rd t154 x6_2) : Int) true
           try go_wp2_with (first | ((with_reducible refine gate_store (t := 4) (p := 100) rfl ?_); refine store_event (t := 4) (p := 100) (v := ?vo_w47) (w1 := (w44.setCell ⟨go43, ((rd t154 x6_2) : Int).toNat, none⟩ (.bool true))) ?hg ?ho ?hn ?hr ?_; (case ho => rfl); (case hg => rfl); (case hn => rfl); (case hr => exact z25_); intro w47 hw; have hg : w44.grownBy w47 (some go43) := (by rw [hw]; exact HP46.2); have hp_ : Kd.R Kd.bool 4 w47 w.heap.size (fun _ => True) (.slice (some ⟨go43, 0, none⟩) x5_2.length co45) y171 := (by rw [hw, Ny171.out]; exact HP46.1); clear HP46; replace HO_3 := Aside0.mk (Kd.R_over' (v := (.slice (some ⟨go43, 0, none⟩) x5_2.length co45)) z19_ (Kd.R_typed HO_5.out) (by decide) hg); replace BK148 := Aside0.mk (blk_grown (g := gb148) (o := .cells #[.slice (some ad166) l0_0.length c0_0] 28 (0, 0)) z42_ hg (Kd.R_ne HO_5.out BK148.out (by decide))); replace HO_5 := Aside0.mk (hp_); replace HB := Aside0.mk ((by rw [hw]; exact below_set (HB.out) GB43.out : Below w.heap.size w w47)); clear hg hw hp_))
           go_roundg k2
           case measure => have := HJ1.out; have := HK2.out; omega
           case rel => exact ⟨(y171), (wrap64 (x6_2 + 1)), z12_, H', ⟨by have := HJ1.out; have := HK2.out; omega⟩, ⟨z19_⟩, ⟨z66_⟩, ⟨z42_⟩, ⟨z13_⟩⟩
          ·replace c42 := Bool.eq_false_iff.mpr c42
           subst c42
           replace H := iff_ H
           obtain rfl := Option.some.inj H
           try go_wp2
           have n0_ := Aside0.mk (Kd.R_drew HO_3.out)
           have n1_ := Aside0.mk (Kd.R_drew HO_5.out)
           have n2_ := Aside0.mk (blk_drew BK148.out)
           have n3_ := Aside0.mk (below_drew1 HB.out)
           clear HO_3
           clear HO_5
           clear BK148
           clear HB
           have HO_3 := n0_
           have HO_5 := n1_
           have BK148 := n2_
           have HB := n3_
           clear n0_ n1_ n2_ n3_
           have p163 : 0 ≤ (x6_2 : Int) := odt_
           have q163 : x6_2 < (t154.length : Int) := odt_
           obtain ⟨ad163, e163, hx163_0⟩ := Kd.at_int (Kd.R_reads' HO_3.out).2.2 x6_2 p163 q163
           cases e163
           replace p163 := eq_true p163
           replace q163 := eq_true q163
           obtain ⟨Ao49, co49, eo49⟩ := Kd.R_slice HO_5.out
           (first | subst eo49 | (injection eo49 with f1_ f2_ f3_; have f4_ := f1_.symm; have f5_ := f3_.symm; clear f1_ f2_ f3_; subst f4_; subst f5_))
           have p164 : 0 ≤ ((rd t154 x6_2) : Int) := odt_
           have q164 : (rd t154 x6_2) < (x5_2.length : Int) := odt_
           obtain ⟨ad164, e164, hx164_0⟩ := Kd.at_bool (Kd.R_reads' HO_5.out).2.2 (rd t154 x6_2) p164 q164
           (try rw [← Nbq34.out] at hx164_0)
           (try rw [← Nbq34.out] at hw164_0)
           (try rw [← Nbq39.out] at hx164_0)
           (try rw [← Nbq39.out] at hw164_0)
           cases e164
           replace p164 := eq_true p164
           replace q164 := eq_true q164
           have p165 : 0 ≤ (x6_2 : Int) := odt_
           have q165 : x6_2 < (t154.length : Int) := odt_
           obtain ⟨ad165, e165, hx165_0⟩ := Kd.at_int (Kd.R_reads' HO_3.out).2.2 x6_2 p165 q165
           obtain rfl : ad163 = ad165 := (by injection e165)
           replace p165 := eq_true p165
           replace q165 := eq_true q165
           have p166 : 0 ≤ ((rd t154 x6_2) : Int) := odt_
           have q166 : (rd t154 x6_2) < (l0_0.length : Int) := odt_
           obtain ⟨ad166, e166, hx166_0, hx166_1, hx166_2, hx166_3, hx166_4, hx166_5, hx166_6⟩ := at_T72 HR0_0.out (rd t154 x6_2) p166 q166
           have hw166_6 := hx166_6
           have hw166_5 := hx166_5
           have hw166_4 := hx166_4
           have hw166_3 := hx166_3
           have hw166_2 := hx166_2
           have hw166_1 := hx166_1
           have hw166_0 := hx166_0
           (try rw [← Nbq34.out] at hx166_0)
           (try rw [← Nbq34.out] at hw166_0)
           (try rw [← Nbq39.out] at hx166_0)
           (try rw [← Nbq39.out] at hw166_0)
           cases e166
           replace hx166_0 := (HB.out.cell (World.block_lt_of_cell? w _ hx166_0)).trans hx166_0
           replace hx166_1 := (HB.out.cell (World.block_lt_of_cell? w _ hx166_1)).trans hx166_1
           replace hx166_2 := (HB.out.cell (World.block_lt_of_cell? w _ hx166_2)).trans hx166_2
           replace hx166_3 := (HB.out.cell (World.block_lt_of_cell? w _ hx166_3)).trans hx166_3
           replace hx166_4 := (HB.out.cell (World.block_lt_of_cell? w _ hx166_4)).trans hx166_4
           replace hx166_5 := (HB.out.cell (World.block_lt_of_cell? w _ hx166_5)).trans hx166_5
           replace hx166_6 := (HB.out.cell (World.block_lt_of_cell? w _ hx166_6)).trans hx166_6
           replace p166 := eq_true p166
           replace q166 := eq_true q166
           have p167 : 0 ≤ (x6_2 : Int) := odt_
           have q167 : x6_2 < (t154.length : Int) := odt_
           obtain ⟨ad167, e167, hx167_0⟩ := Kd.at_int (Kd.R_reads' HO_3.out).2.2 x6_2 p167 q167
           obtain rfl : ad163 = ad167 := (by injection e167)
           replace p167 := eq_true p167
           replace q167 := eq_true q167
           have p168 : 0 ≤ ((rd t154 x6_2) : Int) := odt_
           have q168 : (rd t154 x6_2) < (l0_0.length : Int) := odt_
           obtain ⟨ad168, e168, hx168_0, hx168_1, hx168_2, hx168_3, hx168_4, hx168_5, hx168_6⟩ := at_T72 HR0_0.out (rd t154 x6_2) p168 q168
           have hw168_6 := hx168_6
           have hw168_5 := hx168_5
           have hw168_4 := hx168_4
           have hw168_3 := hx168_3
           have hw168_2 := hx168_2
           have hw168_1 := hx168_1
           have hw168_0 := hx168_0
           (try rw [← Nbq34.out] at hx168_0)
           (try rw [← Nbq34.out] at hw168_0)
           (try rw [← Nbq39.out] at hx168_0)
           (try rw [← Nbq39.out] at hw168_0)
           obtain rfl : ad166 = ad168 := (by injection e168)
           replace hx168_0 := (HB.out.cell (World.block_lt_of_cell? w _ hx168_0)).trans hx168_0
           replace hx168_1 := (HB.out.cell (World.block_lt_of_cell? w _ hx168_1)).trans hx168_1
           replace hx168_2 := (HB.out.cell (World.block_lt_of_cell? w _ hx168_2)).trans hx168_2
           replace hx168_3 := (HB.out.cell (World.block_lt_of_cell? w _ hx168_3)).trans hx168_3
           replace hx168_4 := (HB.out.cell (World.block_lt_of_cell? w _ hx168_4)).trans hx168_4
           replace hx168_5 := (HB.out.cell (World.block_lt_of_cell? w _ hx168_5)).trans hx168_5
           replace hx168_6 := (HB.out.cell (World.block_lt_of_cell? w _ hx168_6)).trans hx168_6
           replace p168 := eq_true p168
           replace q168 := eq_true q168
           refine start_ (n := 32) (S := fun w' => w'.cell? ⟨gb148, 0, none⟩ = some (.slice (some ad166) l0_0.length c0_0) ∧ w'.cell? (ad163.add (x6_2).toNat) = some (.int .i64 (rd t154 x6_2)) ∧ w'.cell? (ad164.add ((rd t154 x6_2)).toNat) = some (.bool false) ∧ w'.cell? (ad166.add (((rd t154 x6_2)).toNat * 7)) = some (.bool true) ∧ w'.cell? ⟨(ad166.add (((rd t154 x6_2)).toNat * 7)).block, (ad166.add (((rd t154 x6_2)).toNat * 7)).off + 1, none⟩ = some (.int .i64 ((rd_T72 l0_0 (rd t154 x6_2)).f1)) ∧ w'.cell? ⟨(ad166.add (((rd t154 x6_2)).toNat * 7)).block, (ad166.add (((rd t154 x6_2)).toNat * 7)).off + 2, none⟩ = some (.int .i64 ((rd_T72 l0_0 (rd t154 x6_2)).f2)) ∧ w'.cell? ⟨(ad166.add (((rd t154 x6_2)).toNat * 7)).block, (ad166.add (((rd t154 x6_2)).toNat * 7)).off + 3, none⟩ = some (.int .i64 ((rd_T72 l0_0 (rd t154 x6_2)).f3)) ∧ w'.cell? ⟨(ad166.add (((rd t154 x6_2)).toNat * 7)).block, (ad166.add (((rd t154 x6_2)).toNat * 7)).off + 4, none⟩ = some (.int .i64 ((rd_T72 l0_0 (rd t154 x6_2)).f4)) ∧ w'.cell? ⟨(ad166.add (((rd t154 x6_2)).toNat * 7)).block, (ad166.add (((rd t154 x6_2)).toNat * 7)).off + 5, none⟩ = some (.int .i64 ((rd_T72 l0_0 (rd t154 x6_2)).f5)) ∧ w'.cell? ⟨(ad166.add (((rd t154 x6_2)).toNat * 7)).block, (ad166.add (((rd t154 x6_2)).toNat * 7)).off + 6, none⟩ = some (.int .i64 ((rd_T72 l0_0 (rd t154 x6_2)).f6)) ∧ w'.cell? (ad166.add (((rd t154 x6_2)).toNat * 7)) = some (.bool (true))) (ds := []) (fl_ 32 0) (by kernel_rfl) rfl (fl_zero _) ⟨(blk_cell BK148.out 0).trans rfl, hx163_0, hx164_0, ((HB.out.cell (World.block_lt_of_cell? w _ hw166_0)).trans hw166_0), ((HB.out.cell (World.block_lt_of_cell? w _ hw166_1)).trans hw166_1), ((HB.out.cell (World.block_lt_of_cell? w _ hw166_2)).trans hw166_2), ((HB.out.cell (World.block_lt_of_cell? w _ hw166_3)).trans hw166_3), ((HB.out.cell (World.block_lt_of_cell? w _ hw166_4)).trans hw166_4), ((HB.out.cell (World.block_lt_of_cell? w _ hw166_5)).trans hw166_5), ((HB.out.cell (World.block_lt_of_cell? w _ hw166_6)).trans hw166_6), ((HB.out.cell (World.block_lt_of_cell? w _ hw168_0)).trans hw168_0)⟩ (fun hHeld => ?_); refine with_tabW spec_DomOk.tab10 spec_DomOk.bits10 (fun HT_ HW_ => ?_)
           generalize wr.drew = w48 at HO_3 HO_5 BK148 HB hx163_0 hx164_0 hx165_0 hx166_0 hx166_1 hx166_2 hx166_3 hx166_4 hx166_5 hx166_6 hx167_0 hx168_0 hx168_1 hx168_2 hx168_3 hx168_4 hx168_5 hx168_6 hHeld ⊢
           iterate 4 refine zp_ HT_ rfl rfl (by kernel_rfl) (fun _ _ _ h => h) (by rfl) ?_
           refine zt_ HT_ HW_ rfl rfl (by kernel_rfl) (fun _ _ _ h => h) (by rfl) hHeld ?_ z59_
           refine zp_ HT_ rfl rfl (by kernel_rfl) (fun _ _ _ h => h) (by rfl) ?_
           refine zt_ HT_ HW_ rfl rfl (by kernel_rfl) (fun _ _ _ h => h) (by rfl) hHeld ?_ z59_
           iterate 2 refine zp_ HT_ rfl rfl (by kernel_rfl) (fun _ _ _ h => h) (by rfl) ?_
           refine zpg_ (i := 10) (ra_ [9, 1, 1, 21]) HT_ rfl rfl (by kernel_rfl) (fun _ _ _ h => h) (by rfl) ?_
           refine zpg_ (i := 11) (ra_ [9, 1, 2, 20]) HT_ rfl rfl (by kernel_rfl) (fun _ _ _ h => h) (by rfl) ?_
           refine zpg_ (i := 12) (ra_ [9, 1, 3, 19]) HT_ rfl rfl (by kernel_rfl) (fun _ _ _ h => h) (by rfl) ?_
           refine ztg_ (i := 9) (fl_ 32 13) HT_ HW_ rfl rfl (by kernel_rfl) (fun _ _ _ h => h) (by rfl) hHeld ?_ z59_
           refine zt_ HT_ HW_ rfl rfl (by kernel_rfl) (fun _ _ _ h => h) (by rfl) hHeld ?_ z59_
           iterate 2 refine zp_ HT_ rfl rfl (by kernel_rfl) (fun _ _ _ h => h) (by rfl) ?_
           refine zt_ HT_ HW_ rfl rfl (by kernel_rfl) (fun _ _ _ h => h) (by rfl) hHeld ?_ z59_
           iterate 4 refine zp_ HT_ rfl rfl (by kernel_rfl) (fun _ _ _ h => h) (by rfl) ?_
           refine zpg_ (i := 22) (ra_ [21, 1, 1, 9]) HT_ rfl rfl (by kernel_rfl) (fun _ _ _ h => h) (by rfl) ?_
           refine zpg_ (i := 23) (ra_ [21, 1, 2, 8]) HT_ rfl rfl (by kernel_rfl) (fun _ _ _ h => h) (by rfl) ?_
           refine zpg_ (i := 24) (ra_ [21, 1, 3, 7]) HT_ rfl rfl (by kernel_rfl) (fun _ _ _ h => h) (by rfl) ?_
           refine ztg_ (i := 21) (fl_ 32 25) HT_ HW_ rfl rfl (by kernel_rfl) (fun _ _ _ h => h) (by rfl) hHeld ?_ z59_
           refine zt_ HT_ HW_ rfl rfl (by kernel_rfl) (fun _ _ _ h => h) (by rfl) hHeld ?_ z59_
           iterate 2 refine zp_ HT_ rfl rfl (by kernel_rfl) (fun _ _ _ h => h) (by rfl) ?_
           refine zt_ HT_ HW_ rfl rfl (by kernel_rfl) (fun _ _ _ h => h) (by rfl) hHeld ?_ z59_
           refine one_ (i := 29) (N := some 92) (fl_ 32 30) rfl rfl (one_of HT_.out (by kernel_rfl)) (by decide) (fun K hK => ?_)
           refine goes_ Try.func57 (by kernel_rfl) rfl #[.int .i64 ((rd_T72 l0_0 (rd t154 x6_2)).f1)] (by rfl) rfl rfl z1_ ?_
           with_reducible refine (spec_LabelOk.calls ((rd_T72 l0_0 (rd t154 x6_2)).f1) false _ A41.out).mono ?_
           rintro e w' ⟨rfl, ⟨nd, rfl⟩⟩
           refine ⟨_, rfl, ?_⟩
           refine hK.out _ _ ⟨(blk_cell BK148.out 0).trans rfl, hHeld.2.1, hHeld.2.2.1, ((HB.out.cell (World.block_lt_of_cell? w _ hw166_0)).trans hw166_0), ((HB.out.cell (World.block_lt_of_cell? w _ hw166_1)).trans hw166_1), ((HB.out.cell (World.block_lt_of_cell? w _ hw166_2)).trans hw166_2), ((HB.out.cell (World.block_lt_of_cell? w _ hw166_3)).trans hw166_3), ((HB.out.cell (World.block_lt_of_cell? w _ hw166_4)).trans hw166_4), ((HB.out.cell (World.block_lt_of_cell? w _ hw166_5)).trans hw166_5), ((HB.out.cell (World.block_lt_of_cell? w _ hw166_6)).trans hw166_6), ((HB.out.cell (World.block_lt_of_cell? w _ hw168_0)).trans hw168_0)⟩ (fun hHeld => ?_)
           clear hK K
           refine zn_ rfl ?_
           iterate 2 refine zp_ HT_ rfl rfl (by kernel_rfl) (fun _ _ _ h => h) (by rfl) ?_
           refine done_ (done_of HT_.out (by kernel_rfl)) ?_
           try go_wp2
           go_ret
           exact ⟨z4_, z13_⟩
         ·replace c40 := Bool.eq_false_iff.mpr c40
          subst c40
          replace H := iff_ H
          obtain rfl := Option.some.inj H
          try go_wp2
          have n0_ := Aside0.mk (Kd.R_drew HO_3.out)
          have n1_ := Aside0.mk (Kd.R_drew HO_5.out)
          have n2_ := Aside0.mk (blk_drew BK148.out)
          have n3_ := Aside0.mk (below_drew1 HB.out)
          clear HO_3
          clear HO_5
          clear BK148
          clear HB
          have HO_3 := n0_
          have HO_5 := n1_
          have BK148 := n2_
          have HB := n3_
          clear n0_ n1_ n2_ n3_
          have p163 : 0 ≤ (x6_2 : Int) := odt_
          have q163 : x6_2 < (t154.length : Int) := odt_
          obtain ⟨ad163, e163, hx163_0⟩ := Kd.at_int (Kd.R_reads' HO_3.out).2.2 x6_2 p163 q163
          cases e163
          replace p163 := eq_true p163
          replace q163 := eq_true q163
          obtain ⟨Ao51, co51, eo51⟩ := Kd.R_slice HO_5.out
          (first | subst eo51 | (injection eo51 with f1_ f2_ f3_; have f4_ := f1_.symm; have f5_ := f3_.symm; clear f1_ f2_ f3_; subst f4_; subst f5_))
          have p164 : 0 ≤ ((rd t154 x6_2) : Int) := odt_
          have q164 : (rd t154 x6_2) < (x5_2.length : Int) := odt_
          obtain ⟨ad164, e164, hx164_0⟩ := Kd.at_bool (Kd.R_reads' HO_5.out).2.2 (rd t154 x6_2) p164 q164
          (try rw [← Nbq34.out] at hx164_0)
          (try rw [← Nbq34.out] at hw164_0)
          (try rw [← Nbq39.out] at hx164_0)
          (try rw [← Nbq39.out] at hw164_0)
          cases e164
          replace p164 := eq_true p164
          replace q164 := eq_true q164
          have p165 : 0 ≤ (x6_2 : Int) := odt_
          have q165 : x6_2 < (t154.length : Int) := odt_
          obtain ⟨ad165, e165, hx165_0⟩ := Kd.at_int (Kd.R_reads' HO_3.out).2.2 x6_2 p165 q165
          obtain rfl : ad163 = ad165 := (by injection e165)
          replace p165 := eq_true p165
          replace q165 := eq_true q165
          have p166 : 0 ≤ ((rd t154 x6_2) : Int) := odt_
          have q166 : (rd t154 x6_2) < (l0_0.length : Int) := odt_
          obtain ⟨ad166, e166, hx166_0, hx166_1, hx166_2, hx166_3, hx166_4, hx166_5, hx166_6⟩ := at_T72 HR0_0.out (rd t154 x6_2) p166 q166
          have hw166_6 := hx166_6
          have hw166_5 := hx166_5
          have hw166_4 := hx166_4
          have hw166_3 := hx166_3
          have hw166_2 := hx166_2
          have hw166_1 := hx166_1
          have hw166_0 := hx166_0
          (try rw [← Nbq34.out] at hx166_0)
          (try rw [← Nbq34.out] at hw166_0)
          (try rw [← Nbq39.out] at hx166_0)
          (try rw [← Nbq39.out] at hw166_0)
          cases e166
          replace hx166_0 := (HB.out.cell (World.block_lt_of_cell? w _ hx166_0)).trans hx166_0
          replace hx166_1 := (HB.out.cell (World.block_lt_of_cell? w _ hx166_1)).trans hx166_1
          replace hx166_2 := (HB.out.cell (World.block_lt_of_cell? w _ hx166_2)).trans hx166_2
          replace hx166_3 := (HB.out.cell (World.block_lt_of_cell? w _ hx166_3)).trans hx166_3
          replace hx166_4 := (HB.out.cell (World.block_lt_of_cell? w _ hx166_4)).trans hx166_4
          replace hx166_5 := (HB.out.cell (World.block_lt_of_cell? w _ hx166_5)).trans hx166_5
          replace hx166_6 := (HB.out.cell (World.block_lt_of_cell? w _ hx166_6)).trans hx166_6
          replace p166 := eq_true p166
          replace q166 := eq_true q166
          refine start_ (n := 32) (S := fun w' => w'.cell? ⟨gb148, 0, none⟩ = some (.slice (some ad166) l0_0.length c0_0) ∧ w'.cell? (ad163.add (x6_2).toNat) = some (.int .i64 (rd t154 x6_2)) ∧ w'.cell? (ad164.add ((rd t154 x6_2)).toNat) = some (.bool false) ∧ w'.cell? (ad166.add (((rd t154 x6_2)).toNat * 7)) = some (.bool false) ∧ w'.cell? ⟨(ad166.add (((rd t154 x6_2)).toNat * 7)).block, (ad166.add (((rd t154 x6_2)).toNat * 7)).off + 1, none⟩ = some (.int .i64 ((rd_T72 l0_0 (rd t154 x6_2)).f1)) ∧ w'.cell? ⟨(ad166.add (((rd t154 x6_2)).toNat * 7)).block, (ad166.add (((rd t154 x6_2)).toNat * 7)).off + 2, none⟩ = some (.int .i64 ((rd_T72 l0_0 (rd t154 x6_2)).f2)) ∧ w'.cell? ⟨(ad166.add (((rd t154 x6_2)).toNat * 7)).block, (ad166.add (((rd t154 x6_2)).toNat * 7)).off + 3, none⟩ = some (.int .i64 ((rd_T72 l0_0 (rd t154 x6_2)).f3)) ∧ w'.cell? ⟨(ad166.add (((rd t154 x6_2)).toNat * 7)).block, (ad166.add (((rd t154 x6_2)).toNat * 7)).off + 4, none⟩ = some (.int .i64 ((rd_T72 l0_0 (rd t154 x6_2)).f4)) ∧ w'.cell? ⟨(ad166.add (((rd t154 x6_2)).toNat * 7)).block, (ad166.add (((rd t154 x6_2)).toNat * 7)).off + 5, none⟩ = some (.int .i64 ((rd_T72 l0_0 (rd t154 x6_2)).f5)) ∧ w'.cell? ⟨(ad166.add (((rd t154 x6_2)).toNat * 7)).block, (ad166.add (((rd t154 x6_2)).toNat * 7)).off + 6, none⟩ = some (.int .i64 ((rd_T72 l0_0 (rd t154 x6_2)).f6))) (ds := []) (fl_ 32 0) (by kernel_rfl) rfl (fl_zero _) ⟨(blk_cell BK148.out 0).trans rfl, hx163_0, hx164_0, ((HB.out.cell (World.block_lt_of_cell? w _ hw166_0)).trans hw166_0), ((HB.out.cell (World.block_lt_of_cell? w _ hw166_1)).trans hw166_1), ((HB.out.cell (World.block_lt_of_cell? w _ hw166_2)).trans hw166_2), ((HB.out.cell (World.block_lt_of_cell? w _ hw166_3)).trans hw166_3), ((HB.out.cell (World.block_lt_of_cell? w _ hw166_4)).trans hw166_4), ((HB.out.cell (World.block_lt_of_cell? w _ hw166_5)).trans hw166_5), ((HB.out.cell (World.block_lt_of_cell? w _ hw166_6)).trans hw166_6)⟩ (fun hHeld => ?_); refine with_tabW spec_DomOk.tab10 spec_DomOk.bits10 (fun HT_ HW_ => ?_)
          generalize wr.drew = w50 at HO_3 HO_5 BK148 HB hx163_0 hx164_0 hx165_0 hx166_0 hx166_1 hx166_2 hx166_3 hx166_4 hx166_5 hx166_6 hHeld ⊢
          iterate 4 refine zp_ HT_ rfl rfl (by kernel_rfl) (fun _ _ _ h => h) (by rfl) ?_
          refine zt_ HT_ HW_ rfl rfl (by kernel_rfl) (fun _ _ _ h => h) (by rfl) hHeld ?_ z175_
          refine zp_ HT_ rfl rfl (by kernel_rfl) (fun _ _ _ h => h) (by rfl) ?_
          refine zt_ HT_ HW_ rfl rfl (by kernel_rfl) (fun _ _ _ h => h) (by rfl) hHeld ?_ z175_
          iterate 2 refine zp_ HT_ rfl rfl (by kernel_rfl) (fun _ _ _ h => h) (by rfl) ?_
          refine zpg_ (i := 10) (ra_ [9, 1, 1, 21]) HT_ rfl rfl (by kernel_rfl) (fun _ _ _ h => h) (by rfl) ?_
          refine zpg_ (i := 11) (ra_ [9, 1, 2, 20]) HT_ rfl rfl (by kernel_rfl) (fun _ _ _ h => h) (by rfl) ?_
          refine zpg_ (i := 12) (ra_ [9, 1, 3, 19]) HT_ rfl rfl (by kernel_rfl) (fun _ _ _ h => h) (by rfl) ?_
          refine ztg_ (i := 9) (fl_ 32 13) HT_ HW_ rfl rfl (by kernel_rfl) (fun _ _ _ h => h) (by rfl) hHeld ?_ z175_
          refine zt_ HT_ HW_ rfl rfl (by kernel_rfl) (fun _ _ _ h => h) (by rfl) hHeld ?_ z175_
          iterate 2 refine zp_ HT_ rfl rfl (by kernel_rfl) (fun _ _ _ h => h) (by rfl) ?_
          refine zt_ HT_ HW_ rfl rfl (by kernel_rfl) (fun _ _ _ h => h) (by rfl) hHeld ?_ z175_
          iterate 3 refine zp_ HT_ rfl rfl (by kernel_rfl) (fun _ _ _ h => h) (by rfl) ?_
          iterate 11 refine zu_ HT_ rfl rfl (by kernel_rfl) (fun _ _ _ h => h) (by rfl) ?_
          refine zp_ HT_ rfl rfl (by kernel_rfl) (fun _ _ _ h => h) (by rfl) ?_
          refine done_ (done_of HT_.out (by kernel_rfl)) ?_
          try go_wp2
          go_ret
          exact ⟨z4_, z13_⟩
       ·rw [if_neg c30] at H
        have c30b0 : decide (x6_2 < (t154.length : Int)) = false := decide_eq_false c30
        clear c30
        have H' := Aside0.mk H
        clear H
        go_wp2
        go_loopg [7] k2 (fun kq v7 w' => ∃ (x7_3 : Int), v7 = .int .i64 x7_3 ∧ Aside0 (spec_DomOk.l1 kq x5_2 x7_3 l0_0 = some r) ∧ Aside0 (kq ≤ k2) ∧ Aside0 (Kd.R Kd.bool 4 w' w.heap.size (fun _ => True) v161 x5_2) ∧ Aside0 (w'.heap[gb148]? = some (.cells #[(.slice A0_0 l0_0.length c0_0)] 28 (0, 0))) ∧ Aside0 (Below w.heap.size w w'))
        case atStart => exact ⟨(0), z12_, H', ⟨Nat.le_refl _⟩, ⟨z66_⟩, ⟨z42_⟩, ⟨z13_⟩⟩
        case round =>
         clear H'
         try clear p1
         try clear q1
         try clear hx1
         try clear p2
         try clear c3
         try clear q3
         try clear c4
         try clear c5
         try clear p16
         try clear q16
         try clear hx16
         try clear c30
         try clear c30b0
         try clear c31
         try clear c32
         try clear c33
         try clear q34
         try clear c38
         try clear q39
         try clear c40
         try clear hx163_0
         try clear hx164_0
         try clear hx165_0
         try clear hx166_0
         try clear hx166_1
         try clear hx166_2
         try clear hx166_3
         try clear hx166_4
         try clear hx166_5
         try clear hx166_6
         try clear hx167_0
         try clear hx168_0
         try clear hx168_1
         try clear hx168_2
         try clear hx168_3
         try clear hx168_4
         try clear hx168_5
         try clear hx168_6
         try clear p163
         try clear p164
         try clear p165
         try clear p166
         try clear p167
         try clear p168
         try clear q163
         try clear q164
         try clear q165
         try clear q166
         try clear q167
         try clear q168
         obtain ⟨x7_3, rfl, HA, HK3, HO_5, BK148, HB⟩ := hrel
         cases gk with
         | zero => exact absurd HA.out (by simp [spec_DomOk.l1])
         | succ k3 =>
          have H := HA.out
          clear HA
          simp only [spec_DomOk.l1] at H
          by_cases c52 : x7_3 < (l0_0.length : Int)
          ·rw [if_pos c52] at H
           have c52b0 : decide (x7_3 < (l0_0.length : Int)) = true := decide_eq_true c52
           clear c52
           obtain ⟨c53b0, H⟩ := ifd_ H
           obtain ⟨c54b0, H⟩ := ifd_ H
           obtain ⟨bq55, hbq55⟩ : ∃ b_ : Bool, b_ = (rdOf false x5_2 x7_3) := ⟨_, rfl⟩
           replace H : (if bq55 = true then ((spec_l16Links.f k3 l0_0 x7_3).bind fun t174 => (if t174 = true then (spec_DomOk.l1 k3 x5_2 (wrap64 (x7_3 + 1)) l0_0) else (some false))) else ((spec_l16Empty.f).bind fun bt176 => (if (!(((rd_T72 l0_0 x7_3).f0) == bt176.1) || (!(((rd_T72 l0_0 x7_3).f1) == bt176.2.1) || (!(((rd_T72 l0_0 x7_3).f2) == bt176.2.2.1) || (!(((rd_T72 l0_0 x7_3).f3) == bt176.2.2.2.1) || (!(((rd_T72 l0_0 x7_3).f4) == bt176.2.2.2.2.1) || (!(((rd_T72 l0_0 x7_3).f5) == bt176.2.2.2.2.2.1) || (!(((rd_T72 l0_0 x7_3).f6) == bt176.2.2.2.2.2.2)))))))) = true then (some false) else (spec_DomOk.l1 k3 x5_2 (wrap64 (x7_3 + 1)) l0_0)))) = some r := by rw [← hbq55] at H; exact H
           have Nbq55 := Aside0.mk hbq55
           clear hbq55
           by_cases c56 : bq55 = true
           ·subst c56
            replace H := ift_ H
            obtain ⟨t174, A57, H⟩ := bnd_ H
            by_cases c58 : t174 = true
            ·subst c58
             replace H := ift_ H
             have H' := Aside0.mk H
             clear H
             have hcz59_0 : wr.cell? ⟨gb148, 0, none⟩ = some (.slice A0_0 l0_0.length c0_0) := (blk_cell BK148.out 0).trans rfl
             have hfz59_0 := blk_frozen BK148.out 0
             try go_wp2
             have n0_ := Aside0.mk (Kd.R_drew HO_5.out)
             have n1_ := Aside0.mk (blk_drew BK148.out)
             have n2_ := Aside0.mk (below_drew1 HB.out)
             clear HO_5
             clear BK148
             clear HB
             have HO_5 := n0_
             have BK148 := n1_
             have HB := n2_
             clear n0_ n1_ n2_
             obtain ⟨Ao61, co61, eo61⟩ := Kd.R_slice HO_5.out
             (first | subst eo61 | (injection eo61 with f1_ f2_ f3_; have f4_ := f1_.symm; have f5_ := f3_.symm; clear f1_ f2_ f3_; subst f4_; subst f5_))
             have p172 : 0 ≤ (x7_3 : Int) := odt_
             have q172 : x7_3 < (x5_2.length : Int) := odt_
             obtain ⟨ad172, e172, hx172_0⟩ := Kd.at_bool (Kd.R_reads' HO_5.out).2.2 x7_3 p172 q172
             (try rw [← Nbq55.out] at hx172_0)
             (try rw [← Nbq55.out] at hw172_0)
             cases e172
             replace p172 := eq_true p172
             replace q172 := eq_true q172
             have p173 : 0 ≤ (x7_3 : Int) := odt_
             have q173 : x7_3 < (x5_2.length : Int) := odt_
             obtain ⟨ad173, e173, hx173_0⟩ := Kd.at_bool (Kd.R_reads' HO_5.out).2.2 x7_3 p173 q173
             (try rw [← Nbq55.out] at hx173_0)
             (try rw [← Nbq55.out] at hw173_0)
             obtain rfl : ad172 = ad173 := (by injection e173)
             replace p173 := eq_true p173
             replace q173 := eq_true q173
             refine start_ (n := 26) (S := fun w' => w'.cell? ⟨gb148, 0, none⟩ = some (.slice A0_0 l0_0.length c0_0) ∧ w'.cell? (ad172.add (x7_3).toNat) = some (.bool true) ∧ w'.cell? (ad172.add (x7_3).toNat) = some (.bool (true))) (ds := []) (fl_ 26 0) (by kernel_rfl) rfl (fl_zero _) ⟨(blk_cell BK148.out 0).trans rfl, hx172_0, hx173_0⟩ (fun hHeld => ?_); refine with_tabW spec_DomOk.tab16 spec_DomOk.bits16 (fun HT_ HW_ => ?_)
             generalize wr.drew = w60 at HO_5 BK148 HB hx172_0 hx173_0 hHeld ⊢
             iterate 3 refine zp_ HT_ rfl rfl (by kernel_rfl) (fun _ _ _ h => h) (by rfl) ?_
             refine zt_ HT_ HW_ rfl rfl (by kernel_rfl) (fun _ _ _ h => h) (by rfl) hHeld ?_ z217_
             iterate 2 refine zp_ HT_ rfl rfl (by kernel_rfl) (fun _ _ _ h => h) (by rfl) ?_
             iterate 7 refine zu_ HT_ rfl rfl (by kernel_rfl) (fun _ _ _ h => h) (by rfl) ?_
             iterate 5 refine zp_ HT_ rfl rfl (by kernel_rfl) (fun _ _ _ h => h) (by rfl) ?_
             refine zt_ HT_ HW_ rfl rfl (by kernel_rfl) (fun _ _ _ h => h) (by rfl) hHeld ?_ z217_
             refine zp_ HT_ rfl rfl (by kernel_rfl) (fun _ _ _ h => h) (by rfl) ?_
             refine zpg_ (i := 21) (ra_ [20, 1, 1, 4]) HT_ rfl rfl (by kernel_rfl) (fun _ _ _ h => h) (by rfl) ?_
             refine ztg_ (i := 20) (fl_ 26 22) HT_ HW_ rfl rfl (by kernel_rfl) (fun _ _ _ h => h) (by rfl) hHeld ?_ z217_
             refine one_ (i := 22) (N := some 130) (fl_ 26 23) rfl rfl (one_of HT_.out (by kernel_rfl)) (by decide) (fun K hK => ?_)
             refine goes_ Try.func63 (by kernel_rfl) rfl #[.agg #[.slice A0_0 l0_0.length c0_0], .int .i64 x7_3] (by rfl) rfl rfl z1_ ?_
             with_reducible refine (spec_l16Links.calls k3 _ _ l0_0 x7_3 true _ ?side1 ?side2 A57.out).mono ?_
             (case side1 => exact z10_)
             (case side2 => exact HC0_0.out)
             rintro e w62 ⟨rfl, hb⟩
             have HS1_ := (hb.cell (World.block_lt_of_cell? _ _ (hHeld.2.1))).trans (hHeld.2.1)
             have HS2_ := (hb.cell (World.block_lt_of_cell? _ _ (hHeld.2.2))).trans (hHeld.2.2)
             refine ⟨_, rfl, ?_⟩
             have n0_ := Aside0.mk (Kd.R_below z66_ hb)
             have n1_ := Aside0.mk (blk_below (g := gb148) (o := .cells #[.slice A0_0 l0_0.length c0_0] 28 (0, 0)) z42_ hb)
             have n2_ := Aside0.mk (below_step z13_ hb)
             clear HO_5
             clear BK148
             clear HB
             have HO_5 := n0_
             have BK148 := n1_
             have HB := n2_
             clear n0_ n1_ n2_
             (try clear hb)
             (try clear hb2)
             (try clear hk)
             (try clear hi)
             refine hK.out _ _ ⟨(blk_cell BK148.out 0).trans rfl, HS1_, HS2_⟩ (fun hHeld => ?_)
             clear hK K
             refine zn_ rfl ?_
             iterate 3 refine zp_ HT_ rfl rfl (by kernel_rfl) (fun _ _ _ h => h) (by rfl) ?_
             refine done_ (done_of HT_.out (by kernel_rfl)) ?_
             try go_wp2
             go_roundg k3
             case measure => have := HJ1.out; have := HK2.out; have := HK3.out; omega
             case rel => exact ⟨(wrap64 (x7_3 + 1)), z12_, H', ⟨by have := HJ1.out; have := HK2.out; have := HK3.out; omega⟩, ⟨z66_⟩, ⟨z42_⟩, ⟨z13_⟩⟩
            ·replace c58 := Bool.eq_false_iff.mpr c58
             subst c58
             replace H := iff_ H
             obtain rfl := Option.some.inj H
             have hcz63_0 : wr.cell? ⟨gb148, 0, none⟩ = some (.slice A0_0 l0_0.length c0_0) := (blk_cell BK148.out 0).trans rfl
             have hfz63_0 := blk_frozen BK148.out 0
             try go_wp2
             have n0_ := Aside0.mk (Kd.R_drew HO_5.out)
             have n1_ := Aside0.mk (blk_drew BK148.out)
             have n2_ := Aside0.mk (below_drew1 HB.out)
             clear HO_5
             clear BK148
             clear HB
             have HO_5 := n0_
             have BK148 := n1_
             have HB := n2_
             clear n0_ n1_ n2_
             obtain ⟨Ao65, co65, eo65⟩ := Kd.R_slice HO_5.out
             (first | subst eo65 | (injection eo65 with f1_ f2_ f3_; have f4_ := f1_.symm; have f5_ := f3_.symm; clear f1_ f2_ f3_; subst f4_; subst f5_))
             have p172 : 0 ≤ (x7_3 : Int) := odt_
             have q172 : x7_3 < (x5_2.length : Int) := odt_
             obtain ⟨ad172, e172, hx172_0⟩ := Kd.at_bool (Kd.R_reads' HO_5.out).2.2 x7_3 p172 q172
             (try rw [← Nbq55.out] at hx172_0)
             (try rw [← Nbq55.out] at hw172_0)
             cases e172
             replace p172 := eq_true p172
             replace q172 := eq_true q172
             have p173 : 0 ≤ (x7_3 : Int) := odt_
             have q173 : x7_3 < (x5_2.length : Int) := odt_
             obtain ⟨ad173, e173, hx173_0⟩ := Kd.at_bool (Kd.R_reads' HO_5.out).2.2 x7_3 p173 q173
             (try rw [← Nbq55.out] at hx173_0)
             (try rw [← Nbq55.out] at hw173_0)
             obtain rfl : ad172 = ad173 := (by injection e173)
             replace p173 := eq_true p173
             replace q173 := eq_true q173
             refine start_ (n := 26) (S := fun w' => w'.cell? ⟨gb148, 0, none⟩ = some (.slice A0_0 l0_0.length c0_0) ∧ w'.cell? (ad172.add (x7_3).toNat) = some (.bool true) ∧ w'.cell? (ad172.add (x7_3).toNat) = some (.bool (true))) (ds := []) (fl_ 26 0) (by kernel_rfl) rfl (fl_zero _) ⟨(blk_cell BK148.out 0).trans rfl, hx172_0, hx173_0⟩ (fun hHeld => ?_); refine with_tabW spec_DomOk.tab16 spec_DomOk.bits16 (fun HT_ HW_ => ?_)
             generalize wr.drew = w64 at HO_5 BK148 HB hx172_0 hx173_0 hHeld ⊢
             iterate 3 refine zp_ HT_ rfl rfl (by kernel_rfl) (fun _ _ _ h => h) (by rfl) ?_
             refine zt_ HT_ HW_ rfl rfl (by kernel_rfl) (fun _ _ _ h => h) (by rfl) hHeld ?_ z217_
             iterate 2 refine zp_ HT_ rfl rfl (by kernel_rfl) (fun _ _ _ h => h) (by rfl) ?_
             iterate 7 refine zu_ HT_ rfl rfl (by kernel_rfl) (fun _ _ _ h => h) (by rfl) ?_
             iterate 5 refine zp_ HT_ rfl rfl (by kernel_rfl) (fun _ _ _ h => h) (by rfl) ?_
             refine zt_ HT_ HW_ rfl rfl (by kernel_rfl) (fun _ _ _ h => h) (by rfl) hHeld ?_ z217_
             refine zp_ HT_ rfl rfl (by kernel_rfl) (fun _ _ _ h => h) (by rfl) ?_
             refine zpg_ (i := 21) (ra_ [20, 1, 1, 4]) HT_ rfl rfl (by kernel_rfl) (fun _ _ _ h => h) (by rfl) ?_
             refine ztg_ (i := 20) (fl_ 26 22) HT_ HW_ rfl rfl (by kernel_rfl) (fun _ _ _ h => h) (by rfl) hHeld ?_ z217_
             refine one_ (i := 22) (N := some 130) (fl_ 26 23) rfl rfl (one_of HT_.out (by kernel_rfl)) (by decide) (fun K hK => ?_)
             refine goes_ Try.func63 (by kernel_rfl) rfl #[.agg #[.slice A0_0 l0_0.length c0_0], .int .i64 x7_3] (by rfl) rfl rfl z1_ ?_
             with_reducible refine (spec_l16Links.calls k3 _ _ l0_0 x7_3 false _ ?side1 ?side2 A57.out).mono ?_
             (case side1 => exact z10_)
             (case side2 => exact HC0_0.out)
             rintro e w66 ⟨rfl, hb⟩
             have HS1_ := (hb.cell (World.block_lt_of_cell? _ _ (hHeld.2.1))).trans (hHeld.2.1)
             have HS2_ := (hb.cell (World.block_lt_of_cell? _ _ (hHeld.2.2))).trans (hHeld.2.2)
             refine ⟨_, rfl, ?_⟩
             have n0_ := Aside0.mk (Kd.R_below z66_ hb)
             have n1_ := Aside0.mk (blk_below (g := gb148) (o := .cells #[.slice A0_0 l0_0.length c0_0] 28 (0, 0)) z42_ hb)
             have n2_ := Aside0.mk (below_step z13_ hb)
             clear HO_5
             clear BK148
             clear HB
             have HO_5 := n0_
             have BK148 := n1_
             have HB := n2_
             clear n0_ n1_ n2_
             (try clear hb)
             (try clear hb2)
             (try clear hk)
             (try clear hi)
             refine hK.out _ _ ⟨(blk_cell BK148.out 0).trans rfl, HS1_, HS2_⟩ (fun hHeld => ?_)
             clear hK K
             refine zn_ rfl ?_
             iterate 3 refine zp_ HT_ rfl rfl (by kernel_rfl) (fun _ _ _ h => h) (by rfl) ?_
             refine done_ (done_of HT_.out (by kernel_rfl)) ?_
             try go_wp2
             go_ret
             exact ⟨z4_, z13_⟩
           ·replace c56 := Bool.eq_false_iff.mpr c56
            subst c56
            replace H := iff_ H
            replace H := Option.bind_eq_some_iff.mp H
            obtain ⟨⟨t176, t177, t178, t179, t180, t181, t182⟩, A670, H⟩ := H
            replace H : (if (!(((rd_T72 l0_0 x7_3).f0) == t176) || (!(((rd_T72 l0_0 x7_3).f1) == t177) || (!(((rd_T72 l0_0 x7_3).f2) == t178) || (!(((rd_T72 l0_0 x7_3).f3) == t179) || (!(((rd_T72 l0_0 x7_3).f4) == t180) || (!(((rd_T72 l0_0 x7_3).f5) == t181) || (!(((rd_T72 l0_0 x7_3).f6) == t182)))))))) = true then (some false) else (spec_DomOk.l1 k3 x5_2 (wrap64 (x7_3 + 1)) l0_0)) = some r := H
            have A67 := Aside0.mk A670
            clear A670
            by_cases c68 : (!(((rd_T72 l0_0 x7_3).f0) == t176) || (!(((rd_T72 l0_0 x7_3).f1) == t177) || (!(((rd_T72 l0_0 x7_3).f2) == t178) || (!(((rd_T72 l0_0 x7_3).f3) == t179) || (!(((rd_T72 l0_0 x7_3).f4) == t180) || (!(((rd_T72 l0_0 x7_3).f5) == t181) || (!(((rd_T72 l0_0 x7_3).f6) == t182)))))))) = true
            ·rw [if_pos c68] at H
             have c68b0 : (!(((rd_T72 l0_0 x7_3).f0) == t176) || (!(((rd_T72 l0_0 x7_3).f1) == t177) || (!(((rd_T72 l0_0 x7_3).f2) == t178) || (!(((rd_T72 l0_0 x7_3).f3) == t179) || (!(((rd_T72 l0_0 x7_3).f4) == t180) || (!(((rd_T72 l0_0 x7_3).f5) == t181) || (!(((rd_T72 l0_0 x7_3).f6) == t182)))))))) = true := c68
             clear c68
             obtain rfl := Option.some.inj H
             have hcz69_0 : wr.cell? ⟨gb148, 0, none⟩ = some (.slice A0_0 l0_0.length c0_0) := (blk_cell BK148.out 0).trans rfl
             have hfz69_0 := blk_frozen BK148.out 0
             try go_wp2
             have n0_ := Aside0.mk (Kd.R_drew HO_5.out)
             have n1_ := Aside0.mk (blk_drew BK148.out)
             have n2_ := Aside0.mk (below_drew1 HB.out)
             clear HO_5
             clear BK148
             clear HB
             have HO_5 := n0_
             have BK148 := n1_
             have HB := n2_
             clear n0_ n1_ n2_
             obtain ⟨Ao71, co71, eo71⟩ := Kd.R_slice HO_5.out
             (first | subst eo71 | (injection eo71 with f1_ f2_ f3_; have f4_ := f1_.symm; have f5_ := f3_.symm; clear f1_ f2_ f3_; subst f4_; subst f5_))
             have p172 : 0 ≤ (x7_3 : Int) := odt_
             have q172 : x7_3 < (x5_2.length : Int) := odt_
             obtain ⟨ad172, e172, hx172_0⟩ := Kd.at_bool (Kd.R_reads' HO_5.out).2.2 x7_3 p172 q172
             (try rw [← Nbq55.out] at hx172_0)
             (try rw [← Nbq55.out] at hw172_0)
             cases e172
             replace p172 := eq_true p172
             replace q172 := eq_true q172
             have p175 : 0 ≤ (x7_3 : Int) := odt_
             have q175 : x7_3 < (l0_0.length : Int) := odt_
             obtain ⟨ad175, e175, hx175_0, hx175_1, hx175_2, hx175_3, hx175_4, hx175_5, hx175_6⟩ := at_T72 HR0_0.out x7_3 p175 q175
             have hw175_6 := hx175_6
             have hw175_5 := hx175_5
             have hw175_4 := hx175_4
             have hw175_3 := hx175_3
             have hw175_2 := hx175_2
             have hw175_1 := hx175_1
             have hw175_0 := hx175_0
             (try rw [← Nbq55.out] at hx175_0)
             (try rw [← Nbq55.out] at hw175_0)
             cases e175
             replace hx175_0 := (HB.out.cell (World.block_lt_of_cell? w _ hx175_0)).trans hx175_0
             replace hx175_1 := (HB.out.cell (World.block_lt_of_cell? w _ hx175_1)).trans hx175_1
             replace hx175_2 := (HB.out.cell (World.block_lt_of_cell? w _ hx175_2)).trans hx175_2
             replace hx175_3 := (HB.out.cell (World.block_lt_of_cell? w _ hx175_3)).trans hx175_3
             replace hx175_4 := (HB.out.cell (World.block_lt_of_cell? w _ hx175_4)).trans hx175_4
             replace hx175_5 := (HB.out.cell (World.block_lt_of_cell? w _ hx175_5)).trans hx175_5
             replace hx175_6 := (HB.out.cell (World.block_lt_of_cell? w _ hx175_6)).trans hx175_6
             replace p175 := eq_true p175
             replace q175 := eq_true q175
             refine start_ (n := 26) (S := fun w' => w'.cell? ⟨gb148, 0, none⟩ = some (.slice (some ad175) l0_0.length c0_0) ∧ w'.cell? (ad172.add (x7_3).toNat) = some (.bool false) ∧ w'.cell? (ad175.add ((x7_3).toNat * 7)) = some (.bool ((rd_T72 l0_0 x7_3).f0)) ∧ w'.cell? ⟨(ad175.add ((x7_3).toNat * 7)).block, (ad175.add ((x7_3).toNat * 7)).off + 1, none⟩ = some (.int .i64 ((rd_T72 l0_0 x7_3).f1)) ∧ w'.cell? ⟨(ad175.add ((x7_3).toNat * 7)).block, (ad175.add ((x7_3).toNat * 7)).off + 2, none⟩ = some (.int .i64 ((rd_T72 l0_0 x7_3).f2)) ∧ w'.cell? ⟨(ad175.add ((x7_3).toNat * 7)).block, (ad175.add ((x7_3).toNat * 7)).off + 3, none⟩ = some (.int .i64 ((rd_T72 l0_0 x7_3).f3)) ∧ w'.cell? ⟨(ad175.add ((x7_3).toNat * 7)).block, (ad175.add ((x7_3).toNat * 7)).off + 4, none⟩ = some (.int .i64 ((rd_T72 l0_0 x7_3).f4)) ∧ w'.cell? ⟨(ad175.add ((x7_3).toNat * 7)).block, (ad175.add ((x7_3).toNat * 7)).off + 5, none⟩ = some (.int .i64 ((rd_T72 l0_0 x7_3).f5)) ∧ w'.cell? ⟨(ad175.add ((x7_3).toNat * 7)).block, (ad175.add ((x7_3).toNat * 7)).off + 6, none⟩ = some (.int .i64 ((rd_T72 l0_0 x7_3).f6))) (ds := []) (fl_ 26 0) (by kernel_rfl) rfl (fl_zero _) ⟨(blk_cell BK148.out 0).trans rfl, hx172_0, ((HB.out.cell (World.block_lt_of_cell? w _ hw175_0)).trans hw175_0), ((HB.out.cell (World.block_lt_of_cell? w _ hw175_1)).trans hw175_1), ((HB.out.cell (World.block_lt_of_cell? w _ hw175_2)).trans hw175_2), ((HB.out.cell (World.block_lt_of_cell? w _ hw175_3)).trans hw175_3), ((HB.out.cell (World.block_lt_of_cell? w _ hw175_4)).trans hw175_4), ((HB.out.cell (World.block_lt_of_cell? w _ hw175_5)).trans hw175_5), ((HB.out.cell (World.block_lt_of_cell? w _ hw175_6)).trans hw175_6)⟩ (fun hHeld => ?_); refine with_tabW spec_DomOk.tab16 spec_DomOk.bits16 (fun HT_ HW_ => ?_)
             generalize wr.drew = w70 at HO_5 BK148 HB hx172_0 hx175_0 hx175_1 hx175_2 hx175_3 hx175_4 hx175_5 hx175_6 hHeld ⊢
             iterate 3 refine zp_ HT_ rfl rfl (by kernel_rfl) (fun _ _ _ h => h) (by rfl) ?_
             refine zt_ HT_ HW_ rfl rfl (by kernel_rfl) (fun _ _ _ h => h) (by rfl) hHeld ?_ z113_
             iterate 3 refine zp_ HT_ rfl rfl (by kernel_rfl) (fun _ _ _ h => h) (by rfl) ?_
             refine zpg_ (i := 8) (ra_ [7, 1, 1, 17]) HT_ rfl rfl (by kernel_rfl) (fun _ _ _ h => h) (by rfl) ?_
             refine ztg_ (i := 7) (fl_ 26 9) HT_ HW_ rfl rfl (by kernel_rfl) (fun _ _ _ h => h) (by rfl) hHeld ?_ z113_
             refine zp_ HT_ rfl rfl (by kernel_rfl) (fun _ _ _ h => h) (by rfl) ?_
             refine zt_ HT_ HW_ rfl rfl (by kernel_rfl) (fun _ _ _ h => h) (by rfl) hHeld ?_ z113_
             refine one_ (i := 11) (N := some 119) (fl_ 26 12) rfl rfl (one_of HT_.out (by kernel_rfl)) (by decide) (fun K hK => ?_)
             refine goes_ Try.func62 (by kernel_rfl) rfl #[] (by rfl) rfl rfl z1_ ?_
             with_reducible refine (spec_l16Empty.calls  t176 t177 t178 t179 t180 t181 t182 _ A67.out).mono ?_
             rintro e w72 ⟨rfl, hb⟩
             have HS1_ := (hb.cell (World.block_lt_of_cell? _ _ (hHeld.2.1))).trans (hHeld.2.1)
             refine ⟨_, rfl, ?_⟩
             have n0_ := Aside0.mk (Kd.R_below z66_ hb)
             have n1_ := Aside0.mk (blk_below (g := gb148) (o := .cells #[.slice (some ad175) l0_0.length c0_0] 28 (0, 0)) z42_ hb)
             have n2_ := Aside0.mk (below_step z13_ hb)
             clear HO_5
             clear BK148
             clear HB
             have HO_5 := n0_
             have BK148 := n1_
             have HB := n2_
             clear n0_ n1_ n2_
             (try clear hb)
             (try clear hb2)
             (try clear hk)
             (try clear hi)
             refine hK.out _ _ ⟨(blk_cell BK148.out 0).trans rfl, HS1_, ((HB.out.cell (World.block_lt_of_cell? w _ hw175_0)).trans hw175_0), ((HB.out.cell (World.block_lt_of_cell? w _ hw175_1)).trans hw175_1), ((HB.out.cell (World.block_lt_of_cell? w _ hw175_2)).trans hw175_2), ((HB.out.cell (World.block_lt_of_cell? w _ hw175_3)).trans hw175_3), ((HB.out.cell (World.block_lt_of_cell? w _ hw175_4)).trans hw175_4), ((HB.out.cell (World.block_lt_of_cell? w _ hw175_5)).trans hw175_5), ((HB.out.cell (World.block_lt_of_cell? w _ hw175_6)).trans hw175_6)⟩ (fun hHeld => ?_)
             clear hK K
             refine zn_ rfl ?_
             iterate 3 refine zp_ HT_ rfl rfl (by kernel_rfl) (fun _ _ _ h => h) (by rfl) ?_
             iterate 10 refine zu_ HT_ rfl rfl (by kernel_rfl) (fun _ _ _ h => h) (by rfl) ?_
             refine zp_ HT_ rfl rfl (by kernel_rfl) (fun _ _ _ h => h) (by rfl) ?_
             refine done_ (done_of HT_.out (by kernel_rfl)) ?_
             try go_wp2
             go_ret
             exact ⟨z4_, z13_⟩
            ·rw [if_neg c68] at H
             have c68b0 : (!(((rd_T72 l0_0 x7_3).f0) == t176) || (!(((rd_T72 l0_0 x7_3).f1) == t177) || (!(((rd_T72 l0_0 x7_3).f2) == t178) || (!(((rd_T72 l0_0 x7_3).f3) == t179) || (!(((rd_T72 l0_0 x7_3).f4) == t180) || (!(((rd_T72 l0_0 x7_3).f5) == t181) || (!(((rd_T72 l0_0 x7_3).f6) == t182)))))))) = false := by simpa using c68
             clear c68
             have H' := Aside0.mk H
             clear H
             have hcz73_0 : wr.cell? ⟨gb148, 0, none⟩ = some (.slice A0_0 l0_0.length c0_0) := (blk_cell BK148.out 0).trans rfl
             have hfz73_0 := blk_frozen BK148.out 0
             try go_wp2
             have n0_ := Aside0.mk (Kd.R_drew HO_5.out)
             have n1_ := Aside0.mk (blk_drew BK148.out)
             have n2_ := Aside0.mk (below_drew1 HB.out)
             clear HO_5
             clear BK148
             clear HB
             have HO_5 := n0_
             have BK148 := n1_
             have HB := n2_
             clear n0_ n1_ n2_
             obtain ⟨Ao75, co75, eo75⟩ := Kd.R_slice HO_5.out
             (first | subst eo75 | (injection eo75 with f1_ f2_ f3_; have f4_ := f1_.symm; have f5_ := f3_.symm; clear f1_ f2_ f3_; subst f4_; subst f5_))
             have p172 : 0 ≤ (x7_3 : Int) := odt_
             have q172 : x7_3 < (x5_2.length : Int) := odt_
             obtain ⟨ad172, e172, hx172_0⟩ := Kd.at_bool (Kd.R_reads' HO_5.out).2.2 x7_3 p172 q172
             (try rw [← Nbq55.out] at hx172_0)
             (try rw [← Nbq55.out] at hw172_0)
             cases e172
             replace p172 := eq_true p172
             replace q172 := eq_true q172
             have p175 : 0 ≤ (x7_3 : Int) := odt_
             have q175 : x7_3 < (l0_0.length : Int) := odt_
             obtain ⟨ad175, e175, hx175_0, hx175_1, hx175_2, hx175_3, hx175_4, hx175_5, hx175_6⟩ := at_T72 HR0_0.out x7_3 p175 q175
             have hw175_6 := hx175_6
             have hw175_5 := hx175_5
             have hw175_4 := hx175_4
             have hw175_3 := hx175_3
             have hw175_2 := hx175_2
             have hw175_1 := hx175_1
             have hw175_0 := hx175_0
             (try rw [← Nbq55.out] at hx175_0)
             (try rw [← Nbq55.out] at hw175_0)
             cases e175
             replace hx175_0 := (HB.out.cell (World.block_lt_of_cell? w _ hx175_0)).trans hx175_0
             replace hx175_1 := (HB.out.cell (World.block_lt_of_cell? w _ hx175_1)).trans hx175_1
             replace hx175_2 := (HB.out.cell (World.block_lt_of_cell? w _ hx175_2)).trans hx175_2
             replace hx175_3 := (HB.out.cell (World.block_lt_of_cell? w _ hx175_3)).trans hx175_3
             replace hx175_4 := (HB.out.cell (World.block_lt_of_cell? w _ hx175_4)).trans hx175_4
             replace hx175_5 := (HB.out.cell (World.block_lt_of_cell? w _ hx175_5)).trans hx175_5
             replace hx175_6 := (HB.out.cell (World.block_lt_of_cell? w _ hx175_6)).trans hx175_6
             replace p175 := eq_true p175
             replace q175 := eq_true q175
             have p183 : 0 ≤ (x7_3 : Int) := odt_
             have q183 : x7_3 < (x5_2.length : Int) := odt_
             obtain ⟨ad183, e183, hx183_0⟩ := Kd.at_bool (Kd.R_reads' HO_5.out).2.2 x7_3 p183 q183
             (try rw [← Nbq55.out] at hx183_0)
             (try rw [← Nbq55.out] at hw183_0)
             obtain rfl : ad172 = ad183 := (by injection e183)
             replace p183 := eq_true p183
             replace q183 := eq_true q183
             refine start_ (n := 26) (S := fun w' => w'.cell? ⟨gb148, 0, none⟩ = some (.slice (some ad175) l0_0.length c0_0) ∧ w'.cell? (ad172.add (x7_3).toNat) = some (.bool false) ∧ w'.cell? (ad175.add ((x7_3).toNat * 7)) = some (.bool ((rd_T72 l0_0 x7_3).f0)) ∧ w'.cell? ⟨(ad175.add ((x7_3).toNat * 7)).block, (ad175.add ((x7_3).toNat * 7)).off + 1, none⟩ = some (.int .i64 ((rd_T72 l0_0 x7_3).f1)) ∧ w'.cell? ⟨(ad175.add ((x7_3).toNat * 7)).block, (ad175.add ((x7_3).toNat * 7)).off + 2, none⟩ = some (.int .i64 ((rd_T72 l0_0 x7_3).f2)) ∧ w'.cell? ⟨(ad175.add ((x7_3).toNat * 7)).block, (ad175.add ((x7_3).toNat * 7)).off + 3, none⟩ = some (.int .i64 ((rd_T72 l0_0 x7_3).f3)) ∧ w'.cell? ⟨(ad175.add ((x7_3).toNat * 7)).block, (ad175.add ((x7_3).toNat * 7)).off + 4, none⟩ = some (.int .i64 ((rd_T72 l0_0 x7_3).f4)) ∧ w'.cell? ⟨(ad175.add ((x7_3).toNat * 7)).block, (ad175.add ((x7_3).toNat * 7)).off + 5, none⟩ = some (.int .i64 ((rd_T72 l0_0 x7_3).f5)) ∧ w'.cell? ⟨(ad175.add ((x7_3).toNat * 7)).block, (ad175.add ((x7_3).toNat * 7)).off + 6, none⟩ = some (.int .i64 ((rd_T72 l0_0 x7_3).f6)) ∧ w'.cell? (ad172.add (x7_3).toNat) = some (.bool (false))) (ds := []) (fl_ 26 0) (by kernel_rfl) rfl (fl_zero _) ⟨(blk_cell BK148.out 0).trans rfl, hx172_0, ((HB.out.cell (World.block_lt_of_cell? w _ hw175_0)).trans hw175_0), ((HB.out.cell (World.block_lt_of_cell? w _ hw175_1)).trans hw175_1), ((HB.out.cell (World.block_lt_of_cell? w _ hw175_2)).trans hw175_2), ((HB.out.cell (World.block_lt_of_cell? w _ hw175_3)).trans hw175_3), ((HB.out.cell (World.block_lt_of_cell? w _ hw175_4)).trans hw175_4), ((HB.out.cell (World.block_lt_of_cell? w _ hw175_5)).trans hw175_5), ((HB.out.cell (World.block_lt_of_cell? w _ hw175_6)).trans hw175_6), hx183_0⟩ (fun hHeld => ?_); refine with_tabW spec_DomOk.tab16 spec_DomOk.bits16 (fun HT_ HW_ => ?_)
             generalize wr.drew = w74 at HO_5 BK148 HB hx172_0 hx175_0 hx175_1 hx175_2 hx175_3 hx175_4 hx175_5 hx175_6 hx183_0 hHeld ⊢
             iterate 3 refine zp_ HT_ rfl rfl (by kernel_rfl) (fun _ _ _ h => h) (by rfl) ?_
             refine zt_ HT_ HW_ rfl rfl (by kernel_rfl) (fun _ _ _ h => h) (by rfl) hHeld ?_ z208_
             iterate 3 refine zp_ HT_ rfl rfl (by kernel_rfl) (fun _ _ _ h => h) (by rfl) ?_
             refine zpg_ (i := 8) (ra_ [7, 1, 1, 17]) HT_ rfl rfl (by kernel_rfl) (fun _ _ _ h => h) (by rfl) ?_
             refine ztg_ (i := 7) (fl_ 26 9) HT_ HW_ rfl rfl (by kernel_rfl) (fun _ _ _ h => h) (by rfl) hHeld ?_ z208_
             refine zp_ HT_ rfl rfl (by kernel_rfl) (fun _ _ _ h => h) (by rfl) ?_
             refine zt_ HT_ HW_ rfl rfl (by kernel_rfl) (fun _ _ _ h => h) (by rfl) hHeld ?_ z208_
             refine one_ (i := 11) (N := some 119) (fl_ 26 12) rfl rfl (one_of HT_.out (by kernel_rfl)) (by decide) (fun K hK => ?_)
             refine goes_ Try.func62 (by kernel_rfl) rfl #[] (by rfl) rfl rfl z1_ ?_
             with_reducible refine (spec_l16Empty.calls  t176 t177 t178 t179 t180 t181 t182 _ A67.out).mono ?_
             rintro e w76 ⟨rfl, hb⟩
             have HS1_ := (hb.cell (World.block_lt_of_cell? _ _ (hHeld.2.1))).trans (hHeld.2.1)
             have HS9_ := (hb.cell (World.block_lt_of_cell? _ _ (hHeld.2.2.2.2.2.2.2.2.2))).trans (hHeld.2.2.2.2.2.2.2.2.2)
             refine ⟨_, rfl, ?_⟩
             have n0_ := Aside0.mk (Kd.R_below z66_ hb)
             have n1_ := Aside0.mk (blk_below (g := gb148) (o := .cells #[.slice (some ad175) l0_0.length c0_0] 28 (0, 0)) z42_ hb)
             have n2_ := Aside0.mk (below_step z13_ hb)
             clear HO_5
             clear BK148
             clear HB
             have HO_5 := n0_
             have BK148 := n1_
             have HB := n2_
             clear n0_ n1_ n2_
             (try clear hb)
             (try clear hb2)
             (try clear hk)
             (try clear hi)
             refine hK.out _ _ ⟨(blk_cell BK148.out 0).trans rfl, HS1_, ((HB.out.cell (World.block_lt_of_cell? w _ hw175_0)).trans hw175_0), ((HB.out.cell (World.block_lt_of_cell? w _ hw175_1)).trans hw175_1), ((HB.out.cell (World.block_lt_of_cell? w _ hw175_2)).trans hw175_2), ((HB.out.cell (World.block_lt_of_cell? w _ hw175_3)).trans hw175_3), ((HB.out.cell (World.block_lt_of_cell? w _ hw175_4)).trans hw175_4), ((HB.out.cell (World.block_lt_of_cell? w _ hw175_5)).trans hw175_5), ((HB.out.cell (World.block_lt_of_cell? w _ hw175_6)).trans hw175_6), HS9_⟩ (fun hHeld => ?_)
             clear hK K
             refine zn_ rfl ?_
             iterate 6 refine zp_ HT_ rfl rfl (by kernel_rfl) (fun _ _ _ h => h) (by rfl) ?_
             refine zt_ HT_ HW_ rfl rfl (by kernel_rfl) (fun _ _ _ h => h) (by rfl) hHeld ?_ z208_
             refine zp_ HT_ rfl rfl (by kernel_rfl) (fun _ _ _ h => h) (by rfl) ?_
             iterate 4 refine zu_ HT_ rfl rfl (by kernel_rfl) (fun _ _ _ h => h) (by rfl) ?_
             iterate 2 refine zp_ HT_ rfl rfl (by kernel_rfl) (fun _ _ _ h => h) (by rfl) ?_
             refine done_ (done_of HT_.out (by kernel_rfl)) ?_
             try go_wp2
             go_roundg k3
             case measure => have := HJ1.out; have := HK2.out; have := HK3.out; omega
             case rel => exact ⟨(wrap64 (x7_3 + 1)), z12_, H', ⟨by have := HJ1.out; have := HK2.out; have := HK3.out; omega⟩, ⟨z66_⟩, ⟨z42_⟩, ⟨z13_⟩⟩
          ·rw [if_neg c52] at H
           have c52b0 : decide (x7_3 < (l0_0.length : Int)) = false := decide_eq_false c52
           clear c52
           obtain rfl := Option.some.inj H
           have hcz77_0 : wr.cell? ⟨gb148, 0, none⟩ = some (.slice A0_0 l0_0.length c0_0) := (blk_cell BK148.out 0).trans rfl
           have hfz77_0 := blk_frozen BK148.out 0
           go_wp2
           go_ret
           exact ⟨z4_, z13_⟩

end Go.Proofs.Ytdapeboajjidmab.PFnExactDomDelete
