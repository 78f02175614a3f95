/- Laid by a program of this session out of the kit's print for the law FnExactDomInsert: what it says of the machine is proved here, function by function; each contract under the conditions that it names. -/
import Derived.Test.YtdapeboajjidmabMFnExactDomInsertx0
import Derived.Test.YtdapeboajjidmabMFnExactDomInsertx1
import Derived.Test.YtdapeboajjidmabMFnExactDomInsertx3
import Derived.Test.YtdapeboajjidmabMFnExactDomInsertx4
import Derived.Test.YtdapeboajjidmabMFnExactDomInsertx5
namespace Go.Proofs.Ytdapeboajjidmab.PFnExactDomInsert
open Go.RowKit Go.Proofs.YtdapeboajjidmabW.PrintWords Go.Proofs.YtdapeboajjidmabW.PrintLast Go.Proofs.YtdapeboajjidmabW.PrintMore
attribute [local go_sem] max2_int min2_int max_two min_two max_three min_three max_four min_four   -- for this text's walks alone
set_option linter.unusedVariables false
set_option linter.unusedSimpArgs false

attribute [local go_sem high] eqA72
/-! ### spec_DomOk: function 15 -/
mutual
def spec_DomOk.j0 : Nat → Bool → List (S72) → Option (Bool)
 | 0, _, _ => none
 | k + 1, x44, x189000 => if x44 = true then (some false) else ((spec_l16Walk.f k x189000 0 0 ([] : List Int) ([] : List Int)).bind fun bt194 => (if (bt194.1.length : Int) > 24 then (some false) else (if 0 ≤ (x189000.length : Int) then (if ((x189000.length : Int) : Int).toNat ≤ 281474976710656 then (spec_DomOk.l0 k bt194.1 (List.replicate ((x189000.length : Int) : Int).toNat false) 0 x189000) else (none)) else (none))))
def spec_DomOk.l0 : Nat → List Int → List Bool → Int → List (S72) → Option (Bool)
 | 0, _, _, _, _ => none
 | k + 1, x3, x5, x6, x189000 => if x6 < (x3.length : Int) then (if 0 ≤ x6 then (if 0 ≤ (rd x3 x6) then (if (rd x3 x6) < (x5.length : Int) then (if rdOf false x5 (rd x3 x6) = true then (some false) else (if (rd x3 x6) < (x189000.length : Int) then (if ((rd_T72 x189000 (rd x3 x6)).f0 = true) then ((spec_LabelOk.f ((rd_T72 x189000 (rd x3 x6)).f1)).bind fun t209 => (if t209 = true then (spec_DomOk.l0 k x3 (x5.set ((rd x3 x6) : Int).toNat true) (wrap64 (x6 + 1)) x189000) else (some false))) else (some false)) else (none))) else (none)) else (none)) else (none)) else (spec_DomOk.l1 k x5 0 x189000)
def spec_DomOk.l1 : Nat → List Bool → Int → List (S72) → Option (Bool)
 | 0, _, _, _ => none
 | k + 1, x5, x7, x189000 => if x7 < (x189000.length : Int) then (if 0 ≤ x7 then (if x7 < (x5.length : Int) then (if rdOf false x5 x7 = true then ((spec_l16Links.f k x189000 x7).bind fun t214 => (if t214 = true then (spec_DomOk.l1 k x5 (wrap64 (x7 + 1)) x189000) else (some false))) else ((spec_l16Empty.f).bind fun bt216 => (if (!(((rd_T72 x189000 x7).f0) == bt216.1) || (!(((rd_T72 x189000 x7).f1) == bt216.2.1) || (!(((rd_T72 x189000 x7).f2) == bt216.2.2.1) || (!(((rd_T72 x189000 x7).f3) == bt216.2.2.2.1) || (!(((rd_T72 x189000 x7).f4) == bt216.2.2.2.2.1) || (!(((rd_T72 x189000 x7).f5) == bt216.2.2.2.2.2.1) || (!(((rd_T72 x189000 x7).f6) == bt216.2.2.2.2.2.2)))))))) = true then (some false) else (spec_DomOk.l1 k x5 (wrap64 (x7 + 1)) x189000)))) else (none)) else (none)) else (some true)
end
def spec_DomOk.f (k : Nat) (l0_0 : List (S72)) : Option (Bool) := (spec_l1In.f (l0_0.length : Int) 1 24).bind fun t189 => (if t189 = true then (if 0 < (l0_0.length : Int) then (if ((rd_T72 l0_0 0).f0 = true) then (if ((rd_T72 l0_0 0).f2) = (-1) then (if ((rd_T72 l0_0 0).f5) = (-1) then (spec_DomOk.j0 k (((rd_T72 l0_0 0).f6) != (-1)) l0_0) else (spec_DomOk.j0 k true l0_0)) else (spec_DomOk.j0 k true l0_0)) else (spec_DomOk.j0 k true l0_0)) else (none)) else (spec_DomOk.j0 k true l0_0))
def spec_DomOk.T10 : Bool × List (List Nat × List Nat) := (true, [([], []), ([], []), ([], []), ([1, 2], [1, 2]), ([3], [3]), ([0, 4], [0, 4]), ([5], [5]), ([6], [6]), ([7], [7]), ([8, 7], [7, 8]), ([7], [7]), ([7], [7]), ([10, 11, 7], [7, 10, 11]), ([12, 7], [7, 12]), ([9, 13, 7], [7, 9, 13]), ([14, 7], [7, 14]), ([15, 7], [7, 15]), ([16, 7], [7, 16]), ([7, 17], [7, 17]), ([18, 7], [18]), ([19], [19]), ([20, 19], [19, 20]), ([19], [19]), ([19], [19]), ([22, 23, 19], [19, 22, 23]), ([24, 19], [19, 24]), ([21, 25, 19], [19, 21, 25]), ([26, 19], [19, 26]), ([27, 19], [19, 27]), ([28, 19, 19], [19, 28]), ([29, 19], [19, 29]), ([19, 30], [19, 30])])
def spec_DomOk.B10 : List Nat := [0, 0, 0, 6, 14, 31, 63, 127, 255, 511, 255, 255, 3327, 7423, 16383, 32767, 65535, 131071, 262143, 524287, 1048575, 2097151, 1048575, 1048575, 13631487, 30408703, 67108863, 134217727, 268435455, 536870911, 1073741823, 2147483647]
theorem spec_DomOk.tab10 : rtab .any (opsOf Try.f15 10) = spec_DomOk.T10 := by kernel_rfl
theorem spec_DomOk.bits10 : waitsOk spec_DomOk.T10.2 spec_DomOk.B10 = true := by kernel_rfl
def spec_DomOk.T16 : Bool × List (List Nat × List Nat) := (true, [([], []), ([], []), ([0, 1], [0, 1]), ([2], [2]), ([3], [3]), ([4], [4]), ([5], [5]), ([6, 5], [5, 6]), ([5], [5]), ([7, 8, 5], [5, 7, 8]), ([9, 5], [5, 9]), ([5, 5], [5]), ([10, 11, 5], [5, 10, 11]), ([5, 12], [5, 12]), ([13, 11], [13]), ([14], [14]), ([14], [14]), ([15, 16, 14], [14, 15, 16]), ([17, 14], [14, 17]), ([18, 14, 14], [14, 18]), ([19], [19]), ([19], [19]), ([20, 21, 19, 19], [19, 20, 21]), ([22, 19], [19, 22]), ([19, 23, 14], [14, 19, 23]), ([14, 24], [14, 24])])
def spec_DomOk.B16 : List Nat := [0, 0, 3, 7, 15, 31, 63, 127, 63, 511, 1023, 63, 4095, 8191, 16383, 32767, 32767, 131071, 262143, 524287, 1048575, 1048575, 4194303, 8388607, 16777215, 33554431]
theorem spec_DomOk.tab16 : rtab .any (opsOf Try.f15 16) = spec_DomOk.T16 := by kernel_rfl
theorem spec_DomOk.bits16 : waitsOk spec_DomOk.T16.2 spec_DomOk.B16 = true := by kernel_rfl
set_option maxHeartbeats 8000000 in
set_option maxRecDepth 100000 in
theorem spec_DomOk.calls (k : Nat) (A0_0 : Option Addr) (c0_0 : Nat) (l0_0 : List (S72)) (r : Bool) (w : World) (hr0_0 : Kd.C k72 w A0_0 l0_0.length l0_0) (hc0_0 : l0_0.length ≤ c0_0) (h : spec_DomOk.f k l0_0 = some r) :
  Calls Try.prog 15 #[.agg #[.slice A0_0 l0_0.length c0_0]] w fun e w' => e = .returned (.bool r) ∧ Below w.heap.size w w' := by
 have hu28 := Try.underlying28
 have hu72 := Try.underlying72
 have HR0_0 := Aside0.mk hr0_0
 have HC0_0 := Aside0.mk hc0_0
 clear hr0_0 hc0_0
 have HB := Aside0.mk (Below.refl w.heap.size w)
 have H : ((spec_l1In.f (l0_0.length : Int) 1 24).bind fun t189 => (if t189 = true then (if 0 < (l0_0.length : Int) then (if ((rd_T72 l0_0 0).f0 = true) then (if ((rd_T72 l0_0 0).f2) = (-1) then (if ((rd_T72 l0_0 0).f5) = (-1) then (spec_DomOk.j0 k (((rd_T72 l0_0 0).f6) != (-1)) l0_0) else (spec_DomOk.j0 k true l0_0)) else (spec_DomOk.j0 k true l0_0)) else (spec_DomOk.j0 k true l0_0)) else (none)) else (spec_DomOk.j0 k true l0_0))) = some r := h
 clear h
 have HC2 := Aside0.mk H
 clear H
 go_enter Try.func15, Try.ntmps15
 go_upto_region 1 with (((with_reducible refine gate_dst (N := 1) rfl ?_); refine box_event ?hg (N := 1) ?hd (cs := #[.slice A0_0 l0_0.length c0_0]) (t := 28) ?hr ?_; (case hd => rfl); (case hg => rfl); (case hr => exact z19_); intro gb188 hg w3 hbox hb; have BK188 := Aside0.mk (hbox); have GW188 := Aside0.mk ((by rw [hg]; exact (below_size z0_) : w.heap.size ≤ gb188)); have GE188 := Aside0.mk ((by rw [hg]; exact (below_size z0_) : w.heap.size ≤ gb188)); replace HB := Aside0.mk (below_step z0_ hb); clear hb hbox hg))
 go_cut [44] (fun v44 wc => ∃ (kq : Nat) (x44_1 : Bool), v44 = .bool x44_1 ∧ Aside0 (spec_DomOk.j0 kq x44_1 l0_0 = some r) ∧ Aside0 (kq ≤ k) ∧ Aside0 (wc.heap[gb188]? = some (.cells #[(.slice A0_0 l0_0.length c0_0)] 28 (0, 0))) ∧ Aside0 (Below w.heap.size w wc))
 case first =>
  have H := HC2.out
  clear HC2
  obtain ⟨t189, A4, H⟩ := bnd_ H
  by_cases c5 : t189 = true
  ·subst c5
   replace H := ift_ H
   obtain ⟨c6, H⟩ := ifs_ H
   have c6b0 := decide_eq_true c6
   have c6b1 : decide (0 < l0_0.length) = true := decide_eq_true (by omega)
   clear c6
   obtain ⟨bq7, hbq7⟩ : ∃ b_ : Bool, b_ = ((rd_T72 l0_0 0).f0) := ⟨_, rfl⟩
   replace H : (if (bq7 = true) then (if ((rd_T72 l0_0 0).f2) = (-1) then (if ((rd_T72 l0_0 0).f5) = (-1) then (spec_DomOk.j0 k (((rd_T72 l0_0 0).f6) != (-1)) l0_0) else (spec_DomOk.j0 k true l0_0)) else (spec_DomOk.j0 k true l0_0)) else (spec_DomOk.j0 k true l0_0)) = some r := by rw [← hbq7] at H; exact H
   have Nbq7 := Aside0.mk hbq7
   clear hbq7
   by_cases c8 : (bq7 = true)
   ·subst c8
    replace H := ift_ H
    by_cases c9 : ((rd_T72 l0_0 0).f2) = (-1)
    ·rw [if_pos c9] at H
     have c9b0 : (((rd_T72 l0_0 0).f2) == (-1)) = true := beq_iff_eq.mpr c9
     have c9b1 : (((rd_T72 l0_0 0).f2) != (-1)) = false := bne_eq_false_iff_eq.mpr c9
     clear c9
     by_cases c10 : ((rd_T72 l0_0 0).f5) = (-1)
     ·rw [if_pos c10] at H
      have c10b0 : (((rd_T72 l0_0 0).f5) == (-1)) = true := beq_iff_eq.mpr c10
      have c10b1 : (((rd_T72 l0_0 0).f5) != (-1)) = false := bne_eq_false_iff_eq.mpr c10
      clear c10
      have H' := Aside0.mk H
      clear H
      have hcz11_0 : w3.cell? ⟨gb188, 0, none⟩ = some (.slice A0_0 l0_0.length c0_0) := (blk_cell BK188.out 0).trans rfl
      have hfz11_0 := blk_frozen BK188.out 0
      go_wp2_with (((with_reducible refine gate_callee (f := 58) rfl ?_); refine goesL_ (some 11) rfl rfl Try.func58 (by kernel_rfl) rfl #[.int .i64 (l0_0.length : Int), .int .i64 1, .int .i64 24] rfl z2_ ?_; (with_reducible refine (spec_l1In.calls (l0_0.length : Int) 1 24 true _ A4.out).mono ?_); rintro e w' ⟨rfl, ⟨nd, rfl⟩⟩; refine ⟨_, rfl, ?_⟩; have p190 : 0 ≤ (0 : Int) := (by omega); have q190 : 0 < (l0_0.length : Int) := odt_; obtain ⟨ad190, e190, hx190_0, hx190_1, hx190_2, hx190_3, hx190_4, hx190_5, hx190_6⟩ := at_T72 HR0_0.out 0 p190 q190; (try rw [← Nbq7.out] at hx190_0); cases e190; have qi190 : (0 < l0_0.length) = True := eq_true (by omega); (try rw [show ((0 : Int)).toNat = 0 from rfl] at hx190_0); (try rw [show 0 * 7 = 0 from rfl] at hx190_0); (try rw [Addr.add_zero'] at hx190_0); (try rw [show ((0 : Int)).toNat = 0 from rfl] at hx190_1); (try rw [show 0 * 7 = 0 from rfl] at hx190_1); (try rw [Addr.add_zero'] at hx190_1); (try rw [show ((0 : Int)).toNat = 0 from rfl] at hx190_2); (try rw [show 0 * 7 = 0 from rfl] at hx190_2); (try rw [Addr.add_zero'] at hx190_2); (try rw [show ((0 : Int)).toNat = 0 from rfl] at hx190_3); (try rw [show 0 * 7 = 0 from rfl] at hx190_3); (try rw [Addr.add_zero'] at hx190_3); (try rw [show ((0 : Int)).toNat = 0 from rfl] at hx190_4); (try rw [show 0 * 7 = 0 from rfl] at hx190_4); (try rw [Addr.add_zero'] at hx190_4); (try rw [show ((0 : Int)).toNat = 0 from rfl] at hx190_5); (try rw [show 0 * 7 = 0 from rfl] at hx190_5); (try rw [Addr.add_zero'] at hx190_5); (try rw [show ((0 : Int)).toNat = 0 from rfl] at hx190_6); (try rw [show 0 * 7 = 0 from rfl] at hx190_6); (try rw [Addr.add_zero'] at hx190_6); replace hx190_0 := (HB.out.cell (World.block_lt_of_cell? w _ hx190_0)).trans hx190_0; replace hx190_1 := (HB.out.cell (World.block_lt_of_cell? w _ hx190_1)).trans hx190_1; replace hx190_2 := (HB.out.cell (World.block_lt_of_cell? w _ hx190_2)).trans hx190_2; replace hx190_3 := (HB.out.cell (World.block_lt_of_cell? w _ hx190_3)).trans hx190_3; replace hx190_4 := (HB.out.cell (World.block_lt_of_cell? w _ hx190_4)).trans hx190_4; replace hx190_5 := (HB.out.cell (World.block_lt_of_cell? w _ hx190_5)).trans hx190_5; replace hx190_6 := (HB.out.cell (World.block_lt_of_cell? w _ hx190_6)).trans hx190_6; replace p190 := eq_true p190; replace q190 := eq_true q190; have p191 : 0 ≤ (0 : Int) := (by omega); have q191 : 0 < (l0_0.length : Int) := odt_; obtain ⟨ad191, e191, hx191_0, hx191_1, hx191_2, hx191_3, hx191_4, hx191_5, hx191_6⟩ := at_T72 HR0_0.out 0 p191 q191; (try rw [← Nbq7.out] at hx191_0); obtain rfl : ad190 = ad191 := (by injection e191); have qi191 : (0 < l0_0.length) = True := eq_true (by omega); (try rw [show ((0 : Int)).toNat = 0 from rfl] at hx191_0); (try rw [show 0 * 7 = 0 from rfl] at hx191_0); (try rw [Addr.add_zero'] at hx191_0); (try rw [show ((0 : Int)).toNat = 0 from rfl] at hx191_1); (try rw [show 0 * 7 = 0 from rfl] at hx191_1); (try rw [Addr.add_zero'] at hx191_1); (try rw [show ((0 : Int)).toNat = 0 from rfl] at hx191_2); (try rw [show 0 * 7 = 0 from rfl] at hx191_2); (try rw [Addr.add_zero'] at hx191_2); (try rw [show ((0 : Int)).toNat = 0 from rfl] at hx191_3); (try rw [show 0 * 7 = 0 from rfl] at hx191_3); (try rw [Addr.add_zero'] at hx191_3); (try rw [show ((0 : Int)).toNat = 0 from rfl] at hx191_4); (try rw [show 0 * 7 = 0 from rfl] at hx191_4); (try rw [Addr.add_zero'] at hx191_4); (try rw [show ((0 : Int)).toNat = 0 from rfl] at hx191_5); (try rw [show 0 * 7 = 0 from rfl] at hx191_5); (try rw [Addr.add_zero'] at hx191_5); (try rw [show ((0 : Int)).toNat = 0 from rfl] at hx191_6); (try rw [show 0 * 7 = 0 from rfl] at hx191_6); (try rw [Addr.add_zero'] at hx191_6); replace hx191_0 := (HB.out.cell (World.block_lt_of_cell? w _ hx191_0)).trans hx191_0; replace hx191_1 := (HB.out.cell (World.block_lt_of_cell? w _ hx191_1)).trans hx191_1; replace hx191_2 := (HB.out.cell (World.block_lt_of_cell? w _ hx191_2)).trans hx191_2; replace hx191_3 := (HB.out.cell (World.block_lt_of_cell? w _ hx191_3)).trans hx191_3; replace hx191_4 := (HB.out.cell (World.block_lt_of_cell? w _ hx191_4)).trans hx191_4; replace hx191_5 := (HB.out.cell (World.block_lt_of_cell? w _ hx191_5)).trans hx191_5; replace hx191_6 := (HB.out.cell (World.block_lt_of_cell? w _ hx191_6)).trans hx191_6; replace p191 := eq_true p191; replace q191 := eq_true q191; have p192 : 0 ≤ (0 : Int) := (by omega); have q192 : 0 < (l0_0.length : Int) := odt_; obtain ⟨ad192, e192, hx192_0, hx192_1, hx192_2, hx192_3, hx192_4, hx192_5, hx192_6⟩ := at_T72 HR0_0.out 0 p192 q192; (try rw [← Nbq7.out] at hx192_0); obtain rfl : ad190 = ad192 := (by injection e192); have qi192 : (0 < l0_0.length) = True := eq_true (by omega); (try rw [show ((0 : Int)).toNat = 0 from rfl] at hx192_0); (try rw [show 0 * 7 = 0 from rfl] at hx192_0); (try rw [Addr.add_zero'] at hx192_0); (try rw [show ((0 : Int)).toNat = 0 from rfl] at hx192_1); (try rw [show 0 * 7 = 0 from rfl] at hx192_1); (try rw [Addr.add_zero'] at hx192_1); (try rw [show ((0 : Int)).toNat = 0 from rfl] at hx192_2); (try rw [show 0 * 7 = 0 from rfl] at hx192_2); (try rw [Addr.add_zero'] at hx192_2); (try rw [show ((0 : Int)).toNat = 0 from rfl] at hx192_3); (try rw [show 0 * 7 = 0 from rfl] at hx192_3); (try rw [Addr.add_zero'] at hx192_3); (try rw [show ((0 : Int)).toNat = 0 from rfl] at hx192_4); (try rw [show 0 * 7 = 0 from rfl] at hx192_4); (try rw [Addr.add_zero'] at hx192_4); (try rw [show ((0 : Int)).toNat = 0 from rfl] at hx192_5); (try rw [show 0 * 7 = 0 from rfl] at hx192_5); (try rw [Addr.add_zero'] at hx192_5); (try rw [show ((0 : Int)).toNat = 0 from rfl] at hx192_6); (try rw [show 0 * 7 = 0 from rfl] at hx192_6); (try rw [Addr.add_zero'] at hx192_6); replace hx192_0 := (HB.out.cell (World.block_lt_of_cell? w _ hx192_0)).trans hx192_0; replace hx192_1 := (HB.out.cell (World.block_lt_of_cell? w _ hx192_1)).trans hx192_1; replace hx192_2 := (HB.out.cell (World.block_lt_of_cell? w _ hx192_2)).trans hx192_2; replace hx192_3 := (HB.out.cell (World.block_lt_of_cell? w _ hx192_3)).trans hx192_3; replace hx192_4 := (HB.out.cell (World.block_lt_of_cell? w _ hx192_4)).trans hx192_4; replace hx192_5 := (HB.out.cell (World.block_lt_of_cell? w _ hx192_5)).trans hx192_5; replace hx192_6 := (HB.out.cell (World.block_lt_of_cell? w _ hx192_6)).trans hx192_6; replace p192 := eq_true p192; replace q192 := eq_true q192; have p193 : 0 ≤ (0 : Int) := (by omega); have q193 : 0 < (l0_0.length : Int) := odt_; obtain ⟨ad193, e193, hx193_0, hx193_1, hx193_2, hx193_3, hx193_4, hx193_5, hx193_6⟩ := at_T72 HR0_0.out 0 p193 q193; (try rw [← Nbq7.out] at hx193_0); obtain rfl : ad190 = ad193 := (by injection e193); have qi193 : (0 < l0_0.length) = True := eq_true (by omega); (try rw [show ((0 : Int)).toNat = 0 from rfl] at hx193_0); (try rw [show 0 * 7 = 0 from rfl] at hx193_0); (try rw [Addr.add_zero'] at hx193_0); (try rw [show ((0 : Int)).toNat = 0 from rfl] at hx193_1); (try rw [show 0 * 7 = 0 from rfl] at hx193_1); (try rw [Addr.add_zero'] at hx193_1); (try rw [show ((0 : Int)).toNat = 0 from rfl] at hx193_2); (try rw [show 0 * 7 = 0 from rfl] at hx193_2); (try rw [Addr.add_zero'] at hx193_2); (try rw [show ((0 : Int)).toNat = 0 from rfl] at hx193_3); (try rw [show 0 * 7 = 0 from rfl] at hx193_3); (try rw [Addr.add_zero'] at hx193_3); (try rw [show ((0 : Int)).toNat = 0 from rfl] at hx193_4); (try rw [show 0 * 7 = 0 from rfl] at hx193_4); (try rw [Addr.add_zero'] at hx193_4); (try rw [show ((0 : Int)).toNat = 0 from rfl] at hx193_5); (try rw [show 0 * 7 = 0 from rfl] at hx193_5); (try rw [Addr.add_zero'] at hx193_5); (try rw [show ((0 : Int)).toNat = 0 from rfl] at hx193_6); (try rw [show 0 * 7 = 0 from rfl] at hx193_6); (try rw [Addr.add_zero'] at hx193_6); replace hx193_0 := (HB.out.cell (World.block_lt_of_cell? w _ hx193_0)).trans hx193_0; replace hx193_1 := (HB.out.cell (World.block_lt_of_cell? w _ hx193_1)).trans hx193_1; replace hx193_2 := (HB.out.cell (World.block_lt_of_cell? w _ hx193_2)).trans hx193_2; replace hx193_3 := (HB.out.cell (World.block_lt_of_cell? w _ hx193_3)).trans hx193_3; replace hx193_4 := (HB.out.cell (World.block_lt_of_cell? w _ hx193_4)).trans hx193_4; replace hx193_5 := (HB.out.cell (World.block_lt_of_cell? w _ hx193_5)).trans hx193_5; replace hx193_6 := (HB.out.cell (World.block_lt_of_cell? w _ hx193_6)).trans hx193_6; replace p193 := eq_true p193; replace q193 := eq_true q193))
      go_meet
      case rel => exact ⟨_, ((((rd_T72 l0_0 0).f6) != (-1))), z17_, H', ⟨z124_⟩, ⟨z55_⟩, ⟨z20_⟩⟩
     ·rw [if_neg c10] at H
      have c10b0 : (((rd_T72 l0_0 0).f5) == (-1)) = false := beq_eq_false_iff_ne.mpr c10
      have c10b1 : (((rd_T72 l0_0 0).f5) != (-1)) = true := bne_iff_ne.mpr c10
      have H' := Aside0.mk H
      clear H
      have hcz12_0 : w3.cell? ⟨gb188, 0, none⟩ = some (.slice A0_0 l0_0.length c0_0) := (blk_cell BK188.out 0).trans rfl
      have hfz12_0 := blk_frozen BK188.out 0
      go_wp2_with (((with_reducible refine gate_callee (f := 58) rfl ?_); refine goesL_ (some 11) rfl rfl Try.func58 (by kernel_rfl) rfl #[.int .i64 (l0_0.length : Int), .int .i64 1, .int .i64 24] rfl z2_ ?_; (with_reducible refine (spec_l1In.calls (l0_0.length : Int) 1 24 true _ A4.out).mono ?_); rintro e w' ⟨rfl, ⟨nd, rfl⟩⟩; refine ⟨_, rfl, ?_⟩; have p190 : 0 ≤ (0 : Int) := (by omega); have q190 : 0 < (l0_0.length : Int) := odt_; obtain ⟨ad190, e190, hx190_0, hx190_1, hx190_2, hx190_3, hx190_4, hx190_5, hx190_6⟩ := at_T72 HR0_0.out 0 p190 q190; (try rw [← Nbq7.out] at hx190_0); cases e190; have qi190 : (0 < l0_0.length) = True := eq_true (by omega); (try rw [show ((0 : Int)).toNat = 0 from rfl] at hx190_0); (try rw [show 0 * 7 = 0 from rfl] at hx190_0); (try rw [Addr.add_zero'] at hx190_0); (try rw [show ((0 : Int)).toNat = 0 from rfl] at hx190_1); (try rw [show 0 * 7 = 0 from rfl] at hx190_1); (try rw [Addr.add_zero'] at hx190_1); (try rw [show ((0 : Int)).toNat = 0 from rfl] at hx190_2); (try rw [show 0 * 7 = 0 from rfl] at hx190_2); (try rw [Addr.add_zero'] at hx190_2); (try rw [show ((0 : Int)).toNat = 0 from rfl] at hx190_3); (try rw [show 0 * 7 = 0 from rfl] at hx190_3); (try rw [Addr.add_zero'] at hx190_3); (try rw [show ((0 : Int)).toNat = 0 from rfl] at hx190_4); (try rw [show 0 * 7 = 0 from rfl] at hx190_4); (try rw [Addr.add_zero'] at hx190_4); (try rw [show ((0 : Int)).toNat = 0 from rfl] at hx190_5); (try rw [show 0 * 7 = 0 from rfl] at hx190_5); (try rw [Addr.add_zero'] at hx190_5); (try rw [show ((0 : Int)).toNat = 0 from rfl] at hx190_6); (try rw [show 0 * 7 = 0 from rfl] at hx190_6); (try rw [Addr.add_zero'] at hx190_6); replace hx190_0 := (HB.out.cell (World.block_lt_of_cell? w _ hx190_0)).trans hx190_0; replace hx190_1 := (HB.out.cell (World.block_lt_of_cell? w _ hx190_1)).trans hx190_1; replace hx190_2 := (HB.out.cell (World.block_lt_of_cell? w _ hx190_2)).trans hx190_2; replace hx190_3 := (HB.out.cell (World.block_lt_of_cell? w _ hx190_3)).trans hx190_3; replace hx190_4 := (HB.out.cell (World.block_lt_of_cell? w _ hx190_4)).trans hx190_4; replace hx190_5 := (HB.out.cell (World.block_lt_of_cell? w _ hx190_5)).trans hx190_5; replace hx190_6 := (HB.out.cell (World.block_lt_of_cell? w _ hx190_6)).trans hx190_6; replace p190 := eq_true p190; replace q190 := eq_true q190; have p191 : 0 ≤ (0 : Int) := (by omega); have q191 : 0 < (l0_0.length : Int) := odt_; obtain ⟨ad191, e191, hx191_0, hx191_1, hx191_2, hx191_3, hx191_4, hx191_5, hx191_6⟩ := at_T72 HR0_0.out 0 p191 q191; (try rw [← Nbq7.out] at hx191_0); obtain rfl : ad190 = ad191 := (by injection e191); have qi191 : (0 < l0_0.length) = True := eq_true (by omega); (try rw [show ((0 : Int)).toNat = 0 from rfl] at hx191_0); (try rw [show 0 * 7 = 0 from rfl] at hx191_0); (try rw [Addr.add_zero'] at hx191_0); (try rw [show ((0 : Int)).toNat = 0 from rfl] at hx191_1); (try rw [show 0 * 7 = 0 from rfl] at hx191_1); (try rw [Addr.add_zero'] at hx191_1); (try rw [show ((0 : Int)).toNat = 0 from rfl] at hx191_2); (try rw [show 0 * 7 = 0 from rfl] at hx191_2); (try rw [Addr.add_zero'] at hx191_2); (try rw [show ((0 : Int)).toNat = 0 from rfl] at hx191_3); (try rw [show 0 * 7 = 0 from rfl] at hx191_3); (try rw [Addr.add_zero'] at hx191_3); (try rw [show ((0 : Int)).toNat = 0 from rfl] at hx191_4); (try rw [show 0 * 7 = 0 from rfl] at hx191_4); (try rw [Addr.add_zero'] at hx191_4); (try rw [show ((0 : Int)).toNat = 0 from rfl] at hx191_5); (try rw [show 0 * 7 = 0 from rfl] at hx191_5); (try rw [Addr.add_zero'] at hx191_5); (try rw [show ((0 : Int)).toNat = 0 from rfl] at hx191_6); (try rw [show 0 * 7 = 0 from rfl] at hx191_6); (try rw [Addr.add_zero'] at hx191_6); replace hx191_0 := (HB.out.cell (World.block_lt_of_cell? w _ hx191_0)).trans hx191_0; replace hx191_1 := (HB.out.cell (World.block_lt_of_cell? w _ hx191_1)).trans hx191_1; replace hx191_2 := (HB.out.cell (World.block_lt_of_cell? w _ hx191_2)).trans hx191_2; replace hx191_3 := (HB.out.cell (World.block_lt_of_cell? w _ hx191_3)).trans hx191_3; replace hx191_4 := (HB.out.cell (World.block_lt_of_cell? w _ hx191_4)).trans hx191_4; replace hx191_5 := (HB.out.cell (World.block_lt_of_cell? w _ hx191_5)).trans hx191_5; replace hx191_6 := (HB.out.cell (World.block_lt_of_cell? w _ hx191_6)).trans hx191_6; replace p191 := eq_true p191; replace q191 := eq_true q191; have p192 : 0 ≤ (0 : Int) := (by omega); have q192 : 0 < (l0_0.length : Int) := odt_; obtain ⟨ad192, e192, hx192_0, hx192_1, hx192_2, hx192_3, hx192_4, hx192_5, hx192_6⟩ := at_T72 HR0_0.out 0 p192 q192; (try rw [← Nbq7.out] at hx192_0); obtain rfl : ad190 = ad192 := (by injection e192); have qi192 : (0 < l0_0.length) = True := eq_true (by omega); (try rw [show ((0 : Int)).toNat = 0 from rfl] at hx192_0); (try rw [show 0 * 7 = 0 from rfl] at hx192_0); (try rw [Addr.add_zero'] at hx192_0); (try rw [show ((0 : Int)).toNat = 0 from rfl] at hx192_1); (try rw [show 0 * 7 = 0 from rfl] at hx192_1); (try rw [Addr.add_zero'] at hx192_1); (try rw [show ((0 : Int)).toNat = 0 from rfl] at hx192_2); (try rw [show 0 * 7 = 0 from rfl] at hx192_2); (try rw [Addr.add_zero'] at hx192_2); (try rw [show ((0 : Int)).toNat = 0 from rfl] at hx192_3); (try rw [show 0 * 7 = 0 from rfl] at hx192_3); (try rw [Addr.add_zero'] at hx192_3); (try rw [show ((0 : Int)).toNat = 0 from rfl] at hx192_4); (try rw [show 0 * 7 = 0 from rfl] at hx192_4); (try rw [Addr.add_zero'] at hx192_4); (try rw [show ((0 : Int)).toNat = 0 from rfl] at hx192_5); (try rw [show 0 * 7 = 0 from rfl] at hx192_5); (try rw [Addr.add_zero'] at hx192_5); (try rw [show ((0 : Int)).toNat = 0 from rfl] at hx192_6); (try rw [show 0 * 7 = 0 from rfl] at hx192_6); (try rw [Addr.add_zero'] at hx192_6); replace hx192_0 := (HB.out.cell (World.block_lt_of_cell? w _ hx192_0)).trans hx192_0; replace hx192_1 := (HB.out.cell (World.block_lt_of_cell? w _ hx192_1)).trans hx192_1; replace hx192_2 := (HB.out.cell (World.block_lt_of_cell? w _ hx192_2)).trans hx192_2; replace hx192_3 := (HB.out.cell (World.block_lt_of_cell? w _ hx192_3)).trans hx192_3; replace hx192_4 := (HB.out.cell (World.block_lt_of_cell? w _ hx192_4)).trans hx192_4; replace hx192_5 := (HB.out.cell (World.block_lt_of_cell? w _ hx192_5)).trans hx192_5; replace hx192_6 := (HB.out.cell (World.block_lt_of_cell? w _ hx192_6)).trans hx192_6; replace p192 := eq_true p192; replace q192 := eq_true q192))
      go_meet
      case rel => exact ⟨_, (true), z17_, H', ⟨z124_⟩, ⟨z55_⟩, ⟨z20_⟩⟩
    ·rw [if_neg c9] at H
     have c9b0 : (((rd_T72 l0_0 0).f2) == (-1)) = false := beq_eq_false_iff_ne.mpr c9
     have c9b1 : (((rd_T72 l0_0 0).f2) != (-1)) = true := bne_iff_ne.mpr c9
     have H' := Aside0.mk H
     clear H
     have hcz13_0 : w3.cell? ⟨gb188, 0, none⟩ = some (.slice A0_0 l0_0.length c0_0) := (blk_cell BK188.out 0).trans rfl
     have hfz13_0 := blk_frozen BK188.out 0
     go_wp2_with (((with_reducible refine gate_callee (f := 58) rfl ?_); refine goesL_ (some 11) rfl rfl Try.func58 (by kernel_rfl) rfl #[.int .i64 (l0_0.length : Int), .int .i64 1, .int .i64 24] rfl z2_ ?_; (with_reducible refine (spec_l1In.calls (l0_0.length : Int) 1 24 true _ A4.out).mono ?_); rintro e w' ⟨rfl, ⟨nd, rfl⟩⟩; refine ⟨_, rfl, ?_⟩; have p190 : 0 ≤ (0 : Int) := (by omega); have q190 : 0 < (l0_0.length : Int) := odt_; obtain ⟨ad190, e190, hx190_0, hx190_1, hx190_2, hx190_3, hx190_4, hx190_5, hx190_6⟩ := at_T72 HR0_0.out 0 p190 q190; (try rw [← Nbq7.out] at hx190_0); cases e190; have qi190 : (0 < l0_0.length) = True := eq_true (by omega); (try rw [show ((0 : Int)).toNat = 0 from rfl] at hx190_0); (try rw [show 0 * 7 = 0 from rfl] at hx190_0); (try rw [Addr.add_zero'] at hx190_0); (try rw [show ((0 : Int)).toNat = 0 from rfl] at hx190_1); (try rw [show 0 * 7 = 0 from rfl] at hx190_1); (try rw [Addr.add_zero'] at hx190_1); (try rw [show ((0 : Int)).toNat = 0 from rfl] at hx190_2); (try rw [show 0 * 7 = 0 from rfl] at hx190_2); (try rw [Addr.add_zero'] at hx190_2); (try rw [show ((0 : Int)).toNat = 0 from rfl] at hx190_3); (try rw [show 0 * 7 = 0 from rfl] at hx190_3); (try rw [Addr.add_zero'] at hx190_3); (try rw [show ((0 : Int)).toNat = 0 from rfl] at hx190_4); (try rw [show 0 * 7 = 0 from rfl] at hx190_4); (try rw [Addr.add_zero'] at hx190_4); (try rw [show ((0 : Int)).toNat = 0 from rfl] at hx190_5); (try rw [show 0 * 7 = 0 from rfl] at hx190_5); (try rw [Addr.add_zero'] at hx190_5); (try rw [show ((0 : Int)).toNat = 0 from rfl] at hx190_6); (try rw [show 0 * 7 = 0 from rfl] at hx190_6); (try rw [Addr.add_zero'] at hx190_6); replace hx190_0 := (HB.out.cell (World.block_lt_of_cell? w _ hx190_0)).trans hx190_0; replace hx190_1 := (HB.out.cell (World.block_lt_of_cell? w _ hx190_1)).trans hx190_1; replace hx190_2 := (HB.out.cell (World.block_lt_of_cell? w _ hx190_2)).trans hx190_2; replace hx190_3 := (HB.out.cell (World.block_lt_of_cell? w _ hx190_3)).trans hx190_3; replace hx190_4 := (HB.out.cell (World.block_lt_of_cell? w _ hx190_4)).trans hx190_4; replace hx190_5 := (HB.out.cell (World.block_lt_of_cell? w _ hx190_5)).trans hx190_5; replace hx190_6 := (HB.out.cell (World.block_lt_of_cell? w _ hx190_6)).trans hx190_6; replace p190 := eq_true p190; replace q190 := eq_true q190; have p191 : 0 ≤ (0 : Int) := (by omega); have q191 : 0 < (l0_0.length : Int) := odt_; obtain ⟨ad191, e191, hx191_0, hx191_1, hx191_2, hx191_3, hx191_4, hx191_5, hx191_6⟩ := at_T72 HR0_0.out 0 p191 q191; (try rw [← Nbq7.out] at hx191_0); obtain rfl : ad190 = ad191 := (by injection e191); have qi191 : (0 < l0_0.length) = True := eq_true (by omega); (try rw [show ((0 : Int)).toNat = 0 from rfl] at hx191_0); (try rw [show 0 * 7 = 0 from rfl] at hx191_0); (try rw [Addr.add_zero'] at hx191_0); (try rw [show ((0 : Int)).toNat = 0 from rfl] at hx191_1); (try rw [show 0 * 7 = 0 from rfl] at hx191_1); (try rw [Addr.add_zero'] at hx191_1); (try rw [show ((0 : Int)).toNat = 0 from rfl] at hx191_2); (try rw [show 0 * 7 = 0 from rfl] at hx191_2); (try rw [Addr.add_zero'] at hx191_2); (try rw [show ((0 : Int)).toNat = 0 from rfl] at hx191_3); (try rw [show 0 * 7 = 0 from rfl] at hx191_3); (try rw [Addr.add_zero'] at hx191_3); (try rw [show ((0 : Int)).toNat = 0 from rfl] at hx191_4); (try rw [show 0 * 7 = 0 from rfl] at hx191_4); (try rw [Addr.add_zero'] at hx191_4); (try rw [show ((0 : Int)).toNat = 0 from rfl] at hx191_5); (try rw [show 0 * 7 = 0 from rfl] at hx191_5); (try rw [Addr.add_zero'] at hx191_5); (try rw [show ((0 : Int)).toNat = 0 from rfl] at hx191_6); (try rw [show 0 * 7 = 0 from rfl] at hx191_6); (try rw [Addr.add_zero'] at hx191_6); replace hx191_0 := (HB.out.cell (World.block_lt_of_cell? w _ hx191_0)).trans hx191_0; replace hx191_1 := (HB.out.cell (World.block_lt_of_cell? w _ hx191_1)).trans hx191_1; replace hx191_2 := (HB.out.cell (World.block_lt_of_cell? w _ hx191_2)).trans hx191_2; replace hx191_3 := (HB.out.cell (World.block_lt_of_cell? w _ hx191_3)).trans hx191_3; replace hx191_4 := (HB.out.cell (World.block_lt_of_cell? w _ hx191_4)).trans hx191_4; replace hx191_5 := (HB.out.cell (World.block_lt_of_cell? w _ hx191_5)).trans hx191_5; replace hx191_6 := (HB.out.cell (World.block_lt_of_cell? w _ hx191_6)).trans hx191_6; replace p191 := eq_true p191; replace q191 := eq_true q191))
     go_meet
     case rel => exact ⟨_, (true), z17_, H', ⟨z124_⟩, ⟨z55_⟩, ⟨z20_⟩⟩
   ·replace c8 := Bool.eq_false_iff.mpr c8
    subst c8
    replace H := iff_ H
    have H' := Aside0.mk H
    clear H
    have hcz14_0 : w3.cell? ⟨gb188, 0, none⟩ = some (.slice A0_0 l0_0.length c0_0) := (blk_cell BK188.out 0).trans rfl
    have hfz14_0 := blk_frozen BK188.out 0
    go_wp2_with (((with_reducible refine gate_callee (f := 58) rfl ?_); refine goesL_ (some 11) rfl rfl Try.func58 (by kernel_rfl) rfl #[.int .i64 (l0_0.length : Int), .int .i64 1, .int .i64 24] rfl z2_ ?_; (with_reducible refine (spec_l1In.calls (l0_0.length : Int) 1 24 true _ A4.out).mono ?_); rintro e w' ⟨rfl, ⟨nd, rfl⟩⟩; refine ⟨_, rfl, ?_⟩; have p190 : 0 ≤ (0 : Int) := (by omega); have q190 : 0 < (l0_0.length : Int) := odt_; obtain ⟨ad190, e190, hx190_0, hx190_1, hx190_2, hx190_3, hx190_4, hx190_5, hx190_6⟩ := at_T72 HR0_0.out 0 p190 q190; (try rw [← Nbq7.out] at hx190_0); cases e190; have qi190 : (0 < l0_0.length) = True := eq_true (by omega); (try rw [show ((0 : Int)).toNat = 0 from rfl] at hx190_0); (try rw [show 0 * 7 = 0 from rfl] at hx190_0); (try rw [Addr.add_zero'] at hx190_0); (try rw [show ((0 : Int)).toNat = 0 from rfl] at hx190_1); (try rw [show 0 * 7 = 0 from rfl] at hx190_1); (try rw [Addr.add_zero'] at hx190_1); (try rw [show ((0 : Int)).toNat = 0 from rfl] at hx190_2); (try rw [show 0 * 7 = 0 from rfl] at hx190_2); (try rw [Addr.add_zero'] at hx190_2); (try rw [show ((0 : Int)).toNat = 0 from rfl] at hx190_3); (try rw [show 0 * 7 = 0 from rfl] at hx190_3); (try rw [Addr.add_zero'] at hx190_3); (try rw [show ((0 : Int)).toNat = 0 from rfl] at hx190_4); (try rw [show 0 * 7 = 0 from rfl] at hx190_4); (try rw [Addr.add_zero'] at hx190_4); (try rw [show ((0 : Int)).toNat = 0 from rfl] at hx190_5); (try rw [show 0 * 7 = 0 from rfl] at hx190_5); (try rw [Addr.add_zero'] at hx190_5); (try rw [show ((0 : Int)).toNat = 0 from rfl] at hx190_6); (try rw [show 0 * 7 = 0 from rfl] at hx190_6); (try rw [Addr.add_zero'] at hx190_6); replace hx190_0 := (HB.out.cell (World.block_lt_of_cell? w _ hx190_0)).trans hx190_0; replace hx190_1 := (HB.out.cell (World.block_lt_of_cell? w _ hx190_1)).trans hx190_1; replace hx190_2 := (HB.out.cell (World.block_lt_of_cell? w _ hx190_2)).trans hx190_2; replace hx190_3 := (HB.out.cell (World.block_lt_of_cell? w _ hx190_3)).trans hx190_3; replace hx190_4 := (HB.out.cell (World.block_lt_of_cell? w _ hx190_4)).trans hx190_4; replace hx190_5 := (HB.out.cell (World.block_lt_of_cell? w _ hx190_5)).trans hx190_5; replace hx190_6 := (HB.out.cell (World.block_lt_of_cell? w _ hx190_6)).trans hx190_6; replace p190 := eq_true p190; replace q190 := eq_true q190))
    go_meet
    case rel => exact ⟨_, (true), z17_, H', ⟨z124_⟩, ⟨z55_⟩, ⟨z20_⟩⟩
  ·replace c5 := Bool.eq_false_iff.mpr c5
   subst c5
   replace H := iff_ H
   have H' := Aside0.mk H
   clear H
   have hcz15_0 : w3.cell? ⟨gb188, 0, none⟩ = some (.slice A0_0 l0_0.length c0_0) := (blk_cell BK188.out 0).trans rfl
   have hfz15_0 := blk_frozen BK188.out 0
   go_wp2_with (((with_reducible refine gate_callee (f := 58) rfl ?_); refine goesL_ (some 11) rfl rfl Try.func58 (by kernel_rfl) rfl #[.int .i64 (l0_0.length : Int), .int .i64 1, .int .i64 24] rfl z2_ ?_; (with_reducible refine (spec_l1In.calls (l0_0.length : Int) 1 24 false _ A4.out).mono ?_); rintro e w' ⟨rfl, ⟨nd, rfl⟩⟩; refine ⟨_, rfl, ?_⟩))
   go_meet
   case rel => exact ⟨_, (true), z17_, H', ⟨z124_⟩, ⟨z55_⟩, ⟨z20_⟩⟩
 case rest =>
  clear HC2
  obtain ⟨kq, x44_1, rfl, HA, HJ1, BK188, HB⟩ := hcut
  cases kq with
  | zero => exact absurd HA.out (by simp [spec_DomOk.j0])
  | succ kj1 =>
   have H := HA.out
   clear HA
   simp only [spec_DomOk.j0] at H
   by_cases c16 : x44_1 = true
   ·subst c16
    replace H := ift_ H
    obtain rfl := Option.some.inj H
    go_wp2
    go_ret
    exact ⟨z4_, z20_⟩
   ·replace c16 := Bool.eq_false_iff.mpr c16
    subst c16
    replace H := iff_ H
    replace H := Option.bind_eq_some_iff.mp H
    obtain ⟨⟨t194, t197⟩, A170, H⟩ := H
    try dsimp only at H
    have A17 := Aside0.mk A170
    clear A170
    by_cases c18 : (t194.length : Int) > 24
    ·rw [if_pos c18] at H
     have c18b0 := decide_eq_true c18
     have c18b1 : decide (24 < t194.length) = true := decide_eq_true (by omega)
     clear c18
     obtain rfl := Option.some.inj H
     have hcz19_0 : wc.cell? ⟨gb188, 0, none⟩ = some (.slice A0_0 l0_0.length c0_0) := (blk_cell BK188.out 0).trans rfl
     have hfz19_0 := blk_frozen BK188.out 0
     go_wp2_with (((with_reducible refine gate_callee (f := 61) rfl ?_); refine goesL_ (some 47) rfl rfl Try.func61 (by kernel_rfl) rfl #[.agg #[.slice A0_0 l0_0.length c0_0], .int .i64 0, .int .i64 0, .slice none 0 0, .slice none 0 0] rfl z2_ ?_; (refine (spec_l16Walk.calls kj1 _ _ l0_0 0 0 (fun k_ => some k_ = (.slice none 0 0 : Value).ownBlock) (.slice none 0 0) ([] : List Int) (fun k_ => some k_ = (.slice none 0 0 : Value).ownBlock) (.slice none 0 0) ([] : List Int) t194 t197 w _ ?side1 ?side2 ?side3 ?side4 ?side5 ?side6 ?side7 A17.out).mono ?_); (case side1 => exact z20_); (case side2 => exact z122_); (case side3 => exact HC0_0.out); (case side4 => exact z306_); (case side5 => exact z297_); (case side6 => exact z306_); (case side7 => exact z297_); rintro e w20 ⟨v195, v198, rfl, ho0, ho1, hb, hkp⟩; refine ⟨_, rfl, ?_⟩; replace BK188 := Aside0.mk (blk_kept z55_ hkp (fun hs_ => Or.elim hs_ (fun e_ => (fun e_ => by simp [Value.ownBlock] at e_) e_) (fun e_ => (fun e_ => by simp [Value.ownBlock] at e_) e_))); have HO196 := Aside0.mk (Kd.R_mono (ok' := fun k_ => some k_ ≠ (v198 : Value).ownBlock) ho0 (fun k_ hk_ => hk_.2)); have HO199 := Aside0.mk (Kd.R_mono (ok' := fun k_ => some k_ ≠ (v195 : Value).ownBlock) ho1 (fun k_ hk_ => hk_.2)); replace HB := Aside0.mk (hb); (try clear hb hkp ho0 ho1); obtain ⟨Ao21, co21, eo21⟩ := Kd.R_slice HO196.out; subst eo21))
     go_ret
     exact ⟨z4_, z20_⟩
    ·rw [if_neg c18] at H
     have c18b0 := decide_eq_false c18
     have c18b1 : decide (24 < t194.length) = false := decide_eq_false (by omega)
     clear c18
     obtain ⟨c22b0, c22b1, H⟩ := ife_ H
     obtain ⟨c23b0, c23b1, H⟩ := ife_ H
     (generalize hy_ : ((List.replicate ((l0_0.length : Int) : Int).toNat false) : List Bool) = y200 at H; have Ny200 := Aside0.mk hy_.symm; clear hy_)
     have H' := Aside0.mk H
     clear H
     have hcz24_0 : wc.cell? ⟨gb188, 0, none⟩ = some (.slice A0_0 l0_0.length c0_0) := (blk_cell BK188.out 0).trans rfl
     have hfz24_0 := blk_frozen BK188.out 0
     go_wp2_with (first | ((with_reducible refine gate_callee (f := 61) rfl ?_); refine goesL_ (some 47) rfl rfl Try.func61 (by kernel_rfl) rfl #[.agg #[.slice A0_0 l0_0.length c0_0], .int .i64 0, .int .i64 0, .slice none 0 0, .slice none 0 0] rfl z2_ ?_; (refine (spec_l16Walk.calls kj1 _ _ l0_0 0 0 (fun k_ => some k_ = (.slice none 0 0 : Value).ownBlock) (.slice none 0 0) ([] : List Int) (fun k_ => some k_ = (.slice none 0 0 : Value).ownBlock) (.slice none 0 0) ([] : List Int) t194 t197 w _ ?side1 ?side2 ?side3 ?side4 ?side5 ?side6 ?side7 A17.out).mono ?_); (case side1 => exact z20_); (case side2 => exact z122_); (case side3 => exact HC0_0.out); (case side4 => exact z306_); (case side5 => exact z297_); (case side6 => exact z306_); (case side7 => exact z297_); rintro e w25 ⟨v195, v198, rfl, ho0, ho1, hb, hkp⟩; refine ⟨_, rfl, ?_⟩; replace BK188 := Aside0.mk (blk_kept z55_ hkp (fun hs_ => Or.elim hs_ (fun e_ => (fun e_ => by simp [Value.ownBlock] at e_) e_) (fun e_ => (fun e_ => by simp [Value.ownBlock] at e_) e_))); have HO196 := Aside0.mk (Kd.R_mono (ok' := fun k_ => some k_ ≠ (v198 : Value).ownBlock) ho0 (fun k_ hk_ => hk_.2)); have HO199 := Aside0.mk (Kd.R_mono (ok' := fun k_ => some k_ ≠ (v195 : Value).ownBlock) ho1 (fun k_ hk_ => hk_.2)); replace HB := Aside0.mk (hb); (try clear hb hkp ho0 ho1); obtain ⟨Ao26, co26, eo26⟩ := Kd.R_slice HO196.out; subst eo26; have hcz27_0 : w25.cell? ⟨gb188, 0, none⟩ = some (.slice A0_0 l0_0.length c0_0) := (blk_cell BK188.out 0).trans rfl; have hfz27_0 := blk_frozen BK188.out 0) | ((with_reducible refine gate_dst (N := 56) rfl ?_); refine Kd.R_make Kd.bool _ 4 rfl (N := 56) rfl 96 _ _ rfl (l0_0.length : Int) rfl rfl Try.underlying96 (.bool false) 1 info4 rfl (by decide) (by omega) false (ok := fun _ => True) (okp := fun _ => True) rfl (fun _ hk => hk) trivial (odt_) (Nat.le_trans (Nat.mul_le_mul_right _ (odt_ : (l0_0.length : Int).toNat ≤ 281474976710656)) (by omega)) (Below.refl _ _) (Nat.le_refl _) ?_; intro v201 w28 ho29 hb hg_ hnew_; clear hg_ hnew_; (rw [← Ny200.out] at ho29); replace HO196 := Aside0.mk (Kd.R_below (by exact HO196.out) hb); replace HO199 := Aside0.mk (Kd.R_below (by exact HO199.out) hb); have HO202 := Aside0.mk (Kd.R_lower ho29 (below_size z20_)); replace BK188 := Aside0.mk (blk_below (g := gb188) (o := .cells #[.slice A0_0 l0_0.length c0_0] 28 (0, 0)) z55_ hb); replace HB := Aside0.mk (below_step z20_ hb); clear hb ho29))
     go_loopg [6] kj1 (fun kq v6 w' => ∃ (x5_2 : List Bool) (x6_2 : Int), v6 = .int .i64 x6_2 ∧ Aside0 (spec_DomOk.l0 kq t194 x5_2 x6_2 l0_0 = some r) ∧ Aside0 (kq ≤ kj1) ∧ Aside0 (Kd.R (Kd.int .i64) 3 w' w.heap.size (fun _ => True) (.slice Ao26 t194.length co26) t194) ∧ Aside0 (Kd.R Kd.bool 4 w' w.heap.size (fun _ => True) v201 x5_2) ∧ Aside0 (w'.heap[gb188]? = some (.cells #[(.slice A0_0 l0_0.length c0_0)] 28 (0, 0))) ∧ Aside0 (Below w.heap.size w w'))
     case atStart => exact ⟨(y200), (0), z17_, H', ⟨Nat.le_refl _⟩, ⟨by exact Kd.R_mono HO196.out (fun _ hk => trivial)⟩, ⟨by exact HO202.out⟩, ⟨z55_⟩, ⟨z20_⟩⟩
     case round =>
      clear H' c18b0 c18b1 c22b0 c22b1 c23b0 c23b1 hcz24_0 hcz27_0 hfz24_0 hfz27_0
      obtain ⟨x5_2, x6_2, rfl, HA, HK2, HO_3, HO_5, BK188, HB⟩ := hrel
      cases gk with
      | zero => exact absurd HA.out (by simp [spec_DomOk.l0])
      | succ k2 =>
       have H := HA.out
       clear HA
       simp only [spec_DomOk.l0] at H
       by_cases c30 : x6_2 < (t194.length : Int)
       ·rw [if_pos c30] at H
        have c30b0 := decide_eq_true c30
        clear c30
        obtain ⟨c31b0, H⟩ := ifd_ H
        obtain ⟨c32b0, H⟩ := ifd_ H
        obtain ⟨c33b0, H⟩ := ifd_ H
        obtain ⟨bq34, hbq34⟩ : ∃ b_ : Bool, b_ = (rdOf false x5_2 (rd t194 x6_2)) := ⟨_, rfl⟩
        replace H : (if bq34 = true then (some false) else (if (rd t194 x6_2) < (l0_0.length : Int) then (if ((rd_T72 l0_0 (rd t194 x6_2)).f0 = true) then ((spec_LabelOk.f ((rd_T72 l0_0 (rd t194 x6_2)).f1)).bind fun t209 => (if t209 = true then (spec_DomOk.l0 k2 t194 (x5_2.set ((rd t194 x6_2) : Int).toNat true) (wrap64 (x6_2 + 1)) l0_0) else (some false))) else (some false)) else (none))) = some r := by rw [← hbq34] at H; exact H
        have Nbq34 := Aside0.mk hbq34
        clear hbq34
        by_cases c35 : bq34 = true
        ·subst c35
         replace H := ift_ H
         obtain rfl := Option.some.inj H
         try go_wp2
         have n0_ := Aside0.mk (Kd.R_drew HO_3.out)
         have n1_ := Aside0.mk (Kd.R_drew HO_5.out)
         have n2_ := Aside0.mk (blk_drew BK188.out)
         have n3_ := Aside0.mk (below_drew1 HB.out)
         clear HO_3
         clear HO_5
         clear BK188
         clear HB
         have HO_3 := n0_
         have HO_5 := n1_
         have BK188 := n2_
         have HB := n3_
         clear n0_ n1_ n2_ n3_
         have p203 : 0 ≤ (x6_2 : Int) := odt_
         have q203 : x6_2 < (t194.length : Int) := odt_
         obtain ⟨ad203, e203, hx203_0⟩ := Kd.at_int (Kd.R_reads' HO_3.out).2.2 x6_2 p203 q203
         cases e203
         replace p203 := eq_true p203
         replace q203 := eq_true q203
         obtain ⟨Ao37, co37, eo37⟩ := Kd.R_slice HO_5.out
         (subst eo37)
         have p204 : 0 ≤ ((rd t194 x6_2) : Int) := odt_
         have q204 : (rd t194 x6_2) < (x5_2.length : Int) := odt_
         obtain ⟨ad204, e204, hx204_0⟩ := Kd.at_bool (Kd.R_reads' HO_5.out).2.2 (rd t194 x6_2) p204 q204
         (try rw [← Nbq34.out] at hx204_0)
         cases e204
         replace p204 := eq_true p204
         replace q204 := eq_true q204
         refine start_ (n := 32) (S := fun w' => w'.cell? (ad203.add (x6_2).toNat) = some (.int .i64 (rd t194 x6_2)) ∧ w'.cell? (ad204.add ((rd t194 x6_2)).toNat) = some (.bool true)) (ds := []) (fl_ 32 0) (by kernel_rfl) rfl (fl_zero _) ⟨hx203_0, hx204_0⟩ (fun hHeld => ?_); refine with_tabW spec_DomOk.tab10 spec_DomOk.bits10 (fun HT_ HW_ => ?_)
         generalize wr.drew = w36 at HO_3 HO_5 BK188 HB hx203_0 hx204_0 hHeld ⊢
         iterate 4 refine zp_ HT_ rfl rfl (by kernel_rfl) (fun _ _ _ h => h) (by rfl) ?_
         refine zt_ HT_ HW_ rfl rfl (by kernel_rfl) (fun _ _ _ h => h) (by rfl) hHeld ?_ z265_
         refine zp_ HT_ rfl rfl (by kernel_rfl) (fun _ _ _ h => h) (by rfl) ?_
         refine zt_ HT_ HW_ rfl rfl (by kernel_rfl) (fun _ _ _ h => h) (by rfl) hHeld ?_ z265_
         refine zp_ HT_ rfl rfl (by kernel_rfl) (fun _ _ _ h => h) (by rfl) ?_
         iterate 10 refine zu_ HT_ rfl rfl (by kernel_rfl) (fun _ _ _ h => h) (by rfl) ?_
         iterate 2 refine zp_ HT_ rfl rfl (by kernel_rfl) (fun _ _ _ h => h) (by rfl) ?_
         iterate 11 refine zu_ HT_ rfl rfl (by kernel_rfl) (fun _ _ _ h => h) (by rfl) ?_
         refine zp_ HT_ rfl rfl (by kernel_rfl) (fun _ _ _ h => h) (by rfl) ?_
         refine done_ (done_of HT_.out (by kernel_rfl)) ?_
         try go_wp2
         go_ret
         exact ⟨z4_, z20_⟩
        ·replace c35 := Bool.eq_false_iff.mpr c35
         subst c35
         replace H := iff_ H
         obtain ⟨c38b0, H⟩ := ifd_ H
         obtain ⟨bq39, hbq39⟩ : ∃ b_ : Bool, b_ = ((rd_T72 l0_0 (rd t194 x6_2)).f0) := ⟨_, rfl⟩
         replace H : (if (bq39 = true) then ((spec_LabelOk.f ((rd_T72 l0_0 (rd t194 x6_2)).f1)).bind fun t209 => (if t209 = true then (spec_DomOk.l0 k2 t194 (x5_2.set ((rd t194 x6_2) : Int).toNat true) (wrap64 (x6_2 + 1)) l0_0) else (some false))) else (some false)) = some r := by rw [← hbq39] at H; exact H
         have Nbq39 := Aside0.mk hbq39
         clear hbq39
         by_cases c40 : (bq39 = true)
         ·subst c40
          replace H := ift_ H
          obtain ⟨t209, A41, H⟩ := bnd_ H
          by_cases c42 : t209 = true
          ·subst c42
           replace H := ift_ H
           (generalize hy_ : ((x5_2.set ((rd t194 x6_2) : Int).toNat true) : List Bool) = y211 at H; have Ny211 := Aside0.mk hy_.symm; clear hy_)
           have H' := Aside0.mk H
           clear H
           try go_wp2
           have n0_ := Aside0.mk (Kd.R_drew HO_3.out)
           have n1_ := Aside0.mk (Kd.R_drew HO_5.out)
           have n2_ := Aside0.mk (blk_drew BK188.out)
           have n3_ := Aside0.mk (below_drew1 HB.out)
           clear HO_3
           clear HO_5
           clear BK188
           clear HB
           have HO_3 := n0_
           have HO_5 := n1_
           have BK188 := n2_
           have HB := n3_
           clear n0_ n1_ n2_ n3_
           have p203 : 0 ≤ (x6_2 : Int) := odt_
           have q203 : x6_2 < (t194.length : Int) := odt_
           obtain ⟨ad203, e203, hx203_0⟩ := Kd.at_int (Kd.R_reads' HO_3.out).2.2 x6_2 p203 q203
           cases e203
           replace p203 := eq_true p203
           replace q203 := eq_true q203
           obtain ⟨Ao45, co45, eo45⟩ := Kd.R_slice HO_5.out
           (subst eo45)
           have p204 : 0 ≤ ((rd t194 x6_2) : Int) := odt_
           have q204 : (rd t194 x6_2) < (x5_2.length : Int) := odt_
           obtain ⟨ad204, e204, hx204_0⟩ := Kd.at_bool (Kd.R_reads' HO_5.out).2.2 (rd t194 x6_2) p204 q204
           (try rw [← Nbq34.out] at hx204_0)
           cases e204
           replace p204 := eq_true p204
           replace q204 := eq_true q204
           have p205 : 0 ≤ (x6_2 : Int) := odt_
           have q205 : x6_2 < (t194.length : Int) := odt_
           obtain ⟨ad205, e205, hx205_0⟩ := Kd.at_int (Kd.R_reads' HO_3.out).2.2 x6_2 p205 q205
           obtain rfl : ad203 = ad205 := (by injection e205)
           replace p205 := eq_true p205
           replace q205 := eq_true q205
           have p206 : 0 ≤ ((rd t194 x6_2) : Int) := odt_
           have q206 : (rd t194 x6_2) < (l0_0.length : Int) := odt_
           obtain ⟨ad206, e206, hx206_0, hx206_1, hx206_2, hx206_3, hx206_4, hx206_5, hx206_6⟩ := at_T72 HR0_0.out (rd t194 x6_2) p206 q206
           have hw206_6 := hx206_6
           have hw206_5 := hx206_5
           have hw206_4 := hx206_4
           have hw206_3 := hx206_3
           have hw206_2 := hx206_2
           have hw206_1 := hx206_1
           have hw206_0 := hx206_0
           (try rw [← Nbq39.out] at hx206_0)
           (try rw [← Nbq39.out] at hw206_0)
           cases e206
           replace hx206_0 := (HB.out.cell (World.block_lt_of_cell? w _ hx206_0)).trans hx206_0
           replace hx206_1 := (HB.out.cell (World.block_lt_of_cell? w _ hx206_1)).trans hx206_1
           replace hx206_2 := (HB.out.cell (World.block_lt_of_cell? w _ hx206_2)).trans hx206_2
           replace hx206_3 := (HB.out.cell (World.block_lt_of_cell? w _ hx206_3)).trans hx206_3
           replace hx206_4 := (HB.out.cell (World.block_lt_of_cell? w _ hx206_4)).trans hx206_4
           replace hx206_5 := (HB.out.cell (World.block_lt_of_cell? w _ hx206_5)).trans hx206_5
           replace hx206_6 := (HB.out.cell (World.block_lt_of_cell? w _ hx206_6)).trans hx206_6
           replace p206 := eq_true p206
           replace q206 := eq_true q206
           have p207 : 0 ≤ (x6_2 : Int) := odt_
           have q207 : x6_2 < (t194.length : Int) := odt_
           obtain ⟨ad207, e207, hx207_0⟩ := Kd.at_int (Kd.R_reads' HO_3.out).2.2 x6_2 p207 q207
           obtain rfl : ad203 = ad207 := (by injection e207)
           replace p207 := eq_true p207
           replace q207 := eq_true q207
           have p208 : 0 ≤ ((rd t194 x6_2) : Int) := odt_
           have q208 : (rd t194 x6_2) < (l0_0.length : Int) := odt_
           obtain ⟨ad208, e208, hx208_0, hx208_1, hx208_2, hx208_3, hx208_4, hx208_5, hx208_6⟩ := at_T72 HR0_0.out (rd t194 x6_2) p208 q208
           have hw208_6 := hx208_6
           have hw208_5 := hx208_5
           have hw208_4 := hx208_4
           have hw208_3 := hx208_3
           have hw208_2 := hx208_2
           have hw208_1 := hx208_1
           have hw208_0 := hx208_0
           (try rw [← Nbq39.out] at hx208_0)
           (try rw [← Nbq39.out] at hw208_0)
           obtain rfl : ad206 = ad208 := (by injection e208)
           replace hx208_0 := (HB.out.cell (World.block_lt_of_cell? w _ hx208_0)).trans hx208_0
           replace hx208_1 := (HB.out.cell (World.block_lt_of_cell? w _ hx208_1)).trans hx208_1
           replace hx208_2 := (HB.out.cell (World.block_lt_of_cell? w _ hx208_2)).trans hx208_2
           replace hx208_3 := (HB.out.cell (World.block_lt_of_cell? w _ hx208_3)).trans hx208_3
           replace hx208_4 := (HB.out.cell (World.block_lt_of_cell? w _ hx208_4)).trans hx208_4
           replace hx208_5 := (HB.out.cell (World.block_lt_of_cell? w _ hx208_5)).trans hx208_5
           replace hx208_6 := (HB.out.cell (World.block_lt_of_cell? w _ hx208_6)).trans hx208_6
           replace p208 := eq_true p208
           replace q208 := eq_true q208
           refine start_ (n := 32) (S := fun w' => w'.cell? ⟨gb188, 0, none⟩ = some (.slice (some ad206) l0_0.length c0_0) ∧ w'.cell? (ad203.add (x6_2).toNat) = some (.int .i64 (rd t194 x6_2)) ∧ w'.cell? (ad204.add ((rd t194 x6_2)).toNat) = some (.bool false) ∧ w'.cell? (ad206.add (((rd t194 x6_2)).toNat * 7)) = some (.bool true) ∧ w'.cell? ⟨(ad206.add (((rd t194 x6_2)).toNat * 7)).block, (ad206.add (((rd t194 x6_2)).toNat * 7)).off + 1, none⟩ = some (.int .i64 ((rd_T72 l0_0 (rd t194 x6_2)).f1)) ∧ w'.cell? ⟨(ad206.add (((rd t194 x6_2)).toNat * 7)).block, (ad206.add (((rd t194 x6_2)).toNat * 7)).off + 2, none⟩ = some (.int .i64 ((rd_T72 l0_0 (rd t194 x6_2)).f2)) ∧ w'.cell? ⟨(ad206.add (((rd t194 x6_2)).toNat * 7)).block, (ad206.add (((rd t194 x6_2)).toNat * 7)).off + 3, none⟩ = some (.int .i64 ((rd_T72 l0_0 (rd t194 x6_2)).f3)) ∧ w'.cell? ⟨(ad206.add (((rd t194 x6_2)).toNat * 7)).block, (ad206.add (((rd t194 x6_2)).toNat * 7)).off + 4, none⟩ = some (.int .i64 ((rd_T72 l0_0 (rd t194 x6_2)).f4)) ∧ w'.cell? ⟨(ad206.add (((rd t194 x6_2)).toNat * 7)).block, (ad206.add (((rd t194 x6_2)).toNat * 7)).off + 5, none⟩ = some (.int .i64 ((rd_T72 l0_0 (rd t194 x6_2)).f5)) ∧ w'.cell? ⟨(ad206.add (((rd t194 x6_2)).toNat * 7)).block, (ad206.add (((rd t194 x6_2)).toNat * 7)).off + 6, none⟩ = some (.int .i64 ((rd_T72 l0_0 (rd t194 x6_2)).f6)) ∧ w'.cell? (ad206.add (((rd t194 x6_2)).toNat * 7)) = some (.bool (true))) (ds := []) (fl_ 32 0) (by kernel_rfl) rfl (fl_zero _) ⟨(blk_cell BK188.out 0).trans rfl, hx203_0, hx204_0, ((HB.out.cell (World.block_lt_of_cell? w _ hw206_0)).trans hw206_0), ((HB.out.cell (World.block_lt_of_cell? w _ hw206_1)).trans hw206_1), ((HB.out.cell (World.block_lt_of_cell? w _ hw206_2)).trans hw206_2), ((HB.out.cell (World.block_lt_of_cell? w _ hw206_3)).trans hw206_3), ((HB.out.cell (World.block_lt_of_cell? w _ hw206_4)).trans hw206_4), ((HB.out.cell (World.block_lt_of_cell? w _ hw206_5)).trans hw206_5), ((HB.out.cell (World.block_lt_of_cell? w _ hw206_6)).trans hw206_6), ((HB.out.cell (World.block_lt_of_cell? w _ hw208_0)).trans hw208_0)⟩ (fun hHeld => ?_); refine with_tabW spec_DomOk.tab10 spec_DomOk.bits10 (fun HT_ HW_ => ?_)
           generalize wr.drew = w44 at HO_3 HO_5 BK188 HB hx203_0 hx204_0 hx205_0 hx206_0 hx206_1 hx206_2 hx206_3 hx206_4 hx206_5 hx206_6 hx207_0 hx208_0 hx208_1 hx208_2 hx208_3 hx208_4 hx208_5 hx208_6 hHeld ⊢
           iterate 4 refine zp_ HT_ rfl rfl (by kernel_rfl) (fun _ _ _ h => h) (by rfl) ?_
           refine zt_ HT_ HW_ rfl rfl (by kernel_rfl) (fun _ _ _ h => h) (by rfl) hHeld ?_ z70_
           refine zp_ HT_ rfl rfl (by kernel_rfl) (fun _ _ _ h => h) (by rfl) ?_
           refine zt_ HT_ HW_ rfl rfl (by kernel_rfl) (fun _ _ _ h => h) (by rfl) hHeld ?_ z70_
           iterate 2 refine zp_ HT_ rfl rfl (by kernel_rfl) (fun _ _ _ h => h) (by rfl) ?_
           refine zpg_ (i := 10) (ra_ [9, 1, 1, 21]) HT_ rfl rfl (by kernel_rfl) (fun _ _ _ h => h) (by rfl) ?_
           refine zpg_ (i := 11) (ra_ [9, 1, 2, 20]) HT_ rfl rfl (by kernel_rfl) (fun _ _ _ h => h) (by rfl) ?_
           refine zpg_ (i := 12) (ra_ [9, 1, 3, 19]) HT_ rfl rfl (by kernel_rfl) (fun _ _ _ h => h) (by rfl) ?_
           refine ztg_ (i := 9) (fl_ 32 13) HT_ HW_ rfl rfl (by kernel_rfl) (fun _ _ _ h => h) (by rfl) hHeld ?_ z70_
           refine zt_ HT_ HW_ rfl rfl (by kernel_rfl) (fun _ _ _ h => h) (by rfl) hHeld ?_ z70_
           iterate 2 refine zp_ HT_ rfl rfl (by kernel_rfl) (fun _ _ _ h => h) (by rfl) ?_
           refine zt_ HT_ HW_ rfl rfl (by kernel_rfl) (fun _ _ _ h => h) (by rfl) hHeld ?_ z70_
           iterate 4 refine zp_ HT_ rfl rfl (by kernel_rfl) (fun _ _ _ h => h) (by rfl) ?_
           refine zpg_ (i := 22) (ra_ [21, 1, 1, 9]) HT_ rfl rfl (by kernel_rfl) (fun _ _ _ h => h) (by rfl) ?_
           refine zpg_ (i := 23) (ra_ [21, 1, 2, 8]) HT_ rfl rfl (by kernel_rfl) (fun _ _ _ h => h) (by rfl) ?_
           refine zpg_ (i := 24) (ra_ [21, 1, 3, 7]) HT_ rfl rfl (by kernel_rfl) (fun _ _ _ h => h) (by rfl) ?_
           refine ztg_ (i := 21) (fl_ 32 25) HT_ HW_ rfl rfl (by kernel_rfl) (fun _ _ _ h => h) (by rfl) hHeld ?_ z70_
           refine zt_ HT_ HW_ rfl rfl (by kernel_rfl) (fun _ _ _ h => h) (by rfl) hHeld ?_ z70_
           iterate 2 refine zp_ HT_ rfl rfl (by kernel_rfl) (fun _ _ _ h => h) (by rfl) ?_
           refine zt_ HT_ HW_ rfl rfl (by kernel_rfl) (fun _ _ _ h => h) (by rfl) hHeld ?_ z70_
           refine one_ (i := 29) (N := some 92) (fl_ 32 30) rfl rfl (one_of HT_.out (by kernel_rfl)) (by decide) (fun K hK => ?_)
           refine goes_ Try.func57 (by kernel_rfl) rfl #[.int .i64 ((rd_T72 l0_0 (rd t194 x6_2)).f1)] (by rfl) rfl rfl z2_ ?_
           with_reducible refine (spec_LabelOk.calls ((rd_T72 l0_0 (rd t194 x6_2)).f1) true _ A41.out).mono ?_
           rintro e w' ⟨rfl, ⟨nd, rfl⟩⟩
           refine ⟨_, rfl, ?_⟩
           refine hK.out _ _ ⟨(blk_cell BK188.out 0).trans rfl, hHeld.2.1, hHeld.2.2.1, ((HB.out.cell (World.block_lt_of_cell? w _ hw206_0)).trans hw206_0), ((HB.out.cell (World.block_lt_of_cell? w _ hw206_1)).trans hw206_1), ((HB.out.cell (World.block_lt_of_cell? w _ hw206_2)).trans hw206_2), ((HB.out.cell (World.block_lt_of_cell? w _ hw206_3)).trans hw206_3), ((HB.out.cell (World.block_lt_of_cell? w _ hw206_4)).trans hw206_4), ((HB.out.cell (World.block_lt_of_cell? w _ hw206_5)).trans hw206_5), ((HB.out.cell (World.block_lt_of_cell? w _ hw206_6)).trans hw206_6), ((HB.out.cell (World.block_lt_of_cell? w _ hw208_0)).trans hw208_0)⟩ (fun hHeld => ?_)
           clear hK K
           refine zn_ rfl ?_
           iterate 2 refine zp_ HT_ rfl rfl (by kernel_rfl) (fun _ _ _ h => h) (by rfl) ?_
           refine done_ (done_of HT_.out (by kernel_rfl)) ?_
           have n0_ := Aside0.mk (Kd.R_drewN HO_3.out nd)
           have n1_ := Aside0.mk (Kd.R_drewN HO_5.out nd)
           have n2_ := Aside0.mk (blk_drewN BK188.out nd)
           have n3_ := Aside0.mk (pw_below_drewN HB.out nd)
           clear HO_3 HO_5 BK188 HB
           have HO_3 := n0_
           have HO_5 := n1_
           have BK188 := n2_
           have HB := n3_
           clear n0_ n1_ n2_ n3_
           generalize w44.drewN nd = w44 at HO_3 HO_5 BK188 HB ⊢
           have p210 : 0 ≤ (x6_2 : Int) := odt_
           have q210 : x6_2 < (t194.length : Int) := odt_
           obtain ⟨ad210, e210, hx210_0⟩ := Kd.at_int (Kd.R_reads' HO_3.out).2.2 x6_2 p210 q210
           obtain rfl : ad203 = ad210 := (by injection e210)
           replace p210 := eq_true p210
           replace q210 := eq_true q210
           have p43 : 0 ≤ ((rd t194 x6_2) : Int) := odt_
           have q43 : ((rd t194 x6_2) : Int) < ((x5_2.length : Int) : Int) := odt_
           obtain ⟨go43, co43, eo43, gb43, gl43, cl43, HG43⟩ := Kd.R_form HO_5.out (by omega)
           (cases eo43)
           have GB43 := Aside0.mk gb43
           have GG43 := Aside0.mk HG43
           clear gb43 gl43 HG43
           (simp only [add_plain] at hx204_0)
           obtain ⟨hx43_0, hf43_0⟩ := Kd.R_celln false HO_5.out ((rd t194 x6_2) : Int) p43 q43
           replace p43 := eq_true p43
           replace q43 := eq_true q43
           obtain ⟨hy46_, hz46_⟩ := Kd.R_celln false HO_5.out ((rd t194 x6_2) : Int) (odt_) (odt_)
           have HP46 := Kd.R_putg HO_5.out ((rd t194 x6_2) : Int) true
           try go_wp2_with (((with_reducible refine gate_store (t := 4) (p := 100) rfl ?_); refine store_event (t := 4) (p := 100) (v := ?vo_w47) (w1 := (w44.setCell ⟨go43, ((rd t194 x6_2) : Int).toNat, none⟩ (.bool true))) ?hg ?ho ?hn ?hr ?_; (case ho => rfl); (case hg => rfl); (case hn => rfl); (case hr => exact z19_); intro w47 hw; have hg : w44.grownBy w47 (some go43) := (by rw [hw]; exact HP46.2); have hp_ : Kd.R Kd.bool 4 w47 w.heap.size (fun _ => True) (.slice (some ⟨go43, 0, none⟩) x5_2.length co45) y211 := (by rw [hw, Ny211.out]; exact HP46.1); clear HP46; replace HO_3 := Aside0.mk (Kd.R_over' (v := (.slice (some ⟨go43, 0, none⟩) x5_2.length co45)) z25_ (Kd.R_typed HO_5.out) (by decide) hg); replace BK188 := Aside0.mk (blk_grown (g := gb188) (o := .cells #[.slice (some ad206) l0_0.length c0_0] 28 (0, 0)) z55_ hg (Kd.R_ne HO_5.out BK188.out (by decide))); replace HO_5 := Aside0.mk (hp_); replace HB := Aside0.mk ((by rw [hw]; exact below_set (HB.out) GB43.out : Below w.heap.size w w47)); clear hg hw hp_))
           go_roundg k2
           case measure => have := HJ1.out; have := HK2.out; omega
           case rel => exact ⟨(y211), (wrap64 (x6_2 + 1)), z17_, H', ⟨by have := HJ1.out; have := HK2.out; omega⟩, ⟨z25_⟩, ⟨z82_⟩, ⟨z55_⟩, ⟨z20_⟩⟩
          ·replace c42 := Bool.eq_false_iff.mpr c42
           subst c42
           replace H := iff_ H
           obtain rfl := Option.some.inj H
           try go_wp2
           have n0_ := Aside0.mk (Kd.R_drew HO_3.out)
           have n1_ := Aside0.mk (Kd.R_drew HO_5.out)
           have n2_ := Aside0.mk (blk_drew BK188.out)
           have n3_ := Aside0.mk (below_drew1 HB.out)
           clear HO_3
           clear HO_5
           clear BK188
           clear HB
           have HO_3 := n0_
           have HO_5 := n1_
           have BK188 := n2_
           have HB := n3_
           clear n0_ n1_ n2_ n3_
           have p203 : 0 ≤ (x6_2 : Int) := odt_
           have q203 : x6_2 < (t194.length : Int) := odt_
           obtain ⟨ad203, e203, hx203_0⟩ := Kd.at_int (Kd.R_reads' HO_3.out).2.2 x6_2 p203 q203
           cases e203
           replace p203 := eq_true p203
           replace q203 := eq_true q203
           obtain ⟨Ao49, co49, eo49⟩ := Kd.R_slice HO_5.out
           (subst eo49)
           have p204 : 0 ≤ ((rd t194 x6_2) : Int) := odt_
           have q204 : (rd t194 x6_2) < (x5_2.length : Int) := odt_
           obtain ⟨ad204, e204, hx204_0⟩ := Kd.at_bool (Kd.R_reads' HO_5.out).2.2 (rd t194 x6_2) p204 q204
           (try rw [← Nbq34.out] at hx204_0)
           cases e204
           replace p204 := eq_true p204
           replace q204 := eq_true q204
           have p205 : 0 ≤ (x6_2 : Int) := odt_
           have q205 : x6_2 < (t194.length : Int) := odt_
           obtain ⟨ad205, e205, hx205_0⟩ := Kd.at_int (Kd.R_reads' HO_3.out).2.2 x6_2 p205 q205
           obtain rfl : ad203 = ad205 := (by injection e205)
           replace p205 := eq_true p205
           replace q205 := eq_true q205
           have p206 : 0 ≤ ((rd t194 x6_2) : Int) := odt_
           have q206 : (rd t194 x6_2) < (l0_0.length : Int) := odt_
           obtain ⟨ad206, e206, hx206_0, hx206_1, hx206_2, hx206_3, hx206_4, hx206_5, hx206_6⟩ := at_T72 HR0_0.out (rd t194 x6_2) p206 q206
           have hw206_6 := hx206_6
           have hw206_5 := hx206_5
           have hw206_4 := hx206_4
           have hw206_3 := hx206_3
           have hw206_2 := hx206_2
           have hw206_1 := hx206_1
           have hw206_0 := hx206_0
           (try rw [← Nbq39.out] at hx206_0)
           (try rw [← Nbq39.out] at hw206_0)
           cases e206
           replace hx206_0 := (HB.out.cell (World.block_lt_of_cell? w _ hx206_0)).trans hx206_0
           replace hx206_1 := (HB.out.cell (World.block_lt_of_cell? w _ hx206_1)).trans hx206_1
           replace hx206_2 := (HB.out.cell (World.block_lt_of_cell? w _ hx206_2)).trans hx206_2
           replace hx206_3 := (HB.out.cell (World.block_lt_of_cell? w _ hx206_3)).trans hx206_3
           replace hx206_4 := (HB.out.cell (World.block_lt_of_cell? w _ hx206_4)).trans hx206_4
           replace hx206_5 := (HB.out.cell (World.block_lt_of_cell? w _ hx206_5)).trans hx206_5
           replace hx206_6 := (HB.out.cell (World.block_lt_of_cell? w _ hx206_6)).trans hx206_6
           replace p206 := eq_true p206
           replace q206 := eq_true q206
           have p207 : 0 ≤ (x6_2 : Int) := odt_
           have q207 : x6_2 < (t194.length : Int) := odt_
           obtain ⟨ad207, e207, hx207_0⟩ := Kd.at_int (Kd.R_reads' HO_3.out).2.2 x6_2 p207 q207
           obtain rfl : ad203 = ad207 := (by injection e207)
           replace p207 := eq_true p207
           replace q207 := eq_true q207
           have p208 : 0 ≤ ((rd t194 x6_2) : Int) := odt_
           have q208 : (rd t194 x6_2) < (l0_0.length : Int) := odt_
           obtain ⟨ad208, e208, hx208_0, hx208_1, hx208_2, hx208_3, hx208_4, hx208_5, hx208_6⟩ := at_T72 HR0_0.out (rd t194 x6_2) p208 q208
           have hw208_6 := hx208_6
           have hw208_5 := hx208_5
           have hw208_4 := hx208_4
           have hw208_3 := hx208_3
           have hw208_2 := hx208_2
           have hw208_1 := hx208_1
           have hw208_0 := hx208_0
           (try rw [← Nbq39.out] at hx208_0)
           (try rw [← Nbq39.out] at hw208_0)
           obtain rfl : ad206 = ad208 := (by injection e208)
           replace hx208_0 := (HB.out.cell (World.block_lt_of_cell? w _ hx208_0)).trans hx208_0
           replace hx208_1 := (HB.out.cell (World.block_lt_of_cell? w _ hx208_1)).trans hx208_1
           replace hx208_2 := (HB.out.cell (World.block_lt_of_cell? w _ hx208_2)).trans hx208_2
           replace hx208_3 := (HB.out.cell (World.block_lt_of_cell? w _ hx208_3)).trans hx208_3
           replace hx208_4 := (HB.out.cell (World.block_lt_of_cell? w _ hx208_4)).trans hx208_4
           replace hx208_5 := (HB.out.cell (World.block_lt_of_cell? w _ hx208_5)).trans hx208_5
           replace hx208_6 := (HB.out.cell (World.block_lt_of_cell? w _ hx208_6)).trans hx208_6
           replace p208 := eq_true p208
           replace q208 := eq_true q208
           refine start_ (n := 32) (S := fun w' => w'.cell? ⟨gb188, 0, none⟩ = some (.slice (some ad206) l0_0.length c0_0) ∧ w'.cell? (ad203.add (x6_2).toNat) = some (.int .i64 (rd t194 x6_2)) ∧ w'.cell? (ad204.add ((rd t194 x6_2)).toNat) = some (.bool false) ∧ w'.cell? (ad206.add (((rd t194 x6_2)).toNat * 7)) = some (.bool true) ∧ w'.cell? ⟨(ad206.add (((rd t194 x6_2)).toNat * 7)).block, (ad206.add (((rd t194 x6_2)).toNat * 7)).off + 1, none⟩ = some (.int .i64 ((rd_T72 l0_0 (rd t194 x6_2)).f1)) ∧ w'.cell? ⟨(ad206.add (((rd t194 x6_2)).toNat * 7)).block, (ad206.add (((rd t194 x6_2)).toNat * 7)).off + 2, none⟩ = some (.int .i64 ((rd_T72 l0_0 (rd t194 x6_2)).f2)) ∧ w'.cell? ⟨(ad206.add (((rd t194 x6_2)).toNat * 7)).block, (ad206.add (((rd t194 x6_2)).toNat * 7)).off + 3, none⟩ = some (.int .i64 ((rd_T72 l0_0 (rd t194 x6_2)).f3)) ∧ w'.cell? ⟨(ad206.add (((rd t194 x6_2)).toNat * 7)).block, (ad206.add (((rd t194 x6_2)).toNat * 7)).off + 4, none⟩ = some (.int .i64 ((rd_T72 l0_0 (rd t194 x6_2)).f4)) ∧ w'.cell? ⟨(ad206.add (((rd t194 x6_2)).toNat * 7)).block, (ad206.add (((rd t194 x6_2)).toNat * 7)).off + 5, none⟩ = some (.int .i64 ((rd_T72 l0_0 (rd t194 x6_2)).f5)) ∧ w'.cell? ⟨(ad206.add (((rd t194 x6_2)).toNat * 7)).block, (ad206.add (((rd t194 x6_2)).toNat * 7)).off + 6, none⟩ = some (.int .i64 ((rd_T72 l0_0 (rd t194 x6_2)).f6)) ∧ w'.cell? (ad206.add (((rd t194 x6_2)).toNat * 7)) = some (.bool (true))) (ds := []) (fl_ 32 0) (by kernel_rfl) rfl (fl_zero _) ⟨(blk_cell BK188.out 0).trans rfl, hx203_0, hx204_0, ((HB.out.cell (World.block_lt_of_cell? w _ hw206_0)).trans hw206_0), ((HB.out.cell (World.block_lt_of_cell? w _ hw206_1)).trans hw206_1), ((HB.out.cell (World.block_lt_of_cell? w _ hw206_2)).trans hw206_2), ((HB.out.cell (World.block_lt_of_cell? w _ hw206_3)).trans hw206_3), ((HB.out.cell (World.block_lt_of_cell? w _ hw206_4)).trans hw206_4), ((HB.out.cell (World.block_lt_of_cell? w _ hw206_5)).trans hw206_5), ((HB.out.cell (World.block_lt_of_cell? w _ hw206_6)).trans hw206_6), ((HB.out.cell (World.block_lt_of_cell? w _ hw208_0)).trans hw208_0)⟩ (fun hHeld => ?_); refine with_tabW spec_DomOk.tab10 spec_DomOk.bits10 (fun HT_ HW_ => ?_)
           generalize wr.drew = w48 at HO_3 HO_5 BK188 HB hx203_0 hx204_0 hx205_0 hx206_0 hx206_1 hx206_2 hx206_3 hx206_4 hx206_5 hx206_6 hx207_0 hx208_0 hx208_1 hx208_2 hx208_3 hx208_4 hx208_5 hx208_6 hHeld ⊢
           iterate 4 refine zp_ HT_ rfl rfl (by kernel_rfl) (fun _ _ _ h => h) (by rfl) ?_
           refine zt_ HT_ HW_ rfl rfl (by kernel_rfl) (fun _ _ _ h => h) (by rfl) hHeld ?_ z70_
           refine zp_ HT_ rfl rfl (by kernel_rfl) (fun _ _ _ h => h) (by rfl) ?_
           refine zt_ HT_ HW_ rfl rfl (by kernel_rfl) (fun _ _ _ h => h) (by rfl) hHeld ?_ z70_
           iterate 2 refine zp_ HT_ rfl rfl (by kernel_rfl) (fun _ _ _ h => h) (by rfl) ?_
           refine zpg_ (i := 10) (ra_ [9, 1, 1, 21]) HT_ rfl rfl (by kernel_rfl) (fun _ _ _ h => h) (by rfl) ?_
           refine zpg_ (i := 11) (ra_ [9, 1, 2, 20]) HT_ rfl rfl (by kernel_rfl) (fun _ _ _ h => h) (by rfl) ?_
           refine zpg_ (i := 12) (ra_ [9, 1, 3, 19]) HT_ rfl rfl (by kernel_rfl) (fun _ _ _ h => h) (by rfl) ?_
           refine ztg_ (i := 9) (fl_ 32 13) HT_ HW_ rfl rfl (by kernel_rfl) (fun _ _ _ h => h) (by rfl) hHeld ?_ z70_
           refine zt_ HT_ HW_ rfl rfl (by kernel_rfl) (fun _ _ _ h => h) (by rfl) hHeld ?_ z70_
           iterate 2 refine zp_ HT_ rfl rfl (by kernel_rfl) (fun _ _ _ h => h) (by rfl) ?_
           refine zt_ HT_ HW_ rfl rfl (by kernel_rfl) (fun _ _ _ h => h) (by rfl) hHeld ?_ z70_
           iterate 4 refine zp_ HT_ rfl rfl (by kernel_rfl) (fun _ _ _ h => h) (by rfl) ?_
           refine zpg_ (i := 22) (ra_ [21, 1, 1, 9]) HT_ rfl rfl (by kernel_rfl) (fun _ _ _ h => h) (by rfl) ?_
           refine zpg_ (i := 23) (ra_ [21, 1, 2, 8]) HT_ rfl rfl (by kernel_rfl) (fun _ _ _ h => h) (by rfl) ?_
           refine zpg_ (i := 24) (ra_ [21, 1, 3, 7]) HT_ rfl rfl (by kernel_rfl) (fun _ _ _ h => h) (by rfl) ?_
           refine ztg_ (i := 21) (fl_ 32 25) HT_ HW_ rfl rfl (by kernel_rfl) (fun _ _ _ h => h) (by rfl) hHeld ?_ z70_
           refine zt_ HT_ HW_ rfl rfl (by kernel_rfl) (fun _ _ _ h => h) (by rfl) hHeld ?_ z70_
           iterate 2 refine zp_ HT_ rfl rfl (by kernel_rfl) (fun _ _ _ h => h) (by rfl) ?_
           refine zt_ HT_ HW_ rfl rfl (by kernel_rfl) (fun _ _ _ h => h) (by rfl) hHeld ?_ z70_
           refine one_ (i := 29) (N := some 92) (fl_ 32 30) rfl rfl (one_of HT_.out (by kernel_rfl)) (by decide) (fun K hK => ?_)
           refine goes_ Try.func57 (by kernel_rfl) rfl #[.int .i64 ((rd_T72 l0_0 (rd t194 x6_2)).f1)] (by rfl) rfl rfl z2_ ?_
           with_reducible refine (spec_LabelOk.calls ((rd_T72 l0_0 (rd t194 x6_2)).f1) false _ A41.out).mono ?_
           rintro e w' ⟨rfl, ⟨nd, rfl⟩⟩
           refine ⟨_, rfl, ?_⟩
           refine hK.out _ _ ⟨(blk_cell BK188.out 0).trans rfl, hHeld.2.1, hHeld.2.2.1, ((HB.out.cell (World.block_lt_of_cell? w _ hw206_0)).trans hw206_0), ((HB.out.cell (World.block_lt_of_cell? w _ hw206_1)).trans hw206_1), ((HB.out.cell (World.block_lt_of_cell? w _ hw206_2)).trans hw206_2), ((HB.out.cell (World.block_lt_of_cell? w _ hw206_3)).trans hw206_3), ((HB.out.cell (World.block_lt_of_cell? w _ hw206_4)).trans hw206_4), ((HB.out.cell (World.block_lt_of_cell? w _ hw206_5)).trans hw206_5), ((HB.out.cell (World.block_lt_of_cell? w _ hw206_6)).trans hw206_6), ((HB.out.cell (World.block_lt_of_cell? w _ hw208_0)).trans hw208_0)⟩ (fun hHeld => ?_)
           clear hK K
           refine zn_ rfl ?_
           iterate 2 refine zp_ HT_ rfl rfl (by kernel_rfl) (fun _ _ _ h => h) (by rfl) ?_
           refine done_ (done_of HT_.out (by kernel_rfl)) ?_
           try go_wp2
           go_ret
           exact ⟨z4_, z20_⟩
         ·replace c40 := Bool.eq_false_iff.mpr c40
          subst c40
          replace H := iff_ H
          obtain rfl := Option.some.inj H
          try go_wp2
          have n0_ := Aside0.mk (Kd.R_drew HO_3.out)
          have n1_ := Aside0.mk (Kd.R_drew HO_5.out)
          have n2_ := Aside0.mk (blk_drew BK188.out)
          have n3_ := Aside0.mk (below_drew1 HB.out)
          clear HO_3
          clear HO_5
          clear BK188
          clear HB
          have HO_3 := n0_
          have HO_5 := n1_
          have BK188 := n2_
          have HB := n3_
          clear n0_ n1_ n2_ n3_
          have p203 : 0 ≤ (x6_2 : Int) := odt_
          have q203 : x6_2 < (t194.length : Int) := odt_
          obtain ⟨ad203, e203, hx203_0⟩ := Kd.at_int (Kd.R_reads' HO_3.out).2.2 x6_2 p203 q203
          cases e203
          replace p203 := eq_true p203
          replace q203 := eq_true q203
          obtain ⟨Ao51, co51, eo51⟩ := Kd.R_slice HO_5.out
          (subst eo51)
          have p204 : 0 ≤ ((rd t194 x6_2) : Int) := odt_
          have q204 : (rd t194 x6_2) < (x5_2.length : Int) := odt_
          obtain ⟨ad204, e204, hx204_0⟩ := Kd.at_bool (Kd.R_reads' HO_5.out).2.2 (rd t194 x6_2) p204 q204
          (try rw [← Nbq34.out] at hx204_0)
          cases e204
          replace p204 := eq_true p204
          replace q204 := eq_true q204
          have p205 : 0 ≤ (x6_2 : Int) := odt_
          have q205 : x6_2 < (t194.length : Int) := odt_
          obtain ⟨ad205, e205, hx205_0⟩ := Kd.at_int (Kd.R_reads' HO_3.out).2.2 x6_2 p205 q205
          obtain rfl : ad203 = ad205 := (by injection e205)
          replace p205 := eq_true p205
          replace q205 := eq_true q205
          have p206 : 0 ≤ ((rd t194 x6_2) : Int) := odt_
          have q206 : (rd t194 x6_2) < (l0_0.length : Int) := odt_
          obtain ⟨ad206, e206, hx206_0, hx206_1, hx206_2, hx206_3, hx206_4, hx206_5, hx206_6⟩ := at_T72 HR0_0.out (rd t194 x6_2) p206 q206
          have hw206_6 := hx206_6
          have hw206_5 := hx206_5
          have hw206_4 := hx206_4
          have hw206_3 := hx206_3
          have hw206_2 := hx206_2
          have hw206_1 := hx206_1
          have hw206_0 := hx206_0
          (try rw [← Nbq39.out] at hx206_0)
          (try rw [← Nbq39.out] at hw206_0)
          cases e206
          replace hx206_0 := (HB.out.cell (World.block_lt_of_cell? w _ hx206_0)).trans hx206_0
          replace hx206_1 := (HB.out.cell (World.block_lt_of_cell? w _ hx206_1)).trans hx206_1
          replace hx206_2 := (HB.out.cell (World.block_lt_of_cell? w _ hx206_2)).trans hx206_2
          replace hx206_3 := (HB.out.cell (World.block_lt_of_cell? w _ hx206_3)).trans hx206_3
          replace hx206_4 := (HB.out.cell (World.block_lt_of_cell? w _ hx206_4)).trans hx206_4
          replace hx206_5 := (HB.out.cell (World.block_lt_of_cell? w _ hx206_5)).trans hx206_5
          replace hx206_6 := (HB.out.cell (World.block_lt_of_cell? w _ hx206_6)).trans hx206_6
          replace p206 := eq_true p206
          replace q206 := eq_true q206
          refine start_ (n := 32) (S := fun w' => w'.cell? ⟨gb188, 0, none⟩ = some (.slice (some ad206) l0_0.length c0_0) ∧ w'.cell? (ad203.add (x6_2).toNat) = some (.int .i64 (rd t194 x6_2)) ∧ w'.cell? (ad204.add ((rd t194 x6_2)).toNat) = some (.bool false) ∧ w'.cell? (ad206.add (((rd t194 x6_2)).toNat * 7)) = some (.bool false) ∧ w'.cell? ⟨(ad206.add (((rd t194 x6_2)).toNat * 7)).block, (ad206.add (((rd t194 x6_2)).toNat * 7)).off + 1, none⟩ = some (.int .i64 ((rd_T72 l0_0 (rd t194 x6_2)).f1)) ∧ w'.cell? ⟨(ad206.add (((rd t194 x6_2)).toNat * 7)).block, (ad206.add (((rd t194 x6_2)).toNat * 7)).off + 2, none⟩ = some (.int .i64 ((rd_T72 l0_0 (rd t194 x6_2)).f2)) ∧ w'.cell? ⟨(ad206.add (((rd t194 x6_2)).toNat * 7)).block, (ad206.add (((rd t194 x6_2)).toNat * 7)).off + 3, none⟩ = some (.int .i64 ((rd_T72 l0_0 (rd t194 x6_2)).f3)) ∧ w'.cell? ⟨(ad206.add (((rd t194 x6_2)).toNat * 7)).block, (ad206.add (((rd t194 x6_2)).toNat * 7)).off + 4, none⟩ = some (.int .i64 ((rd_T72 l0_0 (rd t194 x6_2)).f4)) ∧ w'.cell? ⟨(ad206.add (((rd t194 x6_2)).toNat * 7)).block, (ad206.add (((rd t194 x6_2)).toNat * 7)).off + 5, none⟩ = some (.int .i64 ((rd_T72 l0_0 (rd t194 x6_2)).f5)) ∧ w'.cell? ⟨(ad206.add (((rd t194 x6_2)).toNat * 7)).block, (ad206.add (((rd t194 x6_2)).toNat * 7)).off + 6, none⟩ = some (.int .i64 ((rd_T72 l0_0 (rd t194 x6_2)).f6))) (ds := []) (fl_ 32 0) (by kernel_rfl) rfl (fl_zero _) ⟨(blk_cell BK188.out 0).trans rfl, hx203_0, hx204_0, ((HB.out.cell (World.block_lt_of_cell? w _ hw206_0)).trans hw206_0), ((HB.out.cell (World.block_lt_of_cell? w _ hw206_1)).trans hw206_1), ((HB.out.cell (World.block_lt_of_cell? w _ hw206_2)).trans hw206_2), ((HB.out.cell (World.block_lt_of_cell? w _ hw206_3)).trans hw206_3), ((HB.out.cell (World.block_lt_of_cell? w _ hw206_4)).trans hw206_4), ((HB.out.cell (World.block_lt_of_cell? w _ hw206_5)).trans hw206_5), ((HB.out.cell (World.block_lt_of_cell? w _ hw206_6)).trans hw206_6)⟩ (fun hHeld => ?_); refine with_tabW spec_DomOk.tab10 spec_DomOk.bits10 (fun HT_ HW_ => ?_)
          generalize wr.drew = w50 at HO_3 HO_5 BK188 HB hx203_0 hx204_0 hx205_0 hx206_0 hx206_1 hx206_2 hx206_3 hx206_4 hx206_5 hx206_6 hHeld ⊢
          iterate 4 refine zp_ HT_ rfl rfl (by kernel_rfl) (fun _ _ _ h => h) (by rfl) ?_
          refine zt_ HT_ HW_ rfl rfl (by kernel_rfl) (fun _ _ _ h => h) (by rfl) hHeld ?_ z196_
          refine zp_ HT_ rfl rfl (by kernel_rfl) (fun _ _ _ h => h) (by rfl) ?_
          refine zt_ HT_ HW_ rfl rfl (by kernel_rfl) (fun _ _ _ h => h) (by rfl) hHeld ?_ z196_
          iterate 2 refine zp_ HT_ rfl rfl (by kernel_rfl) (fun _ _ _ h => h) (by rfl) ?_
          refine zpg_ (i := 10) (ra_ [9, 1, 1, 21]) HT_ rfl rfl (by kernel_rfl) (fun _ _ _ h => h) (by rfl) ?_
          refine zpg_ (i := 11) (ra_ [9, 1, 2, 20]) HT_ rfl rfl (by kernel_rfl) (fun _ _ _ h => h) (by rfl) ?_
          refine zpg_ (i := 12) (ra_ [9, 1, 3, 19]) HT_ rfl rfl (by kernel_rfl) (fun _ _ _ h => h) (by rfl) ?_
          refine ztg_ (i := 9) (fl_ 32 13) HT_ HW_ rfl rfl (by kernel_rfl) (fun _ _ _ h => h) (by rfl) hHeld ?_ z196_
          refine zt_ HT_ HW_ rfl rfl (by kernel_rfl) (fun _ _ _ h => h) (by rfl) hHeld ?_ z196_
          iterate 2 refine zp_ HT_ rfl rfl (by kernel_rfl) (fun _ _ _ h => h) (by rfl) ?_
          refine zt_ HT_ HW_ rfl rfl (by kernel_rfl) (fun _ _ _ h => h) (by rfl) hHeld ?_ z196_
          iterate 3 refine zp_ HT_ rfl rfl (by kernel_rfl) (fun _ _ _ h => h) (by rfl) ?_
          iterate 11 refine zu_ HT_ rfl rfl (by kernel_rfl) (fun _ _ _ h => h) (by rfl) ?_
          refine zp_ HT_ rfl rfl (by kernel_rfl) (fun _ _ _ h => h) (by rfl) ?_
          refine done_ (done_of HT_.out (by kernel_rfl)) ?_
          try go_wp2
          go_ret
          exact ⟨z4_, z20_⟩
       ·rw [if_neg c30] at H
        have c30b0 := decide_eq_false c30
        clear c30
        have H' := Aside0.mk H
        clear H
        go_wp2
        go_loopg [7] k2 (fun kq v7 w' => ∃ (x7_3 : Int), v7 = .int .i64 x7_3 ∧ Aside0 (spec_DomOk.l1 kq x5_2 x7_3 l0_0 = some r) ∧ Aside0 (kq ≤ k2) ∧ Aside0 (Kd.R Kd.bool 4 w' w.heap.size (fun _ => True) v201 x5_2) ∧ Aside0 (w'.heap[gb188]? = some (.cells #[(.slice A0_0 l0_0.length c0_0)] 28 (0, 0))) ∧ Aside0 (Below w.heap.size w w'))
        case atStart => exact ⟨(0), z17_, H', ⟨Nat.le_refl _⟩, ⟨z82_⟩, ⟨z55_⟩, ⟨z20_⟩⟩
        case round =>
         clear H' c30b0
         obtain ⟨x7_3, rfl, HA, HK3, HO_5, BK188, HB⟩ := hrel
         cases gk with
         | zero => exact absurd HA.out (by simp [spec_DomOk.l1])
         | succ k3 =>
          have H := HA.out
          clear HA
          simp only [spec_DomOk.l1] at H
          by_cases c52 : x7_3 < (l0_0.length : Int)
          ·rw [if_pos c52] at H
           have c52b0 := decide_eq_true c52
           clear c52
           obtain ⟨c53b0, H⟩ := ifd_ H
           obtain ⟨c54b0, H⟩ := ifd_ H
           obtain ⟨bq55, hbq55⟩ : ∃ b_ : Bool, b_ = (rdOf false x5_2 x7_3) := ⟨_, rfl⟩
           replace H : (if bq55 = true then ((spec_l16Links.f k3 l0_0 x7_3).bind fun t214 => (if t214 = true then (spec_DomOk.l1 k3 x5_2 (wrap64 (x7_3 + 1)) l0_0) else (some false))) else ((spec_l16Empty.f).bind fun bt216 => (if (!(((rd_T72 l0_0 x7_3).f0) == bt216.1) || (!(((rd_T72 l0_0 x7_3).f1) == bt216.2.1) || (!(((rd_T72 l0_0 x7_3).f2) == bt216.2.2.1) || (!(((rd_T72 l0_0 x7_3).f3) == bt216.2.2.2.1) || (!(((rd_T72 l0_0 x7_3).f4) == bt216.2.2.2.2.1) || (!(((rd_T72 l0_0 x7_3).f5) == bt216.2.2.2.2.2.1) || (!(((rd_T72 l0_0 x7_3).f6) == bt216.2.2.2.2.2.2)))))))) = true then (some false) else (spec_DomOk.l1 k3 x5_2 (wrap64 (x7_3 + 1)) l0_0)))) = some r := by rw [← hbq55] at H; exact H
           have Nbq55 := Aside0.mk hbq55
           clear hbq55
           by_cases c56 : bq55 = true
           ·subst c56
            replace H := ift_ H
            obtain ⟨t214, A57, H⟩ := bnd_ H
            by_cases c58 : t214 = true
            ·subst c58
             replace H := ift_ H
             have H' := Aside0.mk H
             clear H
             have hcz59_0 : wr.cell? ⟨gb188, 0, none⟩ = some (.slice A0_0 l0_0.length c0_0) := (blk_cell BK188.out 0).trans rfl
             have hfz59_0 := blk_frozen BK188.out 0
             try go_wp2
             have n0_ := Aside0.mk (Kd.R_drew HO_5.out)
             have n1_ := Aside0.mk (blk_drew BK188.out)
             have n2_ := Aside0.mk (below_drew1 HB.out)
             clear HO_5
             clear BK188
             clear HB
             have HO_5 := n0_
             have BK188 := n1_
             have HB := n2_
             clear n0_ n1_ n2_
             obtain ⟨Ao61, co61, eo61⟩ := Kd.R_slice HO_5.out
             (subst eo61)
             have p212 : 0 ≤ (x7_3 : Int) := odt_
             have q212 : x7_3 < (x5_2.length : Int) := odt_
             obtain ⟨ad212, e212, hx212_0⟩ := Kd.at_bool (Kd.R_reads' HO_5.out).2.2 x7_3 p212 q212
             (try rw [← Nbq55.out] at hx212_0)
             cases e212
             replace p212 := eq_true p212
             replace q212 := eq_true q212
             have p213 : 0 ≤ (x7_3 : Int) := odt_
             have q213 : x7_3 < (x5_2.length : Int) := odt_
             obtain ⟨ad213, e213, hx213_0⟩ := Kd.at_bool (Kd.R_reads' HO_5.out).2.2 x7_3 p213 q213
             (try rw [← Nbq55.out] at hx213_0)
             obtain rfl : ad212 = ad213 := (by injection e213)
             replace p213 := eq_true p213
             replace q213 := eq_true q213
             refine start_ (n := 26) (S := fun w' => w'.cell? ⟨gb188, 0, none⟩ = some (.slice A0_0 l0_0.length c0_0) ∧ w'.cell? (ad212.add (x7_3).toNat) = some (.bool true) ∧ w'.cell? (ad212.add (x7_3).toNat) = some (.bool (true))) (ds := []) (fl_ 26 0) (by kernel_rfl) rfl (fl_zero _) ⟨(blk_cell BK188.out 0).trans rfl, hx212_0, hx213_0⟩ (fun hHeld => ?_); refine with_tabW spec_DomOk.tab16 spec_DomOk.bits16 (fun HT_ HW_ => ?_)
             generalize wr.drew = w60 at HO_5 BK188 HB hx212_0 hx213_0 hHeld ⊢
             iterate 3 refine zp_ HT_ rfl rfl (by kernel_rfl) (fun _ _ _ h => h) (by rfl) ?_
             refine zt_ HT_ HW_ rfl rfl (by kernel_rfl) (fun _ _ _ h => h) (by rfl) hHeld ?_ z242_
             iterate 2 refine zp_ HT_ rfl rfl (by kernel_rfl) (fun _ _ _ h => h) (by rfl) ?_
             iterate 7 refine zu_ HT_ rfl rfl (by kernel_rfl) (fun _ _ _ h => h) (by rfl) ?_
             iterate 5 refine zp_ HT_ rfl rfl (by kernel_rfl) (fun _ _ _ h => h) (by rfl) ?_
             refine zt_ HT_ HW_ rfl rfl (by kernel_rfl) (fun _ _ _ h => h) (by rfl) hHeld ?_ z242_
             refine zp_ HT_ rfl rfl (by kernel_rfl) (fun _ _ _ h => h) (by rfl) ?_
             refine zpg_ (i := 21) (ra_ [20, 1, 1, 4]) HT_ rfl rfl (by kernel_rfl) (fun _ _ _ h => h) (by rfl) ?_
             refine ztg_ (i := 20) (fl_ 26 22) HT_ HW_ rfl rfl (by kernel_rfl) (fun _ _ _ h => h) (by rfl) hHeld ?_ z242_
             refine one_ (i := 22) (N := some 130) (fl_ 26 23) rfl rfl (one_of HT_.out (by kernel_rfl)) (by decide) (fun K hK => ?_)
             refine goes_ Try.func63 (by kernel_rfl) rfl #[.agg #[.slice A0_0 l0_0.length c0_0], .int .i64 x7_3] (by rfl) rfl rfl z2_ ?_
             with_reducible refine (spec_l16Links.calls k3 _ _ l0_0 x7_3 true _ ?side1 ?side2 A57.out).mono ?_
             (case side1 => exact z9_)
             (case side2 => exact HC0_0.out)
             rintro e w62 ⟨rfl, hb⟩
             have HS1_ := (hb.cell (World.block_lt_of_cell? _ _ (hHeld.2.1))).trans (hHeld.2.1)
             have HS2_ := (hb.cell (World.block_lt_of_cell? _ _ (hHeld.2.2))).trans (hHeld.2.2)
             refine ⟨_, rfl, ?_⟩
             have n0_ := Aside0.mk (Kd.R_below z82_ hb)
             have n1_ := Aside0.mk (blk_below (g := gb188) (o := .cells #[.slice A0_0 l0_0.length c0_0] 28 (0, 0)) z55_ hb)
             have n2_ := Aside0.mk (below_step z20_ hb)
             clear HO_5
             clear BK188
             clear HB
             have HO_5 := n0_
             have BK188 := n1_
             have HB := n2_
             clear n0_ n1_ n2_
             (try clear hb)
             refine hK.out _ _ ⟨(blk_cell BK188.out 0).trans rfl, HS1_, HS2_⟩ (fun hHeld => ?_)
             clear hK K
             refine zn_ rfl ?_
             iterate 3 refine zp_ HT_ rfl rfl (by kernel_rfl) (fun _ _ _ h => h) (by rfl) ?_
             refine done_ (done_of HT_.out (by kernel_rfl)) ?_
             try go_wp2
             go_roundg k3
             case measure => have := HJ1.out; have := HK2.out; have := HK3.out; omega
             case rel => exact ⟨(wrap64 (x7_3 + 1)), z17_, H', ⟨by have := HJ1.out; have := HK2.out; have := HK3.out; omega⟩, ⟨z82_⟩, ⟨z55_⟩, ⟨z20_⟩⟩
            ·replace c58 := Bool.eq_false_iff.mpr c58
             subst c58
             replace H := iff_ H
             obtain rfl := Option.some.inj H
             have hcz63_0 : wr.cell? ⟨gb188, 0, none⟩ = some (.slice A0_0 l0_0.length c0_0) := (blk_cell BK188.out 0).trans rfl
             have hfz63_0 := blk_frozen BK188.out 0
             try go_wp2
             have n0_ := Aside0.mk (Kd.R_drew HO_5.out)
             have n1_ := Aside0.mk (blk_drew BK188.out)
             have n2_ := Aside0.mk (below_drew1 HB.out)
             clear HO_5
             clear BK188
             clear HB
             have HO_5 := n0_
             have BK188 := n1_
             have HB := n2_
             clear n0_ n1_ n2_
             obtain ⟨Ao65, co65, eo65⟩ := Kd.R_slice HO_5.out
             (subst eo65)
             have p212 : 0 ≤ (x7_3 : Int) := odt_
             have q212 : x7_3 < (x5_2.length : Int) := odt_
             obtain ⟨ad212, e212, hx212_0⟩ := Kd.at_bool (Kd.R_reads' HO_5.out).2.2 x7_3 p212 q212
             (try rw [← Nbq55.out] at hx212_0)
             cases e212
             replace p212 := eq_true p212
             replace q212 := eq_true q212
             have p213 : 0 ≤ (x7_3 : Int) := odt_
             have q213 : x7_3 < (x5_2.length : Int) := odt_
             obtain ⟨ad213, e213, hx213_0⟩ := Kd.at_bool (Kd.R_reads' HO_5.out).2.2 x7_3 p213 q213
             (try rw [← Nbq55.out] at hx213_0)
             obtain rfl : ad212 = ad213 := (by injection e213)
             replace p213 := eq_true p213
             replace q213 := eq_true q213
             refine start_ (n := 26) (S := fun w' => w'.cell? ⟨gb188, 0, none⟩ = some (.slice A0_0 l0_0.length c0_0) ∧ w'.cell? (ad212.add (x7_3).toNat) = some (.bool true) ∧ w'.cell? (ad212.add (x7_3).toNat) = some (.bool (true))) (ds := []) (fl_ 26 0) (by kernel_rfl) rfl (fl_zero _) ⟨(blk_cell BK188.out 0).trans rfl, hx212_0, hx213_0⟩ (fun hHeld => ?_); refine with_tabW spec_DomOk.tab16 spec_DomOk.bits16 (fun HT_ HW_ => ?_)
             generalize wr.drew = w64 at HO_5 BK188 HB hx212_0 hx213_0 hHeld ⊢
             iterate 3 refine zp_ HT_ rfl rfl (by kernel_rfl) (fun _ _ _ h => h) (by rfl) ?_
             refine zt_ HT_ HW_ rfl rfl (by kernel_rfl) (fun _ _ _ h => h) (by rfl) hHeld ?_ z242_
             iterate 2 refine zp_ HT_ rfl rfl (by kernel_rfl) (fun _ _ _ h => h) (by rfl) ?_
             iterate 7 refine zu_ HT_ rfl rfl (by kernel_rfl) (fun _ _ _ h => h) (by rfl) ?_
             iterate 5 refine zp_ HT_ rfl rfl (by kernel_rfl) (fun _ _ _ h => h) (by rfl) ?_
             refine zt_ HT_ HW_ rfl rfl (by kernel_rfl) (fun _ _ _ h => h) (by rfl) hHeld ?_ z242_
             refine zp_ HT_ rfl rfl (by kernel_rfl) (fun _ _ _ h => h) (by rfl) ?_
             refine zpg_ (i := 21) (ra_ [20, 1, 1, 4]) HT_ rfl rfl (by kernel_rfl) (fun _ _ _ h => h) (by rfl) ?_
             refine ztg_ (i := 20) (fl_ 26 22) HT_ HW_ rfl rfl (by kernel_rfl) (fun _ _ _ h => h) (by rfl) hHeld ?_ z242_
             refine one_ (i := 22) (N := some 130) (fl_ 26 23) rfl rfl (one_of HT_.out (by kernel_rfl)) (by decide) (fun K hK => ?_)
             refine goes_ Try.func63 (by kernel_rfl) rfl #[.agg #[.slice A0_0 l0_0.length c0_0], .int .i64 x7_3] (by rfl) rfl rfl z2_ ?_
             with_reducible refine (spec_l16Links.calls k3 _ _ l0_0 x7_3 false _ ?side1 ?side2 A57.out).mono ?_
             (case side1 => exact z9_)
             (case side2 => exact HC0_0.out)
             rintro e w66 ⟨rfl, hb⟩
             have HS1_ := (hb.cell (World.block_lt_of_cell? _ _ (hHeld.2.1))).trans (hHeld.2.1)
             have HS2_ := (hb.cell (World.block_lt_of_cell? _ _ (hHeld.2.2))).trans (hHeld.2.2)
             refine ⟨_, rfl, ?_⟩
             have n0_ := Aside0.mk (Kd.R_below z82_ hb)
             have n1_ := Aside0.mk (blk_below (g := gb188) (o := .cells #[.slice A0_0 l0_0.length c0_0] 28 (0, 0)) z55_ hb)
             have n2_ := Aside0.mk (below_step z20_ hb)
             clear HO_5
             clear BK188
             clear HB
             have HO_5 := n0_
             have BK188 := n1_
             have HB := n2_
             clear n0_ n1_ n2_
             (try clear hb)
             refine hK.out _ _ ⟨(blk_cell BK188.out 0).trans rfl, HS1_, HS2_⟩ (fun hHeld => ?_)
             clear hK K
             refine zn_ rfl ?_
             iterate 3 refine zp_ HT_ rfl rfl (by kernel_rfl) (fun _ _ _ h => h) (by rfl) ?_
             refine done_ (done_of HT_.out (by kernel_rfl)) ?_
             try go_wp2
             go_ret
             exact ⟨z4_, z20_⟩
           ·replace c56 := Bool.eq_false_iff.mpr c56
            subst c56
            replace H := iff_ H
            replace H := Option.bind_eq_some_iff.mp H
            obtain ⟨⟨t216, t217, t218, t219, t220, t221, t222⟩, A670, H⟩ := H
            try dsimp only at H
            have A67 := Aside0.mk A670
            clear A670
            by_cases c68 : (!(((rd_T72 l0_0 x7_3).f0) == t216) || (!(((rd_T72 l0_0 x7_3).f1) == t217) || (!(((rd_T72 l0_0 x7_3).f2) == t218) || (!(((rd_T72 l0_0 x7_3).f3) == t219) || (!(((rd_T72 l0_0 x7_3).f4) == t220) || (!(((rd_T72 l0_0 x7_3).f5) == t221) || (!(((rd_T72 l0_0 x7_3).f6) == t222)))))))) = true
            ·rw [if_pos c68] at H
             have c68b0 : (!(((rd_T72 l0_0 x7_3).f0) == t216) || (!(((rd_T72 l0_0 x7_3).f1) == t217) || (!(((rd_T72 l0_0 x7_3).f2) == t218) || (!(((rd_T72 l0_0 x7_3).f3) == t219) || (!(((rd_T72 l0_0 x7_3).f4) == t220) || (!(((rd_T72 l0_0 x7_3).f5) == t221) || (!(((rd_T72 l0_0 x7_3).f6) == t222)))))))) = true := c68
             clear c68
             obtain rfl := Option.some.inj H
             have hcz69_0 : wr.cell? ⟨gb188, 0, none⟩ = some (.slice A0_0 l0_0.length c0_0) := (blk_cell BK188.out 0).trans rfl
             have hfz69_0 := blk_frozen BK188.out 0
             try go_wp2
             have n0_ := Aside0.mk (Kd.R_drew HO_5.out)
             have n1_ := Aside0.mk (blk_drew BK188.out)
             have n2_ := Aside0.mk (below_drew1 HB.out)
             clear HO_5
             clear BK188
             clear HB
             have HO_5 := n0_
             have BK188 := n1_
             have HB := n2_
             clear n0_ n1_ n2_
             obtain ⟨Ao71, co71, eo71⟩ := Kd.R_slice HO_5.out
             (subst eo71)
             have p212 : 0 ≤ (x7_3 : Int) := odt_
             have q212 : x7_3 < (x5_2.length : Int) := odt_
             obtain ⟨ad212, e212, hx212_0⟩ := Kd.at_bool (Kd.R_reads' HO_5.out).2.2 x7_3 p212 q212
             (try rw [← Nbq55.out] at hx212_0)
             cases e212
             replace p212 := eq_true p212
             replace q212 := eq_true q212
             have p215 : 0 ≤ (x7_3 : Int) := odt_
             have q215 : x7_3 < (l0_0.length : Int) := odt_
             obtain ⟨ad215, e215, hx215_0, hx215_1, hx215_2, hx215_3, hx215_4, hx215_5, hx215_6⟩ := at_T72 HR0_0.out x7_3 p215 q215
             have hw215_6 := hx215_6
             have hw215_5 := hx215_5
             have hw215_4 := hx215_4
             have hw215_3 := hx215_3
             have hw215_2 := hx215_2
             have hw215_1 := hx215_1
             have hw215_0 := hx215_0
             cases e215
             replace hx215_0 := (HB.out.cell (World.block_lt_of_cell? w _ hx215_0)).trans hx215_0
             replace hx215_1 := (HB.out.cell (World.block_lt_of_cell? w _ hx215_1)).trans hx215_1
             replace hx215_2 := (HB.out.cell (World.block_lt_of_cell? w _ hx215_2)).trans hx215_2
             replace hx215_3 := (HB.out.cell (World.block_lt_of_cell? w _ hx215_3)).trans hx215_3
             replace hx215_4 := (HB.out.cell (World.block_lt_of_cell? w _ hx215_4)).trans hx215_4
             replace hx215_5 := (HB.out.cell (World.block_lt_of_cell? w _ hx215_5)).trans hx215_5
             replace hx215_6 := (HB.out.cell (World.block_lt_of_cell? w _ hx215_6)).trans hx215_6
             replace p215 := eq_true p215
             replace q215 := eq_true q215
             refine start_ (n := 26) (S := fun w' => w'.cell? ⟨gb188, 0, none⟩ = some (.slice (some ad215) l0_0.length c0_0) ∧ w'.cell? (ad212.add (x7_3).toNat) = some (.bool false) ∧ w'.cell? (ad215.add ((x7_3).toNat * 7)) = some (.bool ((rd_T72 l0_0 x7_3).f0)) ∧ w'.cell? ⟨(ad215.add ((x7_3).toNat * 7)).block, (ad215.add ((x7_3).toNat * 7)).off + 1, none⟩ = some (.int .i64 ((rd_T72 l0_0 x7_3).f1)) ∧ w'.cell? ⟨(ad215.add ((x7_3).toNat * 7)).block, (ad215.add ((x7_3).toNat * 7)).off + 2, none⟩ = some (.int .i64 ((rd_T72 l0_0 x7_3).f2)) ∧ w'.cell? ⟨(ad215.add ((x7_3).toNat * 7)).block, (ad215.add ((x7_3).toNat * 7)).off + 3, none⟩ = some (.int .i64 ((rd_T72 l0_0 x7_3).f3)) ∧ w'.cell? ⟨(ad215.add ((x7_3).toNat * 7)).block, (ad215.add ((x7_3).toNat * 7)).off + 4, none⟩ = some (.int .i64 ((rd_T72 l0_0 x7_3).f4)) ∧ w'.cell? ⟨(ad215.add ((x7_3).toNat * 7)).block, (ad215.add ((x7_3).toNat * 7)).off + 5, none⟩ = some (.int .i64 ((rd_T72 l0_0 x7_3).f5)) ∧ w'.cell? ⟨(ad215.add ((x7_3).toNat * 7)).block, (ad215.add ((x7_3).toNat * 7)).off + 6, none⟩ = some (.int .i64 ((rd_T72 l0_0 x7_3).f6))) (ds := []) (fl_ 26 0) (by kernel_rfl) rfl (fl_zero _) ⟨(blk_cell BK188.out 0).trans rfl, hx212_0, ((HB.out.cell (World.block_lt_of_cell? w _ hw215_0)).trans hw215_0), ((HB.out.cell (World.block_lt_of_cell? w _ hw215_1)).trans hw215_1), ((HB.out.cell (World.block_lt_of_cell? w _ hw215_2)).trans hw215_2), ((HB.out.cell (World.block_lt_of_cell? w _ hw215_3)).trans hw215_3), ((HB.out.cell (World.block_lt_of_cell? w _ hw215_4)).trans hw215_4), ((HB.out.cell (World.block_lt_of_cell? w _ hw215_5)).trans hw215_5), ((HB.out.cell (World.block_lt_of_cell? w _ hw215_6)).trans hw215_6)⟩ (fun hHeld => ?_); refine with_tabW spec_DomOk.tab16 spec_DomOk.bits16 (fun HT_ HW_ => ?_)
             generalize wr.drew = w70 at HO_5 BK188 HB hx212_0 hx215_0 hx215_1 hx215_2 hx215_3 hx215_4 hx215_5 hx215_6 hHeld ⊢
             iterate 3 refine zp_ HT_ rfl rfl (by kernel_rfl) (fun _ _ _ h => h) (by rfl) ?_
             refine zt_ HT_ HW_ rfl rfl (by kernel_rfl) (fun _ _ _ h => h) (by rfl) hHeld ?_ z138_
             iterate 3 refine zp_ HT_ rfl rfl (by kernel_rfl) (fun _ _ _ h => h) (by rfl) ?_
             refine zpg_ (i := 8) (ra_ [7, 1, 1, 17]) HT_ rfl rfl (by kernel_rfl) (fun _ _ _ h => h) (by rfl) ?_
             refine ztg_ (i := 7) (fl_ 26 9) HT_ HW_ rfl rfl (by kernel_rfl) (fun _ _ _ h => h) (by rfl) hHeld ?_ z138_
             refine zp_ HT_ rfl rfl (by kernel_rfl) (fun _ _ _ h => h) (by rfl) ?_
             refine zt_ HT_ HW_ rfl rfl (by kernel_rfl) (fun _ _ _ h => h) (by rfl) hHeld ?_ z138_
             refine one_ (i := 11) (N := some 119) (fl_ 26 12) rfl rfl (one_of HT_.out (by kernel_rfl)) (by decide) (fun K hK => ?_)
             refine goes_ Try.func62 (by kernel_rfl) rfl #[] (by rfl) rfl rfl z2_ ?_
             with_reducible refine (spec_l16Empty.calls  t216 t217 t218 t219 t220 t221 t222 _ A67.out).mono ?_
             rintro e w72 ⟨rfl, hb⟩
             have HS1_ := (hb.cell (World.block_lt_of_cell? _ _ (hHeld.2.1))).trans (hHeld.2.1)
             refine ⟨_, rfl, ?_⟩
             have n0_ := Aside0.mk (Kd.R_below z82_ hb)
             have n1_ := Aside0.mk (blk_below (g := gb188) (o := .cells #[.slice (some ad215) l0_0.length c0_0] 28 (0, 0)) z55_ hb)
             have n2_ := Aside0.mk (below_step z20_ hb)
             clear HO_5
             clear BK188
             clear HB
             have HO_5 := n0_
             have BK188 := n1_
             have HB := n2_
             clear n0_ n1_ n2_
             (try clear hb)
             refine hK.out _ _ ⟨(blk_cell BK188.out 0).trans rfl, HS1_, ((HB.out.cell (World.block_lt_of_cell? w _ hw215_0)).trans hw215_0), ((HB.out.cell (World.block_lt_of_cell? w _ hw215_1)).trans hw215_1), ((HB.out.cell (World.block_lt_of_cell? w _ hw215_2)).trans hw215_2), ((HB.out.cell (World.block_lt_of_cell? w _ hw215_3)).trans hw215_3), ((HB.out.cell (World.block_lt_of_cell? w _ hw215_4)).trans hw215_4), ((HB.out.cell (World.block_lt_of_cell? w _ hw215_5)).trans hw215_5), ((HB.out.cell (World.block_lt_of_cell? w _ hw215_6)).trans hw215_6)⟩ (fun hHeld => ?_)
             clear hK K
             refine zn_ rfl ?_
             iterate 3 refine zp_ HT_ rfl rfl (by kernel_rfl) (fun _ _ _ h => h) (by rfl) ?_
             iterate 10 refine zu_ HT_ rfl rfl (by kernel_rfl) (fun _ _ _ h => h) (by rfl) ?_
             refine zp_ HT_ rfl rfl (by kernel_rfl) (fun _ _ _ h => h) (by rfl) ?_
             refine done_ (done_of HT_.out (by kernel_rfl)) ?_
             try go_wp2
             go_ret
             exact ⟨z4_, z20_⟩
            ·rw [if_neg c68] at H
             have c68b0 : (!(((rd_T72 l0_0 x7_3).f0) == t216) || (!(((rd_T72 l0_0 x7_3).f1) == t217) || (!(((rd_T72 l0_0 x7_3).f2) == t218) || (!(((rd_T72 l0_0 x7_3).f3) == t219) || (!(((rd_T72 l0_0 x7_3).f4) == t220) || (!(((rd_T72 l0_0 x7_3).f5) == t221) || (!(((rd_T72 l0_0 x7_3).f6) == t222)))))))) = false := by simpa using c68
             clear c68
             have H' := Aside0.mk H
             clear H
             have hcz73_0 : wr.cell? ⟨gb188, 0, none⟩ = some (.slice A0_0 l0_0.length c0_0) := (blk_cell BK188.out 0).trans rfl
             have hfz73_0 := blk_frozen BK188.out 0
             try go_wp2
             have n0_ := Aside0.mk (Kd.R_drew HO_5.out)
             have n1_ := Aside0.mk (blk_drew BK188.out)
             have n2_ := Aside0.mk (below_drew1 HB.out)
             clear HO_5
             clear BK188
             clear HB
             have HO_5 := n0_
             have BK188 := n1_
             have HB := n2_
             clear n0_ n1_ n2_
             obtain ⟨Ao75, co75, eo75⟩ := Kd.R_slice HO_5.out
             (subst eo75)
             have p212 : 0 ≤ (x7_3 : Int) := odt_
             have q212 : x7_3 < (x5_2.length : Int) := odt_
             obtain ⟨ad212, e212, hx212_0⟩ := Kd.at_bool (Kd.R_reads' HO_5.out).2.2 x7_3 p212 q212
             (try rw [← Nbq55.out] at hx212_0)
             cases e212
             replace p212 := eq_true p212
             replace q212 := eq_true q212
             have p215 : 0 ≤ (x7_3 : Int) := odt_
             have q215 : x7_3 < (l0_0.length : Int) := odt_
             obtain ⟨ad215, e215, hx215_0, hx215_1, hx215_2, hx215_3, hx215_4, hx215_5, hx215_6⟩ := at_T72 HR0_0.out x7_3 p215 q215
             have hw215_6 := hx215_6
             have hw215_5 := hx215_5
             have hw215_4 := hx215_4
             have hw215_3 := hx215_3
             have hw215_2 := hx215_2
             have hw215_1 := hx215_1
             have hw215_0 := hx215_0
             cases e215
             replace hx215_0 := (HB.out.cell (World.block_lt_of_cell? w _ hx215_0)).trans hx215_0
             replace hx215_1 := (HB.out.cell (World.block_lt_of_cell? w _ hx215_1)).trans hx215_1
             replace hx215_2 := (HB.out.cell (World.block_lt_of_cell? w _ hx215_2)).trans hx215_2
             replace hx215_3 := (HB.out.cell (World.block_lt_of_cell? w _ hx215_3)).trans hx215_3
             replace hx215_4 := (HB.out.cell (World.block_lt_of_cell? w _ hx215_4)).trans hx215_4
             replace hx215_5 := (HB.out.cell (World.block_lt_of_cell? w _ hx215_5)).trans hx215_5
             replace hx215_6 := (HB.out.cell (World.block_lt_of_cell? w _ hx215_6)).trans hx215_6
             replace p215 := eq_true p215
             replace q215 := eq_true q215
             have p223 : 0 ≤ (x7_3 : Int) := odt_
             have q223 : x7_3 < (x5_2.length : Int) := odt_
             obtain ⟨ad223, e223, hx223_0⟩ := Kd.at_bool (Kd.R_reads' HO_5.out).2.2 x7_3 p223 q223
             (try rw [← Nbq55.out] at hx223_0)
             obtain rfl : ad212 = ad223 := (by injection e223)
             replace p223 := eq_true p223
             replace q223 := eq_true q223
             refine start_ (n := 26) (S := fun w' => w'.cell? ⟨gb188, 0, none⟩ = some (.slice (some ad215) l0_0.length c0_0) ∧ w'.cell? (ad212.add (x7_3).toNat) = some (.bool false) ∧ w'.cell? (ad215.add ((x7_3).toNat * 7)) = some (.bool ((rd_T72 l0_0 x7_3).f0)) ∧ w'.cell? ⟨(ad215.add ((x7_3).toNat * 7)).block, (ad215.add ((x7_3).toNat * 7)).off + 1, none⟩ = some (.int .i64 ((rd_T72 l0_0 x7_3).f1)) ∧ w'.cell? ⟨(ad215.add ((x7_3).toNat * 7)).block, (ad215.add ((x7_3).toNat * 7)).off + 2, none⟩ = some (.int .i64 ((rd_T72 l0_0 x7_3).f2)) ∧ w'.cell? ⟨(ad215.add ((x7_3).toNat * 7)).block, (ad215.add ((x7_3).toNat * 7)).off + 3, none⟩ = some (.int .i64 ((rd_T72 l0_0 x7_3).f3)) ∧ w'.cell? ⟨(ad215.add ((x7_3).toNat * 7)).block, (ad215.add ((x7_3).toNat * 7)).off + 4, none⟩ = some (.int .i64 ((rd_T72 l0_0 x7_3).f4)) ∧ w'.cell? ⟨(ad215.add ((x7_3).toNat * 7)).block, (ad215.add ((x7_3).toNat * 7)).off + 5, none⟩ = some (.int .i64 ((rd_T72 l0_0 x7_3).f5)) ∧ w'.cell? ⟨(ad215.add ((x7_3).toNat * 7)).block, (ad215.add ((x7_3).toNat * 7)).off + 6, none⟩ = some (.int .i64 ((rd_T72 l0_0 x7_3).f6)) ∧ w'.cell? (ad212.add (x7_3).toNat) = some (.bool (false))) (ds := []) (fl_ 26 0) (by kernel_rfl) rfl (fl_zero _) ⟨(blk_cell BK188.out 0).trans rfl, hx212_0, ((HB.out.cell (World.block_lt_of_cell? w _ hw215_0)).trans hw215_0), ((HB.out.cell (World.block_lt_of_cell? w _ hw215_1)).trans hw215_1), ((HB.out.cell (World.block_lt_of_cell? w _ hw215_2)).trans hw215_2), ((HB.out.cell (World.block_lt_of_cell? w _ hw215_3)).trans hw215_3), ((HB.out.cell (World.block_lt_of_cell? w _ hw215_4)).trans hw215_4), ((HB.out.cell (World.block_lt_of_cell? w _ hw215_5)).trans hw215_5), ((HB.out.cell (World.block_lt_of_cell? w _ hw215_6)).trans hw215_6), hx223_0⟩ (fun hHeld => ?_); refine with_tabW spec_DomOk.tab16 spec_DomOk.bits16 (fun HT_ HW_ => ?_)
             generalize wr.drew = w74 at HO_5 BK188 HB hx212_0 hx215_0 hx215_1 hx215_2 hx215_3 hx215_4 hx215_5 hx215_6 hx223_0 hHeld ⊢
             iterate 3 refine zp_ HT_ rfl rfl (by kernel_rfl) (fun _ _ _ h => h) (by rfl) ?_
             refine zt_ HT_ HW_ rfl rfl (by kernel_rfl) (fun _ _ _ h => h) (by rfl) hHeld ?_ z230_
             iterate 3 refine zp_ HT_ rfl rfl (by kernel_rfl) (fun _ _ _ h => h) (by rfl) ?_
             refine zpg_ (i := 8) (ra_ [7, 1, 1, 17]) HT_ rfl rfl (by kernel_rfl) (fun _ _ _ h => h) (by rfl) ?_
             refine ztg_ (i := 7) (fl_ 26 9) HT_ HW_ rfl rfl (by kernel_rfl) (fun _ _ _ h => h) (by rfl) hHeld ?_ z230_
             refine zp_ HT_ rfl rfl (by kernel_rfl) (fun _ _ _ h => h) (by rfl) ?_
             refine zt_ HT_ HW_ rfl rfl (by kernel_rfl) (fun _ _ _ h => h) (by rfl) hHeld ?_ z230_
             refine one_ (i := 11) (N := some 119) (fl_ 26 12) rfl rfl (one_of HT_.out (by kernel_rfl)) (by decide) (fun K hK => ?_)
             refine goes_ Try.func62 (by kernel_rfl) rfl #[] (by rfl) rfl rfl z2_ ?_
             with_reducible refine (spec_l16Empty.calls  t216 t217 t218 t219 t220 t221 t222 _ A67.out).mono ?_
             rintro e w76 ⟨rfl, hb⟩
             have HS1_ := (hb.cell (World.block_lt_of_cell? _ _ (hHeld.2.1))).trans (hHeld.2.1)
             have HS9_ := (hb.cell (World.block_lt_of_cell? _ _ (hHeld.2.2.2.2.2.2.2.2.2))).trans (hHeld.2.2.2.2.2.2.2.2.2)
             refine ⟨_, rfl, ?_⟩
             have n0_ := Aside0.mk (Kd.R_below z82_ hb)
             have n1_ := Aside0.mk (blk_below (g := gb188) (o := .cells #[.slice (some ad215) l0_0.length c0_0] 28 (0, 0)) z55_ hb)
             have n2_ := Aside0.mk (below_step z20_ hb)
             clear HO_5
             clear BK188
             clear HB
             have HO_5 := n0_
             have BK188 := n1_
             have HB := n2_
             clear n0_ n1_ n2_
             (try clear hb)
             refine hK.out _ _ ⟨(blk_cell BK188.out 0).trans rfl, HS1_, ((HB.out.cell (World.block_lt_of_cell? w _ hw215_0)).trans hw215_0), ((HB.out.cell (World.block_lt_of_cell? w _ hw215_1)).trans hw215_1), ((HB.out.cell (World.block_lt_of_cell? w _ hw215_2)).trans hw215_2), ((HB.out.cell (World.block_lt_of_cell? w _ hw215_3)).trans hw215_3), ((HB.out.cell (World.block_lt_of_cell? w _ hw215_4)).trans hw215_4), ((HB.out.cell (World.block_lt_of_cell? w _ hw215_5)).trans hw215_5), ((HB.out.cell (World.block_lt_of_cell? w _ hw215_6)).trans hw215_6), HS9_⟩ (fun hHeld => ?_)
             clear hK K
             refine zn_ rfl ?_
             iterate 6 refine zp_ HT_ rfl rfl (by kernel_rfl) (fun _ _ _ h => h) (by rfl) ?_
             refine zt_ HT_ HW_ rfl rfl (by kernel_rfl) (fun _ _ _ h => h) (by rfl) hHeld ?_ z230_
             refine zp_ HT_ rfl rfl (by kernel_rfl) (fun _ _ _ h => h) (by rfl) ?_
             iterate 4 refine zu_ HT_ rfl rfl (by kernel_rfl) (fun _ _ _ h => h) (by rfl) ?_
             iterate 2 refine zp_ HT_ rfl rfl (by kernel_rfl) (fun _ _ _ h => h) (by rfl) ?_
             refine done_ (done_of HT_.out (by kernel_rfl)) ?_
             try go_wp2
             go_roundg k3
             case measure => have := HJ1.out; have := HK2.out; have := HK3.out; omega
             case rel => exact ⟨(wrap64 (x7_3 + 1)), z17_, H', ⟨by have := HJ1.out; have := HK2.out; have := HK3.out; omega⟩, ⟨z82_⟩, ⟨z55_⟩, ⟨z20_⟩⟩
          ·rw [if_neg c52] at H
           have c52b0 := decide_eq_false c52
           clear c52
           obtain rfl := Option.some.inj H
           have hcz77_0 : wr.cell? ⟨gb188, 0, none⟩ = some (.slice A0_0 l0_0.length c0_0) := (blk_cell BK188.out 0).trans rfl
           have hfz77_0 := blk_frozen BK188.out 0
           go_wp2
           go_ret
           exact ⟨z4_, z20_⟩

end Go.Proofs.Ytdapeboajjidmab.PFnExactDomInsert
