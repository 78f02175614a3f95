/- Laid by a program of this session out of the kit's print for the law FnExactDomInsert: what it says of the machine is proved here, function by function; each contract under the conditions that it names. -/
import Derived.Test.YtdapeboajjidmabMFnExactDomInsertx0
import Derived.Test.YtdapeboajjidmabMFnExactDomInsertx11
import Derived.Test.YtdapeboajjidmabMFnExactDomInsertx13
import Derived.Deep.RegionLaw
import Derived.Lib.Overlaps
import Derived.Laws.Externs
import Derived.Lib.AppendZeros
import Derived.Lib.AppendZerosOnto
import Derived.Laws.NewBlocks
import Derived.Lib.SliceRun
import Derived.Test.YtdapeboajjidmabSliceOps
namespace Go.Proofs.Ytdapeboajjidmab.PFnExactDomInsert
open Go.RowKit Go.Proofs.YtdapeboajjidmabW.PrintWords Go.Proofs.YtdapeboajjidmabW.PrintLast Go.Proofs.YtdapeboajjidmabW.PrintMore Go.Proofs.Ytdapeboajjidmab.SliceOps
attribute [local go_sem] max2_int min2_int max_two min_two max_three min_three max_four min_four   -- for this text's walks alone
set_option linter.unusedVariables false
set_option linter.unusedSimpArgs false

/-! ### impl_DomOk: function 13 -/
def impl_DomOk.f (k : Nat) (l0_0 : List (S72)) : Option (Bool) := (impl_Dom_walked.f k l0_0).bind fun bt376 => (some bt376.2.2)
set_option maxHeartbeats 8000000 in
set_option maxRecDepth 100000 in
theorem impl_DomOk.calls (k : Nat) (A0_0 : Option Addr) (c0_0 : Nat) (l0_0 : List (S72)) (r : Bool) (w : World) (hr0_0 : Kd.C k72 w A0_0 l0_0.length l0_0) (hc0_0 : l0_0.length ≤ c0_0) (h : impl_DomOk.f k l0_0 = some r) :
  Calls Try.prog 13 #[.agg #[.slice A0_0 l0_0.length c0_0]] w fun e w' => e = .returned (.bool r) ∧ Below w.heap.size w w' := by
 have hu28 := Try.underlying28
 have HR0_0 := Aside0.mk hr0_0
 have HC0_0 := Aside0.mk hc0_0
 clear hr0_0 hc0_0
 have HB := Aside0.mk (Below.refl w.heap.size w)
 have H : ((impl_Dom_walked.f k l0_0).bind fun bt376 => (some bt376.2.2)) = some r := h
 clear h
 replace H := Option.bind_eq_some_iff.mp H
 obtain ⟨⟨t376, t379, t382⟩, A20, H⟩ := H
 try dsimp only at H
 have A2 := Aside0.mk A20
 clear A20
 obtain rfl := Option.some.inj H
 go_enter Try.func13, Try.ntmps13
 go_wp2_with (first | ((with_reducible refine gate_dst (N := 1) rfl ?_); refine box_event ?hg (N := 1) ?hd (cs := #[.slice A0_0 l0_0.length c0_0]) (t := 28) ?hr ?_; (case hd => rfl); (case hg => rfl); (case hr => exact z19_); intro gb375 hg w3 hbox hb; have BK375 := Aside0.mk (hbox); have GW375 := Aside0.mk ((by rw [hg]; exact (below_size z0_) : w.heap.size ≤ gb375)); have GE375 := Aside0.mk ((by rw [hg]; exact (below_size z0_) : w.heap.size ≤ gb375)); replace HB := Aside0.mk (below_step z0_ hb); clear hb hbox hg; have hcz4_0 : w3.cell? ⟨gb375, 0, none⟩ = some (.slice A0_0 l0_0.length c0_0) := (blk_cell BK375.out 0).trans rfl; have hfz4_0 := blk_frozen BK375.out 0) | ((with_reducible refine gate_callee (f := 59) rfl ?_); refine goesL_ (some 8) rfl rfl Try.func59 (by kernel_rfl) rfl #[.agg #[.slice A0_0 l0_0.length c0_0]] rfl z2_ ?_; (with_reducible refine (impl_Dom_walked.calls k _ _ l0_0 t376 t379 t382 _ ?side1 ?side2 A2.out).mono ?_); (case side1 => exact z9_); (case side2 => exact HC0_0.out); rintro e w5 ⟨v377, v380, rfl, ho0, ho1, hb⟩; refine ⟨_, rfl, ?_⟩; have HO378 := Aside0.mk (Kd.R_lower ho0 (below_size z130_)); have HO381 := Aside0.mk (Kd.R_lower ho1 (below_size z130_)); replace BK375 := Aside0.mk (blk_below (g := gb375) (o := .cells #[.slice A0_0 l0_0.length c0_0] 28 (0, 0)) (by exact BK375.out) hb); replace HB := Aside0.mk (below_step z130_ hb); (try clear hb ho0 ho1)))
 go_ret
 exact ⟨z4_, z130_⟩

/-! ### slices_Clone_DomNode: function 115 -/
def slices_Clone_DomNode.f (l0 : List (S72)) : Option ((List (S72))) := (some (([] : List (S72)) : List (S72))).bind fun y383 => (if y383.length + l0.length < 2513169434916 then (some (y383 ++ l0)) else (none))
set_option maxHeartbeats 8000000 in
set_option maxRecDepth 100000 in
theorem slices_Clone_DomNode.calls (A0 : Option Addr) (c0 : Nat) (l0 : List (S72)) (r : List (S72)) (w : World) (hr0 : Kd.C k72 w A0 l0.length l0) (hc0 : l0.length ≤ c0) (h : slices_Clone_DomNode.f l0 = some r) :
  Calls Try.prog 115 #[.slice A0 l0.length c0] w fun e w' => ∃ v0_ : Value, e = .returned (v0_) ∧ Kd.R k72 72 w' w.heap.size (fun _ => True) v0_ r ∧ Below w.heap.size w w' := by
 have q_nil : ∀ (w : World) (a : Option Addr) (n c n' c' : Nat), (binOp .eql 26 (.slice a n c) (.slice none n' c')).run Try.prog w = .ok (.bool a.isNone) w := fun w a n c n' c' => Lib.run_eql_slice_nil w _ _ a n c n' c' Try.underlying26
 rcases A0 with _ | ad0
 ·have h0_ : l0 = [] := by
   rcases Nat.eq_zero_or_pos l0.length with h0 | h0
   ·exact List.eq_nil_of_length_eq_zero h0
   ·obtain ⟨ad, h, _⟩ := hr0.2.2 h0
    cases h
  subst h0_
  have hr_ : r = [] := by simpa [slices_Clone_DomNode.f] using h.symm
  subst hr_
  clear hr0 h
  go_enter Try.func115, Try.ntmps115
  go_wp2
  go_ret
  exact ⟨_, rfl, Kd.R_nil _ _ _ _ _, Below.refl _ _⟩
 have HR0 := Aside0.mk hr0
 have HC0 := Aside0.mk hc0
 clear hr0 hc0
 have HB := Aside0.mk (Below.refl w.heap.size w)
 have H : ((some (([] : List (S72)) : List (S72))).bind fun y383 => (if y383.length + l0.length < 2513169434916 then (some (y383 ++ l0)) else (none))) = some r := h
 clear h
 ((with_reducible have hz_ := gy_ H); obtain ⟨y383, Ny383, H⟩ := hz_)
 obtain ⟨c2, H⟩ := ifs_ H
 have LMc2 := Aside0.mk c2
 clear c2
 (generalize hy_ : ((y383 ++ l0) : List (S72)) = y386 at H; have Ny386 := Aside0.mk hy_.symm; clear hy_)
 obtain rfl := Option.some.inj H
 go_enter Try.func115, Try.ntmps115
 go_wp2_with (first | ((with_reducible refine gate_dst (N := 5) rfl ?_); refine Kd.R_lit k72 _ 72 ?hg (N := 5) ?hd (xs := ([] : List (S72))) (inner := []) (ok := fun _ => True) (okp := fun _ => True) ?hr ?hp (fun _ hk => hk) trivial (Below.refl _ _) (Nat.le_refl _) (by simp) ?_; (case hd => rfl); (case hg => rfl); (case hr => exact z19_); (case hp => exact z280_); intro v384 w3 ho4 hb hg_ hnew_; clear hg_ hnew_; (rw [← Ny383.out] at ho4); have HO385 := Aside0.mk (Kd.R_lower ho4 (below_size z0_)); replace HB := Aside0.mk (below_step z0_ hb); clear hb ho4) | ((with_reducible refine gate_builtin (b := .append) (xs := #[.tmp 5, .tmp 6]) rfl ?_); at_builtin; refine Kd.R_append_rows k72 (w0 := w) w.heap.size rfl (.tmp 5) (.tmp 6) 26 72 (.agg #[(.bool false), (.int .i64 0), (.int .i64 0), (.int .i64 0), (.int .i64 0), (.int .i64 0), (.int .i64 0)]) 56 rfl Try.underlying26 info72 rfl (by decide) (by omega) v384 y383 l0 _ _ _ (fun _ => True) (fun _ => False) rfl rfl ?aO ?aR (fun _ _ h => h) (fun _ h => h.elim) ?aF ?aB ?aS ?aL ?_; (case aR => repeat (exact (Kd.C_below HR0.out HB.out))); (case aB => exact z261_); (case aF => exact z298_); (case aO => exact (by exact HO385.out)); (case aS => exact z235_); (case aL => have := LMc2.out; omega); intro v387 w5 ho hb hg hat; rw [← Ny386.out] at ho; replace HB := Aside0.mk (hb); have HO388 := Aside0.mk (ho); clear HO385; clear ho hb hg hat))
 go_ret
 exact ⟨_, z4_, by exact HO388.out, z0_⟩

/-! ### impl_domCopy: function 71 -/
def impl_domCopy.f (l0_0 : List (S72)) : Option ((List (S72))) := (slices_Clone_DomNode.f l0_0).bind fun t391 => (some t391)
set_option maxHeartbeats 8000000 in
set_option maxRecDepth 100000 in
theorem impl_domCopy.calls (A0_0 : Option Addr) (c0_0 : Nat) (l0_0 : List (S72)) (r : List (S72)) (w : World) (hr0_0 : Kd.C k72 w A0_0 l0_0.length l0_0) (hc0_0 : l0_0.length ≤ c0_0) (h : impl_domCopy.f l0_0 = some r) :
  Calls Try.prog 71 #[.agg #[.slice A0_0 l0_0.length c0_0]] w fun e w' => ∃ v0_ : Value, e = .returned (.agg #[v0_]) ∧ Kd.R k72 72 w' w.heap.size (fun _ => True) v0_ r ∧ Below w.heap.size w w' := by
 have hu28 := Try.underlying28
 have HR0_0 := Aside0.mk hr0_0
 have HC0_0 := Aside0.mk hc0_0
 clear hr0_0 hc0_0
 have HB := Aside0.mk (Below.refl w.heap.size w)
 have H : ((slices_Clone_DomNode.f l0_0).bind fun t391 => (some t391)) = some r := h
 clear h
 obtain ⟨t391, A2, H⟩ := bnd_ H
 obtain rfl := Option.some.inj H
 go_enter Try.func71, Try.ntmps71
 go_wp2_with (first | ((with_reducible refine gate_dst (N := 1) rfl ?_); refine box_event ?hg (N := 1) ?hd (cs := #[.slice A0_0 l0_0.length c0_0]) (t := 28) ?hr ?_; (case hd => rfl); (case hg => rfl); (case hr => exact z19_); intro gb389 hg w3 hbox hb; have BK389 := Aside0.mk (hbox); have GW389 := Aside0.mk ((by rw [hg]; exact (below_size z0_) : w.heap.size ≤ gb389)); have GE389 := Aside0.mk ((by rw [hg]; exact (below_size z0_) : w.heap.size ≤ gb389)); replace HB := Aside0.mk (below_step z0_ hb); clear hb hbox hg) | ((with_reducible refine gate_dst (N := 2) rfl ?_); refine box_event ?hg (N := 2) ?hd (cs := #[.slice none 0 0]) (t := 28) ?hr ?_; (case hd => rfl); (case hg => rfl); (case hr => exact z19_); intro gb390 hg w4 hbox hb; have BK390 := Aside0.mk (hbox); have GW390 := Aside0.mk ((by rw [hg]; exact (below_size z180_) : w.heap.size ≤ gb390)); have GE390 := Aside0.mk ((by rw [hg]; exact (below_size z180_) : w.heap.size ≤ gb390)); replace HB := Aside0.mk (below_step z180_ hb); have NB389_390 := Aside0.mk ((by rw [hg]; exact Nat.ne_of_lt (blk_lt (g := gb389) (o := .cells #[.slice A0_0 l0_0.length c0_0] 28 (0, 0)) z185_) : gb389 ≠ gb390)); have NB390_389 := Aside0.mk ((by rw [hg]; exact Nat.ne_of_gt (blk_lt (g := gb389) (o := .cells #[.slice A0_0 l0_0.length c0_0] 28 (0, 0)) z185_) : gb390 ≠ gb389)); replace BK389 := Aside0.mk (blk_below (g := gb389) (o := .cells #[.slice A0_0 l0_0.length c0_0] 28 (0, 0)) z185_ hb); clear hb hbox hg; have hnb5 := NB389_390.out; have hnc5 := NB390_389.out; have hcz6_0 : w4.cell? ⟨gb389, 0, none⟩ = some (.slice A0_0 l0_0.length c0_0) := (blk_cell BK389.out 0).trans rfl; have hfz6_0 := blk_frozen BK389.out 0) | ((with_reducible refine gate_callee (f := 115) rfl ?_); refine goesL_ (some 5) rfl rfl Try.func115 (by kernel_rfl) rfl #[.slice A0_0 l0_0.length c0_0] rfl z2_ ?_; (with_reducible refine (slices_Clone_DomNode.calls _ _ l0_0 t391 _ ?side1 ?side2 A2.out).mono ?_); (case side1 => exact z9_); (case side2 => exact HC0_0.out); rintro e w7 ⟨v392, rfl, ho0, hb⟩; refine ⟨_, rfl, ?_⟩; have HO393 := Aside0.mk (Kd.R_lower ho0 (below_size z142_)); replace BK389 := Aside0.mk (blk_below (g := gb389) (o := .cells #[.slice A0_0 l0_0.length c0_0] 28 (0, 0)) z185_ hb); replace BK390 := Aside0.mk (blk_below (g := gb390) (o := .cells #[.slice none 0 0] 28 (0, 0)) (by exact BK390.out) hb); replace HB := Aside0.mk (below_step z142_ hb); (try clear hb ho0); obtain ⟨Ao8, co8, eo8⟩ := Kd.R_slice HO393.out; subst eo8; have hcz9_0 : w7.cell? ⟨gb390, 0, none⟩ = some (.slice none 0 0) := (blk_cell BK390.out 0).trans rfl; have hfz9_0 := blk_frozen BK390.out 0))
 refine bodyPost_ret (results_cell_row rfl _ _ gb390 28 #[.slice Ao8 t391.length co8] (0, 0) _ rfl (by refine blk_put (cs := #[.slice none 0 0]) ?_ 0 _ rfl; exact BK390.out) Try.underlying28 rfl (by kernel_rfl)) rfl ?_
 exact ⟨_, z4_, by exact Kd.R_mono (Kd.R_far (p := ⟨gb390, 0, none⟩) (Kd.R_types HO393.out BK390.out (by decide)) (fun _ hk => hk.2) (.slice Ao8 t391.length co8)) (fun _ hk => trivial), z142_⟩

/-! ### impl_Dom_isLive: function 72 -/
def impl_Dom_isLive.f (k : Nat) (l0_0 : List (S72)) (a1 : Int) : Option (Bool) := (impl_DomOk.f k l0_0).bind fun t395 => (if t395 = true then ((impl_within.f a1 0 (wrap64 ((l0_0.length : Int) - 1))).bind fun t396 => (if t396 = true then (if 0 ≤ a1 then (if a1 < (l0_0.length : Int) then (some ((rd_T72 l0_0 a1).f0)) else (none)) else (none)) else (some false))) else (some false))
set_option maxHeartbeats 8000000 in
set_option maxRecDepth 100000 in
theorem impl_Dom_isLive.calls (k : Nat) (A0_0 : Option Addr) (c0_0 : Nat) (l0_0 : List (S72)) (a1 : Int) (r : Bool) (w : World) (hr0_0 : Kd.C k72 w A0_0 l0_0.length l0_0) (hc0_0 : l0_0.length ≤ c0_0) (h : impl_Dom_isLive.f k l0_0 a1 = some r) :
  Calls Try.prog 72 #[.agg #[.slice A0_0 l0_0.length c0_0], .int .i64 a1] w fun e w' => e = .returned (.bool r) ∧ Below w.heap.size w w' := by
 have hu28 := Try.underlying28
 have HR0_0 := Aside0.mk hr0_0
 have HC0_0 := Aside0.mk hc0_0
 clear hr0_0 hc0_0
 have HB := Aside0.mk (Below.refl w.heap.size w)
 have H : ((impl_DomOk.f k l0_0).bind fun t395 => (if t395 = true then ((impl_within.f a1 0 (wrap64 ((l0_0.length : Int) - 1))).bind fun t396 => (if t396 = true then (if 0 ≤ a1 then (if a1 < (l0_0.length : Int) then (some ((rd_T72 l0_0 a1).f0)) else (none)) else (none)) else (some false))) else (some false))) = some r := h
 clear h
 obtain ⟨t395, A3, H⟩ := bnd_ H
 by_cases c4 : t395 = true
 ·subst c4
  replace H := ift_ H
  obtain ⟨t396, A5, H⟩ := bnd_ H
  by_cases c6 : t396 = true
  ·subst c6
   replace H := ift_ H
   obtain ⟨c7b0, H⟩ := ifd_ H
   obtain ⟨c8b0, H⟩ := ifd_ H
   obtain rfl := Option.some.inj H
   go_enter Try.func72, Try.ntmps72
   go_wp2_with (first | ((with_reducible refine gate_dst (N := 2) rfl ?_); (try (refine gate_guard (by rfl) ?_; dsimp only)); refine box_event ?hg (N := 2) ?hd (cs := #[.slice A0_0 l0_0.length c0_0]) (t := 28) ?hr ?_; (case hd => rfl); (case hg => rfl); (case hr => exact z19_); intro gb394 hg w9 hbox hb; have BK394 := Aside0.mk (hbox); have GW394 := Aside0.mk ((by rw [hg]; exact (below_size z0_) : w.heap.size ≤ gb394)); have GE394 := Aside0.mk ((by rw [hg]; exact (below_size z0_) : w.heap.size ≤ gb394)); replace HB := Aside0.mk (below_step z0_ hb); clear hb hbox hg; have hcz10_0 : w9.cell? ⟨gb394, 0, none⟩ = some (.slice A0_0 l0_0.length c0_0) := (blk_cell BK394.out 0).trans rfl; have hfz10_0 := blk_frozen BK394.out 0) | ((with_reducible refine gate_callee (f := 13) rfl ?_); refine goesL_ (some 6) rfl rfl Try.func13 (by kernel_rfl) rfl #[.agg #[.slice A0_0 l0_0.length c0_0]] rfl z2_ ?_; (with_reducible refine (impl_DomOk.calls k _ _ l0_0 true _ ?side1 ?side2 A3.out).mono ?_); (case side1 => exact z9_); (case side2 => exact HC0_0.out); rintro e w11 ⟨rfl, hb⟩; refine ⟨_, rfl, ?_⟩; replace BK394 := Aside0.mk (blk_below (g := gb394) (o := .cells #[.slice A0_0 l0_0.length c0_0] 28 (0, 0)) z210_ hb); replace HB := Aside0.mk (below_step z102_ hb); (try clear hb); have hcz12_0 : w11.cell? ⟨gb394, 0, none⟩ = some (.slice A0_0 l0_0.length c0_0) := (blk_cell BK394.out 0).trans rfl; have hfz12_0 := blk_frozen BK394.out 0) | (go_at_call 81; (with_reducible refine (impl_within.calls a1 0 (wrap64 ((l0_0.length : Int) - 1)) true _ A5.out).mono ?_); rintro e w' ⟨rfl, ⟨nd, rfl⟩⟩; have p397 : 0 ≤ (a1 : Int) := odt_; have q397 : a1 < (l0_0.length : Int) := odt_; obtain ⟨ad397, e397, hx397_0, hx397_1, hx397_2, hx397_3, hx397_4, hx397_5, hx397_6⟩ := at_T72 HR0_0.out a1 p397 q397; cases e397; replace hx397_0 := (HB.out.cell (World.block_lt_of_cell? w _ hx397_0)).trans hx397_0; replace hx397_1 := (HB.out.cell (World.block_lt_of_cell? w _ hx397_1)).trans hx397_1; replace hx397_2 := (HB.out.cell (World.block_lt_of_cell? w _ hx397_2)).trans hx397_2; replace hx397_3 := (HB.out.cell (World.block_lt_of_cell? w _ hx397_3)).trans hx397_3; replace hx397_4 := (HB.out.cell (World.block_lt_of_cell? w _ hx397_4)).trans hx397_4; replace hx397_5 := (HB.out.cell (World.block_lt_of_cell? w _ hx397_5)).trans hx397_5; replace hx397_6 := (HB.out.cell (World.block_lt_of_cell? w _ hx397_6)).trans hx397_6; replace p397 := eq_true p397; replace q397 := eq_true q397))
   go_ret
   exact ⟨z4_, z102_⟩
  ·replace c6 := Bool.eq_false_iff.mpr c6
   subst c6
   replace H := iff_ H
   obtain rfl := Option.some.inj H
   go_enter Try.func72, Try.ntmps72
   go_wp2_with (first | ((with_reducible refine gate_dst (N := 2) rfl ?_); (try (refine gate_guard (by rfl) ?_; dsimp only)); refine box_event ?hg (N := 2) ?hd (cs := #[.slice A0_0 l0_0.length c0_0]) (t := 28) ?hr ?_; (case hd => rfl); (case hg => rfl); (case hr => exact z19_); intro gb394 hg w13 hbox hb; have BK394 := Aside0.mk (hbox); have GW394 := Aside0.mk ((by rw [hg]; exact (below_size z0_) : w.heap.size ≤ gb394)); have GE394 := Aside0.mk ((by rw [hg]; exact (below_size z0_) : w.heap.size ≤ gb394)); replace HB := Aside0.mk (below_step z0_ hb); clear hb hbox hg; have hcz14_0 : w13.cell? ⟨gb394, 0, none⟩ = some (.slice A0_0 l0_0.length c0_0) := (blk_cell BK394.out 0).trans rfl; have hfz14_0 := blk_frozen BK394.out 0) | ((with_reducible refine gate_callee (f := 13) rfl ?_); refine goesL_ (some 6) rfl rfl Try.func13 (by kernel_rfl) rfl #[.agg #[.slice A0_0 l0_0.length c0_0]] rfl z2_ ?_; (with_reducible refine (impl_DomOk.calls k _ _ l0_0 true _ ?side1 ?side2 A3.out).mono ?_); (case side1 => exact z9_); (case side2 => exact HC0_0.out); rintro e w15 ⟨rfl, hb⟩; refine ⟨_, rfl, ?_⟩; replace BK394 := Aside0.mk (blk_below (g := gb394) (o := .cells #[.slice A0_0 l0_0.length c0_0] 28 (0, 0)) z210_ hb); replace HB := Aside0.mk (below_step z102_ hb); (try clear hb); have hcz16_0 : w15.cell? ⟨gb394, 0, none⟩ = some (.slice A0_0 l0_0.length c0_0) := (blk_cell BK394.out 0).trans rfl; have hfz16_0 := blk_frozen BK394.out 0) | (go_at_call 81; (with_reducible refine (impl_within.calls a1 0 (wrap64 ((l0_0.length : Int) - 1)) false _ A5.out).mono ?_); rintro e w' ⟨rfl, ⟨nd, rfl⟩⟩))
   go_ret
   exact ⟨z4_, z102_⟩
 ·replace c4 := Bool.eq_false_iff.mpr c4
  subst c4
  replace H := iff_ H
  obtain rfl := Option.some.inj H
  go_enter Try.func72, Try.ntmps72
  go_wp2_with (first | ((with_reducible refine gate_dst (N := 2) rfl ?_); (try (refine gate_guard (by rfl) ?_; dsimp only)); refine box_event ?hg (N := 2) ?hd (cs := #[.slice A0_0 l0_0.length c0_0]) (t := 28) ?hr ?_; (case hd => rfl); (case hg => rfl); (case hr => exact z19_); intro gb394 hg w17 hbox hb; have BK394 := Aside0.mk (hbox); have GW394 := Aside0.mk ((by rw [hg]; exact (below_size z0_) : w.heap.size ≤ gb394)); have GE394 := Aside0.mk ((by rw [hg]; exact (below_size z0_) : w.heap.size ≤ gb394)); replace HB := Aside0.mk (below_step z0_ hb); clear hb hbox hg; have hcz18_0 : w17.cell? ⟨gb394, 0, none⟩ = some (.slice A0_0 l0_0.length c0_0) := (blk_cell BK394.out 0).trans rfl; have hfz18_0 := blk_frozen BK394.out 0) | ((with_reducible refine gate_callee (f := 13) rfl ?_); refine goesL_ (some 6) rfl rfl Try.func13 (by kernel_rfl) rfl #[.agg #[.slice A0_0 l0_0.length c0_0]] rfl z2_ ?_; (with_reducible refine (impl_DomOk.calls k _ _ l0_0 false _ ?side1 ?side2 A3.out).mono ?_); (case side1 => exact z9_); (case side2 => exact HC0_0.out); rintro e w19 ⟨rfl, hb⟩; refine ⟨_, rfl, ?_⟩; replace BK394 := Aside0.mk (blk_below (g := gb394) (o := .cells #[.slice A0_0 l0_0.length c0_0] 28 (0, 0)) z210_ hb); replace HB := Aside0.mk (below_step z102_ hb); (try clear hb)))
  go_ret
  exact ⟨z4_, z102_⟩

/-! ### impl_Dom_kids: function 73 -/
def impl_Dom_kids.l0 : Nat → List Int → Int → List (S72) → Option (List Int)
 | 0, _, _, _ => none
 | k + 1, x5, x6, x399000 => if x6 = (-1) then (some x5) else (if x5.length < 17592186044416 then (if 0 ≤ x6 then (if x6 < (x399000.length : Int) then (impl_Dom_kids.l0 k (x5 ++ [x6]) ((rd_T72 x399000 x6).f6) x399000) else (none)) else (none)) else (none))
def impl_Dom_kids.f (k : Nat) (l0_0 : List (S72)) (a1 : Int) : Option (List Int) := if 0 ≤ a1 then (if a1 < (l0_0.length : Int) then (impl_Dom_kids.l0 k (([] : List Int)) ((rd_T72 l0_0 a1).f3) l0_0) else (none)) else (none)
set_option maxHeartbeats 8000000 in
set_option maxRecDepth 100000 in
theorem impl_Dom_kids.calls (k : Nat) (A0_0 : Option Addr) (c0_0 : Nat) (l0_0 : List (S72)) (a1 : Int) (r : List Int) (w : World) (hr0_0 : Kd.C k72 w A0_0 l0_0.length l0_0) (hc0_0 : l0_0.length ≤ c0_0) (h : impl_Dom_kids.f k l0_0 a1 = some r) :
  Calls Try.prog 73 #[.agg #[.slice A0_0 l0_0.length c0_0], .int .i64 a1] w fun e w' => ∃ v0_ : Value, e = .returned (v0_) ∧ Kd.R (Kd.int .i64) 3 w' w.heap.size (fun _ => True) v0_ r ∧ Below w.heap.size w w' := by
 have hu28 := Try.underlying28
 have HR0_0 := Aside0.mk hr0_0
 have HC0_0 := Aside0.mk hc0_0
 clear hr0_0 hc0_0
 have HB := Aside0.mk (Below.refl w.heap.size w)
 have H : (if 0 ≤ a1 then (if a1 < (l0_0.length : Int) then (impl_Dom_kids.l0 k (([] : List Int)) ((rd_T72 l0_0 a1).f3) l0_0) else (none)) else (none)) = some r := h
 clear h
 (generalize hy_ : ((([] : List Int)) : List Int) = y399 at H; have Ny399 := Aside0.mk hy_.symm; clear hy_)
 obtain ⟨c3b0, H⟩ := ifd_ H
 obtain ⟨c4b0, H⟩ := ifd_ H
 have H' := Aside0.mk H
 clear H
 go_enter Try.func73, Try.ntmps73
 go_wp2_with (first | ((with_reducible refine gate_dst (N := 2) rfl ?_); refine box_event ?hg (N := 2) ?hd (cs := #[.slice A0_0 l0_0.length c0_0]) (t := 28) ?hr ?_; (case hd => rfl); (case hg => rfl); (case hr => exact z19_); intro gb398 hg w5 hbox hb; have BK398 := Aside0.mk (hbox); have GW398 := Aside0.mk ((by rw [hg]; exact (below_size z0_) : w.heap.size ≤ gb398)); have GE398 := Aside0.mk ((by rw [hg]; exact (below_size z0_) : w.heap.size ≤ gb398)); replace HB := Aside0.mk (below_step z0_ hb); clear hb hbox hg) | ((with_reducible refine gate_dst (N := 7) rfl ?_); refine Kd.R_lit (Kd.int .i64) _ 3 ?hg (N := 7) ?hd (xs := ([] : List Int)) (inner := []) (ok := fun _ => True) (okp := fun _ => True) ?hr ?hp (fun _ hk => hk) trivial (Below.refl _ _) (Nat.le_refl _) (by simp) ?_; (case hd => rfl); (case hg => rfl); (case hr => exact z19_); (case hp => exact z280_); intro v400 w6 ho7 hb hg_ hnew_; clear hg_ hnew_; (rw [← Ny399.out] at ho7); have HO401 := Aside0.mk (Kd.R_lower ho7 (below_size z85_)); replace BK398 := Aside0.mk (blk_below (g := gb398) (o := .cells #[.slice A0_0 l0_0.length c0_0] 28 (0, 0)) z186_ hb); replace HB := Aside0.mk (below_step z85_ hb); clear hb ho7; have hcz8_0 : w6.cell? ⟨gb398, 0, none⟩ = some (.slice A0_0 l0_0.length c0_0) := (blk_cell BK398.out 0).trans rfl; have hfz8_0 := blk_frozen BK398.out 0; have p402 : 0 ≤ (a1 : Int) := odt_; have q402 : a1 < (l0_0.length : Int) := odt_; obtain ⟨ad402, e402, hx402_0, hx402_1, hx402_2, hx402_3, hx402_4, hx402_5, hx402_6⟩ := at_T72 HR0_0.out a1 p402 q402; cases e402; replace hx402_0 := (HB.out.cell (World.block_lt_of_cell? w _ hx402_0)).trans hx402_0; replace hx402_1 := (HB.out.cell (World.block_lt_of_cell? w _ hx402_1)).trans hx402_1; replace hx402_2 := (HB.out.cell (World.block_lt_of_cell? w _ hx402_2)).trans hx402_2; replace hx402_3 := (HB.out.cell (World.block_lt_of_cell? w _ hx402_3)).trans hx402_3; replace hx402_4 := (HB.out.cell (World.block_lt_of_cell? w _ hx402_4)).trans hx402_4; replace hx402_5 := (HB.out.cell (World.block_lt_of_cell? w _ hx402_5)).trans hx402_5; replace hx402_6 := (HB.out.cell (World.block_lt_of_cell? w _ hx402_6)).trans hx402_6; replace p402 := eq_true p402; replace q402 := eq_true q402))
 go_loopg [5, 6] k (fun kq v5 v6 w' => ∃ (x5_1 : List Int) (x6_1 : Int), v6 = .int .i64 x6_1 ∧ Aside0 (impl_Dom_kids.l0 kq x5_1 x6_1 l0_0 = some r) ∧ Aside0 (kq ≤ k) ∧ Aside0 (Kd.R (Kd.int .i64) 3 w' w.heap.size (fun _ => True) v5 x5_1) ∧ Aside0 (w'.heap[gb398]? = some (.cells #[(.slice (some ad402) l0_0.length c0_0)] 28 (0, 0))) ∧ Aside0 (Below w.heap.size w w'))
 case atStart => exact ⟨(y399), ((rd_T72 l0_0 a1).f3), z17_, H', ⟨Nat.le_refl _⟩, ⟨by exact HO401.out⟩, ⟨z186_⟩, ⟨z85_⟩⟩
 case round =>
  clear H' c3b0 c4b0 hcz8_0 hfz8_0 hx402_0 hx402_1 hx402_2 hx402_3 hx402_4 hx402_5 hx402_6 p402 q402
  obtain ⟨x5_1, x6_1, rfl, HA, HK1, HO_5, BK398, HB⟩ := hrel
  cases gk with
  | zero => exact absurd HA.out (by simp [impl_Dom_kids.l0])
  | succ k1 =>
   have H := HA.out
   clear HA
   simp only [impl_Dom_kids.l0] at H
   by_cases c9 : x6_1 = (-1)
   ·rw [if_pos c9] at H
    have c9b0 : (x6_1 == (-1)) = true := beq_iff_eq.mpr c9
    have c9b1 : (x6_1 != (-1)) = false := bne_eq_false_iff_eq.mpr c9
    clear c9
    obtain rfl := Option.some.inj H
    go_wp2
    go_ret
    exact ⟨_, z4_, z82_, z85_⟩
   ·rw [if_neg c9] at H
    have c9b0 : (x6_1 == (-1)) = false := beq_eq_false_iff_ne.mpr c9
    have c9b1 : (x6_1 != (-1)) = true := bne_iff_ne.mpr c9
    obtain ⟨c10, H⟩ := ifs_ H
    have LMc10 := Aside0.mk c10
    clear c10
    (generalize hy_ : ((x5_1 ++ [x6_1]) : List Int) = y403 at H; have Ny403 := Aside0.mk hy_.symm; clear hy_)
    obtain ⟨c11b0, H⟩ := ifd_ H
    obtain ⟨c12b0, H⟩ := ifd_ H
    have H' := Aside0.mk H
    clear H
    go_wp2_with (((with_reducible refine gate_builtin (b := .append) (xs := #[.tmp 22, .tmp 24]) rfl ?_); at_builtin; refine Kd.R_append (Kd.int .i64) (w0 := w) w.heap.size rfl (.tmp 22) (.tmp 24) 49 3 (.int .i64 0) 8 rfl Try.underlying49 info3 rfl (by decide) (by omega) u5 x5_1 x6_1 [.int .i64 x6_1] (fun _ => True) (fun _ => False) rfl rfl ?aP (fun _ hk => hk.elim) ?aF ?aO ?aB ?aS ?aL ?_; (case aP => exact rfl); (case aB => exact z85_); (case aF => exact z298_); (case aO => exact z279_); (case aS => exact (below_size z85_)); (case aL => have := LMc10.out; omega); intro v404 w13 ho hb hg hat; rw [← Ny403.out] at ho; replace BK398 := Aside0.mk (blk_grown (g := gb398) (o := .cells #[.slice (some ad402) l0_0.length c0_0] 28 (0, 0)) z186_ hg (Kd.R_ne HO_5.out BK398.out (by decide))); replace HB := Aside0.mk (hb); have HO405 := Aside0.mk (ho); clear HO_5; clear ho hb hg hat; have hcz14_0 : w13.cell? ⟨gb398, 0, none⟩ = some (.slice (some ad402) l0_0.length c0_0) := (blk_cell BK398.out 0).trans rfl; have hfz14_0 := blk_frozen BK398.out 0; have p406 : 0 ≤ (x6_1 : Int) := odt_; have q406 : x6_1 < (l0_0.length : Int) := odt_; obtain ⟨ad406, e406, hx406_0, hx406_1, hx406_2, hx406_3, hx406_4, hx406_5, hx406_6⟩ := at_T72 HR0_0.out x6_1 p406 q406; obtain rfl : ad402 = ad406 := (by injection e406); replace hx406_0 := (HB.out.cell (World.block_lt_of_cell? w _ hx406_0)).trans hx406_0; replace hx406_1 := (HB.out.cell (World.block_lt_of_cell? w _ hx406_1)).trans hx406_1; replace hx406_2 := (HB.out.cell (World.block_lt_of_cell? w _ hx406_2)).trans hx406_2; replace hx406_3 := (HB.out.cell (World.block_lt_of_cell? w _ hx406_3)).trans hx406_3; replace hx406_4 := (HB.out.cell (World.block_lt_of_cell? w _ hx406_4)).trans hx406_4; replace hx406_5 := (HB.out.cell (World.block_lt_of_cell? w _ hx406_5)).trans hx406_5; replace hx406_6 := (HB.out.cell (World.block_lt_of_cell? w _ hx406_6)).trans hx406_6; replace p406 := eq_true p406; replace q406 := eq_true q406))
    go_roundg k1
    case measure => have := HK1.out; omega
    case rel => exact ⟨(y403), ((rd_T72 l0_0 x6_1).f6), z17_, H', ⟨z259_⟩, ⟨by exact HO405.out⟩, ⟨z186_⟩, ⟨z85_⟩⟩

end Go.Proofs.Ytdapeboajjidmab.PFnExactDomInsert
