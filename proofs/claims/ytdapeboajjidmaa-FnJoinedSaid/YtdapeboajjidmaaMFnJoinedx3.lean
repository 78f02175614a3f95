/- Laid by a program of this session out of the kit's print for the law FnJoined: what it says of the machine is proved here, function by function; each contract under the conditions that it names. -/
import Derived.Test.YtdapeboajjidmaaMFnJoinedx0
import Derived.Test.YtdapeboajjidmaaMFnJoinedx2
namespace Go.Proofs.Ytdapeboajjidmaa.PFnJoined
open Go.RowKit Go.Proofs.YtdapeboajjidmaaW.PrintWords Go.Proofs.YtdapeboajjidmaaW.PrintLast Go.Proofs.YtdapeboajjidmaaW.PrintMore
attribute [local go_sem] max2_int min2_int max_two min_two max_three min_three max_four min_four   -- for this text's walks alone
set_option linter.unusedVariables false
set_option linter.unusedSimpArgs false

/-! ### spec_l2Label: function 132 -/
def spec_l2Label.f (s0_0 : List Int) (s0_1 : Int) (s0_2 : Int) : Option (Int × Int × Int) := (spec_l1Below.f s0_0 s0_1 s0_2 4).bind fun bt170 => (some (bt170.1, bt170.2.1, bt170.2.2))
set_option maxHeartbeats 8000000 in
set_option maxRecDepth 100000 in
theorem spec_l2Label.calls (g : Nat) (s0_0 : List Int) (s0_1 : Int) (s0_2 : Int) (r1 : Int) (r2 : Int) (r3 : Int) (w0 w : World) (hI : IsS126 w0 w g s0_0 s0_1 s0_2) (hB : Below w0.heap.size w0 w) (h : spec_l2Label.f s0_0 s0_1 s0_2 = some (r1, r2, r3)) :
  Calls Try.prog 132 #[.pointer (some ⟨g, 0, none⟩)] w fun e w' => e = .returned (.int .i64 r1) ∧ IsS126 w0 w' g s0_0 r2 r3 ∧ Below w0.heap.size w0 w' ∧ KeepBut w w' g none := by
 have HI0 := Aside0.mk hI
 have HK := Aside0.mk (KeepBut.refl w g none)
 have HL := Aside0.mk hB.size
 clear hI
 have HW0 := Aside0.mk hB.size
 have HB := Aside0.mk hB
 clear hB
 have H : ((spec_l1Below.f s0_0 s0_1 s0_2 4).bind fun bt170 => (some (bt170.1, bt170.2.1, bt170.2.2))) = some (r1, r2, r3) := h
 clear h
 replace H := Option.bind_eq_some_iff.mp H
 obtain ⟨⟨t170, t171, t172⟩, A20, H⟩ := H
 try dsimp only at H
 have A2 := Aside0.mk A20
 clear A20
 simp only [Option.some.injEq, Prod.mk.injEq] at H
 obtain ⟨rfl, rfl, rfl⟩ := H
 go_enter Try.func132, Try.ntmps132
 go_wp2_with (first | ((with_reducible refine gate_callee (f := 109) rfl ?_); refine goesL_ (some 4) rfl rfl Try.func109 (by kernel_rfl) rfl #[.pointer (some ⟨g, 0, none⟩), .int .i64 4] rfl z1_ ?_; (with_reducible refine (spec_l1Below.calls g s0_0 s0_1 s0_2 4 t170 t171 t172 w0 _ ?side1 ?side2 A2.out).mono ?_); (case side1 => exact z3_); (case side2 => exact z4_); rintro e w3 ⟨rfl, hi, hb, hk⟩; refine ⟨_, rfl, ?_⟩; replace HK := Aside0.mk (KeepBut.trans z2_ hk (.inl rfl)); replace HB := Aside0.mk (hb); replace HI0 := Aside0.mk (hi); (try clear hb hk hi)))
 go_ret
 exact ⟨z6_, z3_, z4_, z2_⟩

/-! ### spec_l3Tree: function 108 -/
def spec_l3Tree.l0 : Nat → List (S80) → Int → List Int → Int → Int → Option ((List (S80)) × Int × Int)
 | 0, _, _, _, _, _ => none
 | k + 1, x5, x6, x1000, x1001, x1002 => if x6 > 0 then (if 0 ≤ (wrap64 ((x5.length : Int) - 1)) then (if (wrap64 ((x5.length : Int) - 1)) < (x5.length : Int) then ((spec_l1Below.f x1000 x1001 x1002 (wrap64 (((rd_T80 x5 (wrap64 ((x5.length : Int) - 1))).f1) + 1))).bind fun bt183 => ((spec_l1Once.f x1000 bt183.2.1 bt183.2.2 2).bind fun bt186 => (if bt186.1 = true then (if (wrap64 (((rd_T80 x5 (wrap64 ((x5.length : Int) - 1))).f1) + 1)) > 12 then ((spec_l2Label.f x1000 bt186.2.1 bt186.2.2).bind fun bt189 => (if x5.length < 8796093022208 then (spec_l3Tree.l0 k (x5 ++ [(⟨bt189.1, 1⟩ : S80)]) (wrap64 (x6 - 1)) x1000 bt189.2.1 bt189.2.2) else (none))) else ((spec_l2Label.f x1000 bt186.2.1 bt186.2.2).bind fun bt195 => (if x5.length < 8796093022208 then (spec_l3Tree.l0 k (x5 ++ [(⟨bt195.1, wrap64 (((rd_T80 x5 (wrap64 ((x5.length : Int) - 1))).f1) + 1)⟩ : S80)]) (wrap64 (x6 - 1)) x1000 bt195.2.1 bt195.2.2) else (none)))) else (if (wrap64 (1 + bt183.1)) > 12 then ((spec_l2Label.f x1000 bt186.2.1 bt186.2.2).bind fun bt201 => (if x5.length < 8796093022208 then (spec_l3Tree.l0 k (x5 ++ [(⟨bt201.1, 1⟩ : S80)]) (wrap64 (x6 - 1)) x1000 bt201.2.1 bt201.2.2) else (none))) else ((spec_l2Label.f x1000 bt186.2.1 bt186.2.2).bind fun bt207 => (if x5.length < 8796093022208 then (spec_l3Tree.l0 k (x5 ++ [(⟨bt207.1, wrap64 (1 + bt183.1)⟩ : S80)]) (wrap64 (x6 - 1)) x1000 bt207.2.1 bt207.2.2) else (none))))))) else (none)) else (none)) else (some (x5, x1001, x1002))
def spec_l3Tree.f (k : Nat) (s0_0 : List Int) (s0_1 : Int) (s0_2 : Int) (a1 : Int) : Option ((List (S80)) × Int × Int) := (spec_l2Label.f s0_0 s0_1 s0_2).bind fun bt173 => ((spec_l1Below.f s0_0 bt173.2.1 bt173.2.2 a1).bind fun bt179 => (spec_l3Tree.l0 k (([(⟨bt173.1, 0⟩ : S80)] : List (S80))) bt179.1 s0_0 bt179.2.1 bt179.2.2))
set_option maxHeartbeats 8000000 in
set_option maxRecDepth 100000 in
theorem spec_l3Tree.calls (k : Nat) (g : Nat) (s0_0 : List Int) (s0_1 : Int) (s0_2 : Int) (a1 : Int) (r1 : List (S80)) (r2 : Int) (r3 : Int) (w0 w : World) (hI : IsS126 w0 w g s0_0 s0_1 s0_2) (hB : Below w0.heap.size w0 w) (h : spec_l3Tree.f k s0_0 s0_1 s0_2 a1 = some (r1, r2, r3)) :
  Calls Try.prog 108 #[.pointer (some ⟨g, 0, none⟩), .int .i64 a1] w fun e w' => ∃ v0_ : Value, e = .returned (v0_) ∧ Kd.R k80 80 w' w.heap.size (fun _ => True) v0_ r1 ∧ IsS126 w0 w' g s0_0 r2 r3 ∧ Below w0.heap.size w0 w' ∧ KeepBut w w' g none := by
 have hu80 := Try.underlying80
 have HI0 := Aside0.mk hI
 have HK := Aside0.mk (KeepBut.refl w g none)
 have HL := Aside0.mk hB.size
 clear hI
 have HW0 := Aside0.mk hB.size
 have HB := Aside0.mk hB
 clear hB
 have H : ((spec_l2Label.f s0_0 s0_1 s0_2).bind fun bt173 => ((spec_l1Below.f s0_0 bt173.2.1 bt173.2.2 a1).bind fun bt179 => (spec_l3Tree.l0 k (([(⟨bt173.1, 0⟩ : S80)] : List (S80))) bt179.1 s0_0 bt179.2.1 bt179.2.2))) = some (r1, r2, r3) := h
 clear h
 replace H := Option.bind_eq_some_iff.mp H
 obtain ⟨⟨t173, t174, t175⟩, A30, H⟩ := H
 try dsimp only at H
 have A3 := Aside0.mk A30
 clear A30
 first | ((with_reducible have hz_ := gy_ H); obtain ⟨y176, Ny176, H⟩ := hz_) | (generalize hy_ : (([(⟨t173, 0⟩ : S80)] : List (S80))) = y176 at H; have Ny176 := Aside0.mk hy_.symm; clear hy_)
 replace H := Option.bind_eq_some_iff.mp H
 obtain ⟨⟨t179, t180, t181⟩, A40, H⟩ := H
 try dsimp only at H
 have A4 := Aside0.mk A40
 clear A40
 have H' := Aside0.mk H
 clear H
 go_enter Try.func108, Try.ntmps108
 go_wp2_with (first | ((with_reducible refine gate_callee (f := 132) rfl ?_); refine goesL_ (some 10) rfl rfl Try.func132 (by kernel_rfl) rfl #[.pointer (some ⟨g, 0, none⟩)] rfl z1_ ?_; (with_reducible refine (spec_l2Label.calls g s0_0 s0_1 s0_2 t173 t174 t175 w0 _ ?side1 ?side2 A3.out).mono ?_); (case side1 => exact z3_); (case side2 => exact z4_); rintro e w5 ⟨rfl, hi, hb, hk⟩; refine ⟨_, rfl, ?_⟩; replace HK := Aside0.mk (KeepBut.trans z2_ hk (.inl rfl)); replace HB := Aside0.mk (hb); replace HI0 := Aside0.mk (hi); (try clear hb hk hi)) | ((with_reducible refine gate_dst (N := 12) rfl ?_); refine Kd.R_lit k80 _ 80 ?hg (N := 12) ?hd (xs := ([(⟨t173, 0⟩ : S80)] : List (S80))) (inner := [.int .i64 t173, .int .i64 0]) (ok := fun _ => True) (okp := fun _ => True) ?hr ?hp (fun _ hk => hk) trivial (Below.refl _ _) (Nat.le_refl _) (by simp) ?_; (case hd => rfl); (case hg => rfl); (case hr => exact z20_); (case hp => exact (Reps.c2 (show Kd.M k80 _ _ _ (⟨t173, 0⟩ : S80) [.int .i64 t173, .int .i64 0] from (k80_mkM _ _ _ (⟨t173, 0⟩ : S80) )) (Reps.none _ _))); intro v177 w6 ho7 hb hg_ hnew_; clear hg_ hnew_; (first | rw [← Ny176.out] at ho7 | (simp only [Int.reduceToNat] at ho7; rw [← Ny176.out] at ho7)); have HO178 := Aside0.mk (Kd.R_lower ho7 (keep_size (w := w) (g := g) (row := none) z2_)); replace HK := Aside0.mk (KeepBut.trans z2_ (KeepBut.of_below hb g none) (.inl rfl)); replace HB := Aside0.mk (below_step z4_ hb); replace HI0 := Aside0.mk (IsS126.below z3_ hb); clear hb ho7) | ((with_reducible refine gate_callee (f := 109) rfl ?_); refine goesL_ (some 15) rfl rfl Try.func109 (by kernel_rfl) rfl #[.pointer (some ⟨g, 0, none⟩), .int .i64 a1] rfl z1_ ?_; (with_reducible refine (spec_l1Below.calls g s0_0 t174 t175 a1 t179 t180 t181 w0 _ ?side1 ?side2 A4.out).mono ?_); (case side1 => exact z3_); (case side2 => exact z4_); rintro e w8 ⟨rfl, hi, hb, hk⟩; refine ⟨_, rfl, ?_⟩; replace HO178 := Aside0.mk (Kd.R_mono (Kd.R_keep (IsS126.apart (show IsS126 w0 _ g s0_0 t174 t175 from by repeat (first | (with_reducible first | exact HI0.out | apply IsS126.alloc | apply IsS126.drewN | apply IsS126.drew | apply IsS126.set_1 | apply IsS126.set_2) | exact HI0.out)) z200_ (by decide)) hk (fun _ h => h.2)) (fun _ h => h.1)); replace HK := Aside0.mk (KeepBut.trans z2_ hk (.inl rfl)); replace HB := Aside0.mk (hb); replace HI0 := Aside0.mk (hi); (try clear hb hk hi)))
 go_loopg [5, 6] k (fun kq v5 v6 w' => ∃ (x5_1 : List (S80)) (x6_1 : Int) (x1001_1 : Int) (x1002_1 : Int), v6 = .int .i64 x6_1 ∧ Aside0 (spec_l3Tree.l0 kq x5_1 x6_1 s0_0 x1001_1 x1002_1 = some (r1, r2, r3)) ∧ Aside0 (kq ≤ k) ∧ Aside0 (Kd.R k80 80 w' w.heap.size (fun _ => True) v5 x5_1) ∧ Aside0 (IsS126 w0 w' g s0_0 x1001_1 x1002_1) ∧ Aside0 (KeepBut w w' g none) ∧ Aside0 (Below w0.heap.size w0 w'))
 case atStart => exact ⟨(y176), (t179), (t180), (t181), z11_, H', ⟨Nat.le_refl _⟩, ⟨z200_⟩, ⟨z3_⟩, ⟨z2_⟩, ⟨z4_⟩⟩
 case round =>
  clear H'
  try clear c1
  try clear c2
  try clear p2
  obtain ⟨x5_1, x6_1, x1001_1, x1002_1, rfl, HA, HK1, HO_5, HI0, HK, HB⟩ := hrel
  cases gk with
  | zero => exact absurd HA.out (by simp [spec_l3Tree.l0])
  | succ k1 =>
   have H := HA.out
   clear HA
   simp only [spec_l3Tree.l0] at H
   by_cases c9 : x6_1 > 0
   ·rw [if_pos c9] at H
    have c9b0 := decide_eq_true c9
    clear c9
    obtain ⟨ji10, hji10⟩ : ∃ j_ : Int, (wrap64 ((x5_1.length : Int) - 1)) = j_ := ⟨_, rfl⟩
    first | rw [hji10] at H | simp only [hji10] at H
    have hji10w : (IntKind.i64.wrap ((x5_1.length : Int) - 1)) = ji10 := (i64_w _).trans hji10
    obtain ⟨c11b0, H⟩ := ifd_ H
    obtain ⟨c12b0, H⟩ := ifd_ H
    replace H := Option.bind_eq_some_iff.mp H
    obtain ⟨⟨t183, t184, t185⟩, A130, H⟩ := H
    try dsimp only at H
    have A13 := Aside0.mk A130
    clear A130
    replace H := Option.bind_eq_some_iff.mp H
    obtain ⟨⟨t186, t187, t188⟩, A140, H⟩ := H
    try dsimp only at H
    have A14 := Aside0.mk A140
    clear A140
    by_cases c15 : t186 = true
    ·subst c15
     replace H := ift_ H
     by_cases c16 : (wrap64 (((rd_T80 x5_1 (ji10)).f1) + 1)) > 12
     ·rw [if_pos c16] at H
      have c16b0 := decide_eq_true c16
      clear c16
      replace H := Option.bind_eq_some_iff.mp H
      obtain ⟨⟨t189, t190, t191⟩, A170, H⟩ := H
      try dsimp only at H
      have A17 := Aside0.mk A170
      clear A170
      obtain ⟨c18, H⟩ := ifs_ H
      have LMc18 := Aside0.mk c18
      clear c18
      first | ((with_reducible have hz_ := gy_ H); obtain ⟨y192, Ny192, H⟩ := hz_) | (generalize hy_ : (x5_1 ++ [(⟨t189, 1⟩ : S80)]) = y192 at H; have Ny192 := Aside0.mk hy_.symm; clear hy_)
      have H' := Aside0.mk H
      clear H
      obtain ⟨Ao19, co19, eo19⟩ := Kd.R_slice HO_5.out
      subst eo19
      have p182 : 0 ≤ ((ji10) : Int) := odt_
      have q182 : (ji10) < (x5_1.length : Int) := odt_
      obtain ⟨ad182, e182, hx182_0, hx182_1⟩ := at_T80 (Kd.R_reads' HO_5.out).2.2 (ji10) p182 q182
      cases e182
      replace p182 := eq_true p182
      replace q182 := eq_true q182
      go_wp2_with (first | ((with_reducible refine gate_callee (f := 109) rfl ?_); refine goesL_ (some 30) rfl rfl Try.func109 (by kernel_rfl) rfl #[.pointer (some ⟨g, 0, none⟩), .int .i64 (wrap64 (((rd_T80 x5_1 (ji10)).f1) + 1))] rfl z109_ ?_; (with_reducible refine (spec_l1Below.calls g s0_0 x1001_1 x1002_1 (wrap64 (((rd_T80 x5_1 (ji10)).f1) + 1)) t183 t184 t185 w0 _ ?side1 ?side2 A13.out).mono ?_); (case side1 => exact z3_); (case side2 => exact z4_); rintro e w20 ⟨rfl, hi, hb, hk⟩; refine ⟨_, rfl, ?_⟩; replace HO_5 := Aside0.mk (Kd.R_mono (Kd.R_keep (IsS126.apart (show IsS126 w0 _ g s0_0 x1001_1 x1002_1 from by repeat (first | (with_reducible first | exact HI0.out | apply IsS126.alloc | apply IsS126.drewN | apply IsS126.drew | apply IsS126.set_1 | apply IsS126.set_2) | exact HI0.out)) z14_ (by decide)) hk (fun _ h => h.2)) (fun _ h => h.1)); replace HK := Aside0.mk (KeepBut.trans z2_ hk (.inl rfl)); replace HB := Aside0.mk (hb); replace HI0 := Aside0.mk (hi); (try clear hb hk hi)) | ((with_reducible refine gate_callee (f := 113) rfl ?_); refine goesL_ (some 33) rfl rfl Try.func113 (by kernel_rfl) rfl #[.pointer (some ⟨g, 0, none⟩), .int .i64 2] rfl z1_ ?_; (with_reducible refine (spec_l1Once.calls g s0_0 t184 t185 2 true t187 t188 w0 _ ?side1 ?side2 A14.out).mono ?_); (case side1 => exact z3_); (case side2 => exact z4_); rintro e w21 ⟨rfl, hi, hb, hk⟩; refine ⟨_, rfl, ?_⟩; replace HO_5 := Aside0.mk (Kd.R_mono (Kd.R_keep (IsS126.apart (show IsS126 w0 _ g s0_0 t184 t185 from by repeat (first | (with_reducible first | exact HI0.out | apply IsS126.alloc | apply IsS126.drewN | apply IsS126.drew | apply IsS126.set_1 | apply IsS126.set_2) | exact HI0.out)) z14_ (by decide)) hk (fun _ h => h.2)) (fun _ h => h.1)); replace HK := Aside0.mk (KeepBut.trans z2_ hk (.inl rfl)); replace HB := Aside0.mk (hb); replace HI0 := Aside0.mk (hi); (try clear hb hk hi)) | ((with_reducible refine gate_callee (f := 132) rfl ?_); refine goesL_ (some 40) rfl rfl Try.func132 (by kernel_rfl) rfl #[.pointer (some ⟨g, 0, none⟩)] rfl z1_ ?_; (with_reducible refine (spec_l2Label.calls g s0_0 t187 t188 t189 t190 t191 w0 _ ?side1 ?side2 A17.out).mono ?_); (case side1 => exact z3_); (case side2 => exact z4_); rintro e w22 ⟨rfl, hi, hb, hk⟩; refine ⟨_, rfl, ?_⟩; replace HO_5 := Aside0.mk (Kd.R_mono (Kd.R_keep (IsS126.apart (show IsS126 w0 _ g s0_0 t187 t188 from by repeat (first | (with_reducible first | exact HI0.out | apply IsS126.alloc | apply IsS126.drewN | apply IsS126.drew | apply IsS126.set_1 | apply IsS126.set_2) | exact HI0.out)) z14_ (by decide)) hk (fun _ h => h.2)) (fun _ h => h.1)); replace HK := Aside0.mk (KeepBut.trans z2_ hk (.inl rfl)); replace HB := Aside0.mk (hb); replace HI0 := Aside0.mk (hi); (try clear hb hk hi)) | ((with_reducible refine gate_builtin (b := .append) (xs := #[.tmp 38, .tmp 43]) rfl ?_); at_builtin; refine Kd.R_append k80 w.heap.size rfl (.tmp 38) (.tmp 43) 29 80 (.agg #[(.int .i64 0), (.int .i64 0)]) 16 rfl Try.underlying29 info80 rfl (by decide) (by omega) (.slice (some ad182) x5_1.length co19) x5_1 (⟨t189, 1⟩ : S80) [.int .i64 t189, .int .i64 1] (fun _ => True) (fun _ => False) rfl rfl ?aP (fun _ hk => hk.elim) ?aF ?aO (Below.refl _ _) ?aS ?aL ?_; (case aP => exact k80_mkM _ _ _ (⟨t189, 1⟩ : S80)); (case aF => exact z116_); (case aO => exact z61_); (case aS => exact z60_); (case aL => exact z222_); intro v193 w23 ho hb hg hat; rw [← Ny192.out] at ho; replace HB := Aside0.mk (below_weaken z4_ HL.out hb); replace HI0 := Aside0.mk (IsS126.grown z3_ hg (IsS126.own_ne HI0.out HO_5.out (by decide))); replace HK := Aside0.mk (KeepBut.trans z2_ (KeepBut.of_grown hg g) (Kd.R_base2 HO_5.out)); have HO194 := Aside0.mk (ho); clear HO_5; clear ho hb hg hat))
      go_roundg k1
      case measure => have := HK1.out; omega
      case rel => exact ⟨(y192), (wrap64 (x6_1 - 1)), (t190), (t191), z11_, H', ⟨z106_⟩, ⟨by (with_reducible repeat (first | apply Kd.R_alloc | apply Kd.R_drewN | apply Kd.R_drew)); exact HO194.out⟩, ⟨z3_⟩, ⟨z2_⟩, ⟨z4_⟩⟩
     ·rw [if_neg c16] at H
      have c16b0 := decide_eq_false c16
      clear c16
      replace H := Option.bind_eq_some_iff.mp H
      obtain ⟨⟨t195, t196, t197⟩, A240, H⟩ := H
      try dsimp only at H
      have A24 := Aside0.mk A240
      clear A240
      obtain ⟨c25, H⟩ := ifs_ H
      have LMc25 := Aside0.mk c25
      clear c25
      first | ((with_reducible have hz_ := gy_ H); obtain ⟨y198, Ny198, H⟩ := hz_) | (generalize hy_ : (x5_1 ++ [(⟨t195, wrap64 (((rd_T80 x5_1 (ji10)).f1) + 1)⟩ : S80)]) = y198 at H; have Ny198 := Aside0.mk hy_.symm; clear hy_)
      have H' := Aside0.mk H
      clear H
      obtain ⟨Ao26, co26, eo26⟩ := Kd.R_slice HO_5.out
      subst eo26
      have p182 : 0 ≤ ((ji10) : Int) := odt_
      have q182 : (ji10) < (x5_1.length : Int) := odt_
      obtain ⟨ad182, e182, hx182_0, hx182_1⟩ := at_T80 (Kd.R_reads' HO_5.out).2.2 (ji10) p182 q182
      cases e182
      replace p182 := eq_true p182
      replace q182 := eq_true q182
      go_wp2_with (first | ((with_reducible refine gate_callee (f := 109) rfl ?_); refine goesL_ (some 30) rfl rfl Try.func109 (by kernel_rfl) rfl #[.pointer (some ⟨g, 0, none⟩), .int .i64 (wrap64 (((rd_T80 x5_1 (ji10)).f1) + 1))] rfl z109_ ?_; (with_reducible refine (spec_l1Below.calls g s0_0 x1001_1 x1002_1 (wrap64 (((rd_T80 x5_1 (ji10)).f1) + 1)) t183 t184 t185 w0 _ ?side1 ?side2 A13.out).mono ?_); (case side1 => exact z3_); (case side2 => exact z4_); rintro e w27 ⟨rfl, hi, hb, hk⟩; refine ⟨_, rfl, ?_⟩; replace HO_5 := Aside0.mk (Kd.R_mono (Kd.R_keep (IsS126.apart (show IsS126 w0 _ g s0_0 x1001_1 x1002_1 from by repeat (first | (with_reducible first | exact HI0.out | apply IsS126.alloc | apply IsS126.drewN | apply IsS126.drew | apply IsS126.set_1 | apply IsS126.set_2) | exact HI0.out)) z14_ (by decide)) hk (fun _ h => h.2)) (fun _ h => h.1)); replace HK := Aside0.mk (KeepBut.trans z2_ hk (.inl rfl)); replace HB := Aside0.mk (hb); replace HI0 := Aside0.mk (hi); (try clear hb hk hi)) | ((with_reducible refine gate_callee (f := 113) rfl ?_); refine goesL_ (some 33) rfl rfl Try.func113 (by kernel_rfl) rfl #[.pointer (some ⟨g, 0, none⟩), .int .i64 2] rfl z1_ ?_; (with_reducible refine (spec_l1Once.calls g s0_0 t184 t185 2 true t187 t188 w0 _ ?side1 ?side2 A14.out).mono ?_); (case side1 => exact z3_); (case side2 => exact z4_); rintro e w28 ⟨rfl, hi, hb, hk⟩; refine ⟨_, rfl, ?_⟩; replace HO_5 := Aside0.mk (Kd.R_mono (Kd.R_keep (IsS126.apart (show IsS126 w0 _ g s0_0 t184 t185 from by repeat (first | (with_reducible first | exact HI0.out | apply IsS126.alloc | apply IsS126.drewN | apply IsS126.drew | apply IsS126.set_1 | apply IsS126.set_2) | exact HI0.out)) z14_ (by decide)) hk (fun _ h => h.2)) (fun _ h => h.1)); replace HK := Aside0.mk (KeepBut.trans z2_ hk (.inl rfl)); replace HB := Aside0.mk (hb); replace HI0 := Aside0.mk (hi); (try clear hb hk hi)) | ((with_reducible refine gate_callee (f := 132) rfl ?_); refine goesL_ (some 40) rfl rfl Try.func132 (by kernel_rfl) rfl #[.pointer (some ⟨g, 0, none⟩)] rfl z1_ ?_; (with_reducible refine (spec_l2Label.calls g s0_0 t187 t188 t195 t196 t197 w0 _ ?side1 ?side2 A24.out).mono ?_); (case side1 => exact z3_); (case side2 => exact z4_); rintro e w29 ⟨rfl, hi, hb, hk⟩; refine ⟨_, rfl, ?_⟩; replace HO_5 := Aside0.mk (Kd.R_mono (Kd.R_keep (IsS126.apart (show IsS126 w0 _ g s0_0 t187 t188 from by repeat (first | (with_reducible first | exact HI0.out | apply IsS126.alloc | apply IsS126.drewN | apply IsS126.drew | apply IsS126.set_1 | apply IsS126.set_2) | exact HI0.out)) z14_ (by decide)) hk (fun _ h => h.2)) (fun _ h => h.1)); replace HK := Aside0.mk (KeepBut.trans z2_ hk (.inl rfl)); replace HB := Aside0.mk (hb); replace HI0 := Aside0.mk (hi); (try clear hb hk hi)) | ((with_reducible refine gate_builtin (b := .append) (xs := #[.tmp 38, .tmp 43]) rfl ?_); at_builtin; refine Kd.R_append k80 w.heap.size rfl (.tmp 38) (.tmp 43) 29 80 (.agg #[(.int .i64 0), (.int .i64 0)]) 16 rfl Try.underlying29 info80 rfl (by decide) (by omega) (.slice (some ad182) x5_1.length co26) x5_1 (⟨t195, wrap64 (((rd_T80 x5_1 (ji10)).f1) + 1)⟩ : S80) [.int .i64 t195, .int .i64 (wrap64 (((rd_T80 x5_1 (ji10)).f1) + 1))] (fun _ => True) (fun _ => False) rfl rfl ?aP (fun _ hk => hk.elim) ?aF ?aO (Below.refl _ _) ?aS ?aL ?_; (case aP => exact k80_mkM _ _ _ (⟨t195, wrap64 (((rd_T80 x5_1 (ji10)).f1) + 1)⟩ : S80)); (case aF => exact z116_); (case aO => exact z61_); (case aS => exact z60_); (case aL => have := LMc25.out; omega); intro v199 w30 ho hb hg hat; rw [← Ny198.out] at ho; replace HB := Aside0.mk (below_weaken z4_ HL.out hb); replace HI0 := Aside0.mk (IsS126.grown z3_ hg (IsS126.own_ne HI0.out HO_5.out (by decide))); replace HK := Aside0.mk (KeepBut.trans z2_ (KeepBut.of_grown hg g) (Kd.R_base2 HO_5.out)); have HO200 := Aside0.mk (ho); clear HO_5; clear ho hb hg hat))
      go_roundg k1
      case measure => have := HK1.out; omega
      case rel => exact ⟨(y198), (wrap64 (x6_1 - 1)), (t196), (t197), z11_, H', ⟨z106_⟩, ⟨by (with_reducible repeat (first | apply Kd.R_alloc | apply Kd.R_drewN | apply Kd.R_drew)); exact HO200.out⟩, ⟨z3_⟩, ⟨z2_⟩, ⟨z4_⟩⟩
    ·replace c15 := Bool.eq_false_iff.mpr c15
     subst c15
     replace H := iff_ H
     by_cases c31 : (wrap64 (1 + t183)) > 12
     ·rw [if_pos c31] at H
      have c31b0 := decide_eq_true c31
      clear c31
      replace H := Option.bind_eq_some_iff.mp H
      obtain ⟨⟨t201, t202, t203⟩, A320, H⟩ := H
      try dsimp only at H
      have A32 := Aside0.mk A320
      clear A320
      obtain ⟨c33, H⟩ := ifs_ H
      have LMc33 := Aside0.mk c33
      clear c33
      first | ((with_reducible have hz_ := gy_ H); obtain ⟨y204, Ny204, H⟩ := hz_) | (generalize hy_ : (x5_1 ++ [(⟨t201, 1⟩ : S80)]) = y204 at H; have Ny204 := Aside0.mk hy_.symm; clear hy_)
      have H' := Aside0.mk H
      clear H
      obtain ⟨Ao34, co34, eo34⟩ := Kd.R_slice HO_5.out
      subst eo34
      have p182 : 0 ≤ ((ji10) : Int) := odt_
      have q182 : (ji10) < (x5_1.length : Int) := odt_
      obtain ⟨ad182, e182, hx182_0, hx182_1⟩ := at_T80 (Kd.R_reads' HO_5.out).2.2 (ji10) p182 q182
      cases e182
      replace p182 := eq_true p182
      replace q182 := eq_true q182
      go_wp2_with (first | ((with_reducible refine gate_callee (f := 109) rfl ?_); refine goesL_ (some 30) rfl rfl Try.func109 (by kernel_rfl) rfl #[.pointer (some ⟨g, 0, none⟩), .int .i64 (wrap64 (((rd_T80 x5_1 (ji10)).f1) + 1))] rfl z109_ ?_; (with_reducible refine (spec_l1Below.calls g s0_0 x1001_1 x1002_1 (wrap64 (((rd_T80 x5_1 (ji10)).f1) + 1)) t183 t184 t185 w0 _ ?side1 ?side2 A13.out).mono ?_); (case side1 => exact z3_); (case side2 => exact z4_); rintro e w35 ⟨rfl, hi, hb, hk⟩; refine ⟨_, rfl, ?_⟩; replace HO_5 := Aside0.mk (Kd.R_mono (Kd.R_keep (IsS126.apart (show IsS126 w0 _ g s0_0 x1001_1 x1002_1 from by repeat (first | (with_reducible first | exact HI0.out | apply IsS126.alloc | apply IsS126.drewN | apply IsS126.drew | apply IsS126.set_1 | apply IsS126.set_2) | exact HI0.out)) z14_ (by decide)) hk (fun _ h => h.2)) (fun _ h => h.1)); replace HK := Aside0.mk (KeepBut.trans z2_ hk (.inl rfl)); replace HB := Aside0.mk (hb); replace HI0 := Aside0.mk (hi); (try clear hb hk hi)) | ((with_reducible refine gate_callee (f := 113) rfl ?_); refine goesL_ (some 33) rfl rfl Try.func113 (by kernel_rfl) rfl #[.pointer (some ⟨g, 0, none⟩), .int .i64 2] rfl z1_ ?_; (with_reducible refine (spec_l1Once.calls g s0_0 t184 t185 2 false t187 t188 w0 _ ?side1 ?side2 A14.out).mono ?_); (case side1 => exact z3_); (case side2 => exact z4_); rintro e w36 ⟨rfl, hi, hb, hk⟩; refine ⟨_, rfl, ?_⟩; replace HO_5 := Aside0.mk (Kd.R_mono (Kd.R_keep (IsS126.apart (show IsS126 w0 _ g s0_0 t184 t185 from by repeat (first | (with_reducible first | exact HI0.out | apply IsS126.alloc | apply IsS126.drewN | apply IsS126.drew | apply IsS126.set_1 | apply IsS126.set_2) | exact HI0.out)) z14_ (by decide)) hk (fun _ h => h.2)) (fun _ h => h.1)); replace HK := Aside0.mk (KeepBut.trans z2_ hk (.inl rfl)); replace HB := Aside0.mk (hb); replace HI0 := Aside0.mk (hi); (try clear hb hk hi)) | ((with_reducible refine gate_callee (f := 132) rfl ?_); refine goesL_ (some 40) rfl rfl Try.func132 (by kernel_rfl) rfl #[.pointer (some ⟨g, 0, none⟩)] rfl z1_ ?_; (with_reducible refine (spec_l2Label.calls g s0_0 t187 t188 t201 t202 t203 w0 _ ?side1 ?side2 A32.out).mono ?_); (case side1 => exact z3_); (case side2 => exact z4_); rintro e w37 ⟨rfl, hi, hb, hk⟩; refine ⟨_, rfl, ?_⟩; replace HO_5 := Aside0.mk (Kd.R_mono (Kd.R_keep (IsS126.apart (show IsS126 w0 _ g s0_0 t187 t188 from by repeat (first | (with_reducible first | exact HI0.out | apply IsS126.alloc | apply IsS126.drewN | apply IsS126.drew | apply IsS126.set_1 | apply IsS126.set_2) | exact HI0.out)) z14_ (by decide)) hk (fun _ h => h.2)) (fun _ h => h.1)); replace HK := Aside0.mk (KeepBut.trans z2_ hk (.inl rfl)); replace HB := Aside0.mk (hb); replace HI0 := Aside0.mk (hi); (try clear hb hk hi)) | ((with_reducible refine gate_builtin (b := .append) (xs := #[.tmp 38, .tmp 43]) rfl ?_); at_builtin; refine Kd.R_append k80 w.heap.size rfl (.tmp 38) (.tmp 43) 29 80 (.agg #[(.int .i64 0), (.int .i64 0)]) 16 rfl Try.underlying29 info80 rfl (by decide) (by omega) (.slice (some ad182) x5_1.length co34) x5_1 (⟨t201, 1⟩ : S80) [.int .i64 t201, .int .i64 1] (fun _ => True) (fun _ => False) rfl rfl ?aP (fun _ hk => hk.elim) ?aF ?aO (Below.refl _ _) ?aS ?aL ?_; (case aP => exact k80_mkM _ _ _ (⟨t201, 1⟩ : S80)); (case aF => exact z116_); (case aO => exact z61_); (case aS => exact z60_); (case aL => have := LMc33.out; omega); intro v205 w38 ho hb hg hat; rw [← Ny204.out] at ho; replace HB := Aside0.mk (below_weaken z4_ HL.out hb); replace HI0 := Aside0.mk (IsS126.grown z3_ hg (IsS126.own_ne HI0.out HO_5.out (by decide))); replace HK := Aside0.mk (KeepBut.trans z2_ (KeepBut.of_grown hg g) (Kd.R_base2 HO_5.out)); have HO206 := Aside0.mk (ho); clear HO_5; clear ho hb hg hat))
      go_roundg k1
      case measure => have := HK1.out; omega
      case rel => exact ⟨(y204), (wrap64 (x6_1 - 1)), (t202), (t203), z11_, H', ⟨z106_⟩, ⟨by (with_reducible repeat (first | apply Kd.R_alloc | apply Kd.R_drewN | apply Kd.R_drew)); exact HO206.out⟩, ⟨z3_⟩, ⟨z2_⟩, ⟨z4_⟩⟩
     ·rw [if_neg c31] at H
      have c31b0 := decide_eq_false c31
      clear c31
      replace H := Option.bind_eq_some_iff.mp H
      obtain ⟨⟨t207, t208, t209⟩, A390, H⟩ := H
      try dsimp only at H
      have A39 := Aside0.mk A390
      clear A390
      obtain ⟨c40, H⟩ := ifs_ H
      have LMc40 := Aside0.mk c40
      clear c40
      first | ((with_reducible have hz_ := gy_ H); obtain ⟨y210, Ny210, H⟩ := hz_) | (generalize hy_ : (x5_1 ++ [(⟨t207, wrap64 (1 + t183)⟩ : S80)]) = y210 at H; have Ny210 := Aside0.mk hy_.symm; clear hy_)
      have H' := Aside0.mk H
      clear H
      obtain ⟨Ao41, co41, eo41⟩ := Kd.R_slice HO_5.out
      subst eo41
      have p182 : 0 ≤ ((ji10) : Int) := odt_
      have q182 : (ji10) < (x5_1.length : Int) := odt_
      obtain ⟨ad182, e182, hx182_0, hx182_1⟩ := at_T80 (Kd.R_reads' HO_5.out).2.2 (ji10) p182 q182
      cases e182
      replace p182 := eq_true p182
      replace q182 := eq_true q182
      go_wp2_with (first | ((with_reducible refine gate_callee (f := 109) rfl ?_); refine goesL_ (some 30) rfl rfl Try.func109 (by kernel_rfl) rfl #[.pointer (some ⟨g, 0, none⟩), .int .i64 (wrap64 (((rd_T80 x5_1 (ji10)).f1) + 1))] rfl z109_ ?_; (with_reducible refine (spec_l1Below.calls g s0_0 x1001_1 x1002_1 (wrap64 (((rd_T80 x5_1 (ji10)).f1) + 1)) t183 t184 t185 w0 _ ?side1 ?side2 A13.out).mono ?_); (case side1 => exact z3_); (case side2 => exact z4_); rintro e w42 ⟨rfl, hi, hb, hk⟩; refine ⟨_, rfl, ?_⟩; replace HO_5 := Aside0.mk (Kd.R_mono (Kd.R_keep (IsS126.apart (show IsS126 w0 _ g s0_0 x1001_1 x1002_1 from by repeat (first | (with_reducible first | exact HI0.out | apply IsS126.alloc | apply IsS126.drewN | apply IsS126.drew | apply IsS126.set_1 | apply IsS126.set_2) | exact HI0.out)) z14_ (by decide)) hk (fun _ h => h.2)) (fun _ h => h.1)); replace HK := Aside0.mk (KeepBut.trans z2_ hk (.inl rfl)); replace HB := Aside0.mk (hb); replace HI0 := Aside0.mk (hi); (try clear hb hk hi)) | ((with_reducible refine gate_callee (f := 113) rfl ?_); refine goesL_ (some 33) rfl rfl Try.func113 (by kernel_rfl) rfl #[.pointer (some ⟨g, 0, none⟩), .int .i64 2] rfl z1_ ?_; (with_reducible refine (spec_l1Once.calls g s0_0 t184 t185 2 false t187 t188 w0 _ ?side1 ?side2 A14.out).mono ?_); (case side1 => exact z3_); (case side2 => exact z4_); rintro e w43 ⟨rfl, hi, hb, hk⟩; refine ⟨_, rfl, ?_⟩; replace HO_5 := Aside0.mk (Kd.R_mono (Kd.R_keep (IsS126.apart (show IsS126 w0 _ g s0_0 t184 t185 from by repeat (first | (with_reducible first | exact HI0.out | apply IsS126.alloc | apply IsS126.drewN | apply IsS126.drew | apply IsS126.set_1 | apply IsS126.set_2) | exact HI0.out)) z14_ (by decide)) hk (fun _ h => h.2)) (fun _ h => h.1)); replace HK := Aside0.mk (KeepBut.trans z2_ hk (.inl rfl)); replace HB := Aside0.mk (hb); replace HI0 := Aside0.mk (hi); (try clear hb hk hi)) | ((with_reducible refine gate_callee (f := 132) rfl ?_); refine goesL_ (some 40) rfl rfl Try.func132 (by kernel_rfl) rfl #[.pointer (some ⟨g, 0, none⟩)] rfl z1_ ?_; (with_reducible refine (spec_l2Label.calls g s0_0 t187 t188 t207 t208 t209 w0 _ ?side1 ?side2 A39.out).mono ?_); (case side1 => exact z3_); (case side2 => exact z4_); rintro e w44 ⟨rfl, hi, hb, hk⟩; refine ⟨_, rfl, ?_⟩; replace HO_5 := Aside0.mk (Kd.R_mono (Kd.R_keep (IsS126.apart (show IsS126 w0 _ g s0_0 t187 t188 from by repeat (first | (with_reducible first | exact HI0.out | apply IsS126.alloc | apply IsS126.drewN | apply IsS126.drew | apply IsS126.set_1 | apply IsS126.set_2) | exact HI0.out)) z14_ (by decide)) hk (fun _ h => h.2)) (fun _ h => h.1)); replace HK := Aside0.mk (KeepBut.trans z2_ hk (.inl rfl)); replace HB := Aside0.mk (hb); replace HI0 := Aside0.mk (hi); (try clear hb hk hi)) | ((with_reducible refine gate_builtin (b := .append) (xs := #[.tmp 38, .tmp 43]) rfl ?_); at_builtin; refine Kd.R_append k80 w.heap.size rfl (.tmp 38) (.tmp 43) 29 80 (.agg #[(.int .i64 0), (.int .i64 0)]) 16 rfl Try.underlying29 info80 rfl (by decide) (by omega) (.slice (some ad182) x5_1.length co41) x5_1 (⟨t207, wrap64 (1 + t183)⟩ : S80) [.int .i64 t207, .int .i64 (wrap64 (1 + t183))] (fun _ => True) (fun _ => False) rfl rfl ?aP (fun _ hk => hk.elim) ?aF ?aO (Below.refl _ _) ?aS ?aL ?_; (case aP => exact k80_mkM _ _ _ (⟨t207, wrap64 (1 + t183)⟩ : S80)); (case aF => exact z116_); (case aO => exact z61_); (case aS => exact z60_); (case aL => have := LMc40.out; omega); intro v211 w45 ho hb hg hat; rw [← Ny210.out] at ho; replace HB := Aside0.mk (below_weaken z4_ HL.out hb); replace HI0 := Aside0.mk (IsS126.grown z3_ hg (IsS126.own_ne HI0.out HO_5.out (by decide))); replace HK := Aside0.mk (KeepBut.trans z2_ (KeepBut.of_grown hg g) (Kd.R_base2 HO_5.out)); have HO212 := Aside0.mk (ho); clear HO_5; clear ho hb hg hat))
      go_roundg k1
      case measure => have := HK1.out; omega
      case rel => exact ⟨(y210), (wrap64 (x6_1 - 1)), (t208), (t209), z11_, H', ⟨z106_⟩, ⟨by (with_reducible repeat (first | apply Kd.R_alloc | apply Kd.R_drewN | apply Kd.R_drew)); exact HO212.out⟩, ⟨z3_⟩, ⟨z2_⟩, ⟨z4_⟩⟩
   ·rw [if_neg c9] at H
    have c9b0 := decide_eq_false c9
    clear c9
    simp only [Option.some.injEq, Prod.mk.injEq] at H
    obtain ⟨rfl, rfl, rfl⟩ := H
    go_wp2
    go_ret
    exact ⟨_, z6_, z14_, z3_, z4_, z2_⟩

/-! ### spec_l1PickInt: function 111 -/
def spec_l1PickInt.f (s0_0 : List Int) (s0_1 : Int) (s0_2 : Int) (l1 : List Int) : Option (Int × Int × Int) := (spec_l1Below.f s0_0 s0_1 s0_2 (l1.length : Int)).bind fun bt213 => (if 0 ≤ bt213.1 then (if bt213.1 < (l1.length : Int) then (some (rd l1 bt213.1, bt213.2.1, bt213.2.2)) else (none)) else (none))
set_option maxHeartbeats 8000000 in
set_option maxRecDepth 100000 in
theorem spec_l1PickInt.calls (g : Nat) (s0_0 : List Int) (s0_1 : Int) (s0_2 : Int) (A1 : Option Addr) (c1 : Nat) (l1 : List Int) (r1 : Int) (r2 : Int) (r3 : Int) (w0 w : World) (hI : IsS126 w0 w g s0_0 s0_1 s0_2) (hB : Below w0.heap.size w0 w) (hr1 : Kd.C (Kd.int .i64) w A1 l1.length l1) (hc1 : l1.length ≤ c1) (hf1 : ∀ ad, A1 = some ad → 0 < l1.length → ad.block ≠ g) (h : spec_l1PickInt.f s0_0 s0_1 s0_2 l1 = some (r1, r2, r3)) :
  Calls Try.prog 111 #[.pointer (some ⟨g, 0, none⟩), .slice A1 l1.length c1] w fun e w' => e = .returned (.int .i64 r1) ∧ IsS126 w0 w' g s0_0 r2 r3 ∧ Below w0.heap.size w0 w' ∧ KeepBut w w' g none := by
 have HR1 := Aside0.mk hr1
 have HC1 := Aside0.mk hc1
 clear hr1 hc1
 have HI0 := Aside0.mk hI
 have HK := Aside0.mk (KeepBut.refl w g none)
 have HL := Aside0.mk hB.size
 clear hI
 have HW0 := Aside0.mk hB.size
 have HB := Aside0.mk hB
 clear hB
 have H : ((spec_l1Below.f s0_0 s0_1 s0_2 (l1.length : Int)).bind fun bt213 => (if 0 ≤ bt213.1 then (if bt213.1 < (l1.length : Int) then (some (rd l1 bt213.1, bt213.2.1, bt213.2.2)) else (none)) else (none))) = some (r1, r2, r3) := h
 clear h
 replace H := Option.bind_eq_some_iff.mp H
 obtain ⟨⟨t213, t214, t215⟩, A30, H⟩ := H
 try dsimp only at H
 have A3 := Aside0.mk A30
 clear A30
 obtain ⟨c4b0, H⟩ := ifd_ H
 obtain ⟨c5b0, H⟩ := ifd_ H
 simp only [Option.some.injEq, Prod.mk.injEq] at H
 obtain ⟨rfl, rfl, rfl⟩ := H
 go_enter Try.func111, Try.ntmps111
 go_wp2_with (first | ((with_reducible refine gate_callee (f := 109) rfl ?_); refine goesL_ (some 9) rfl rfl Try.func109 (by kernel_rfl) rfl #[.pointer (some ⟨g, 0, none⟩), .int .i64 (l1.length : Int)] rfl z1_ ?_; (with_reducible refine (spec_l1Below.calls g s0_0 s0_1 s0_2 (l1.length : Int) t213 t214 t215 w0 _ ?side1 ?side2 A3.out).mono ?_); (case side1 => exact z3_); (case side2 => exact z4_); rintro e w6 ⟨rfl, hi, hb, hk⟩; refine ⟨_, rfl, ?_⟩; replace HK := Aside0.mk (KeepBut.trans z2_ hk (.inl rfl)); replace HB := Aside0.mk (hb); replace HI0 := Aside0.mk (hi); (try clear hb hk hi); have p216 : 0 ≤ (t213 : Int) := odt_; have q216 : t213 < (l1.length : Int) := odt_; obtain ⟨ad216, e216, hx216_0⟩ := Kd.at_int HR1.out t213 p216 q216; cases e216; replace hx216_0 := keep_cell HK.out hx216_0 (by first | (rw [add_block]; exact hf1 _ rfl (by omega)) | exact hf1 _ rfl (by omega) | exact hf1 ad216 rfl (by omega)); replace p216 := eq_true p216; replace q216 := eq_true q216))
 go_ret
 exact ⟨z6_, z3_, z4_, z2_⟩

/-! ### spec_l2Any: function 110 -/
def spec_l2Any.f (s0_0 : List Int) (s0_1 : Int) (s0_2 : Int) : Option (Int × Int × Int) := (spec_l1PickInt.f s0_0 s0_1 s0_2 (([0, 1, 2, 3, 5, 6, (-1)] : List Int))).bind fun bt220 => (some (bt220.1, bt220.2.1, bt220.2.2))
set_option maxHeartbeats 8000000 in
set_option maxRecDepth 100000 in
theorem spec_l2Any.calls (g : Nat) (s0_0 : List Int) (s0_1 : Int) (s0_2 : Int) (r1 : Int) (r2 : Int) (r3 : Int) (w0 w : World) (hI : IsS126 w0 w g s0_0 s0_1 s0_2) (hB : Below w0.heap.size w0 w) (h : spec_l2Any.f s0_0 s0_1 s0_2 = some (r1, r2, r3)) :
  Calls Try.prog 110 #[.pointer (some ⟨g, 0, none⟩)] w fun e w' => e = .returned (.int .i64 r1) ∧ IsS126 w0 w' g s0_0 r2 r3 ∧ Below w0.heap.size w0 w' ∧ KeepBut w w' g none := by
 have HI0 := Aside0.mk hI
 have HK := Aside0.mk (KeepBut.refl w g none)
 have HL := Aside0.mk hB.size
 clear hI
 have HW0 := Aside0.mk hB.size
 have HB := Aside0.mk hB
 clear hB
 have H : ((spec_l1PickInt.f s0_0 s0_1 s0_2 (([0, 1, 2, 3, 5, 6, (-1)] : List Int))).bind fun bt220 => (some (bt220.1, bt220.2.1, bt220.2.2))) = some (r1, r2, r3) := h
 clear h
 first | ((with_reducible have hz_ := gy_ H); obtain ⟨y217, Ny217, H⟩ := hz_) | (generalize hy_ : (([0, 1, 2, 3, 5, 6, (-1)] : List Int)) = y217 at H; have Ny217 := Aside0.mk hy_.symm; clear hy_)
 replace H := Option.bind_eq_some_iff.mp H
 obtain ⟨⟨t220, t221, t222⟩, A20, H⟩ := H
 try dsimp only at H
 have A2 := Aside0.mk A20
 clear A20
 simp only [Option.some.injEq, Prod.mk.injEq] at H
 obtain ⟨rfl, rfl, rfl⟩ := H
 go_enter Try.func110, Try.ntmps110
 go_wp2_with (first | ((with_reducible refine gate_dst (N := 4) rfl ?_); refine Kd.R_lit (Kd.int .i64) _ 3 ?hg (N := 4) ?hd (xs := ([0, 1, 2, 3, 5, 6, (-1)] : List Int)) (inner := [.int .i64 0, .int .i64 1, .int .i64 2, .int .i64 3, .int .i64 5, .int .i64 6, .int .i64 (-1)]) (ok := fun _ => True) (okp := fun _ => True) ?hr ?hp (fun _ hk => hk) trivial (Below.refl _ _) (Nat.le_refl _) (by simp) ?_; (case hd => rfl); (case hg => rfl); (case hr => exact z20_); (case hp => exact (Reps.one (show Kd.M (Kd.int .i64) _ _ _ 0 [.int .i64 0] from rfl) (Reps.one (show Kd.M (Kd.int .i64) _ _ _ 1 [.int .i64 1] from rfl) (Reps.one (show Kd.M (Kd.int .i64) _ _ _ 2 [.int .i64 2] from rfl) (Reps.one (show Kd.M (Kd.int .i64) _ _ _ 3 [.int .i64 3] from rfl) (Reps.one (show Kd.M (Kd.int .i64) _ _ _ 5 [.int .i64 5] from rfl) (Reps.one (show Kd.M (Kd.int .i64) _ _ _ 6 [.int .i64 6] from rfl) (Reps.one (show Kd.M (Kd.int .i64) _ _ _ (-1) [.int .i64 (-1)] from rfl) (Reps.none _ _))))))))); intro v218 w3 ho4 hb hg_ hnew_; clear hg_ hnew_; (first | rw [← Ny217.out] at ho4 | (simp only [Int.reduceToNat] at ho4; rw [← Ny217.out] at ho4)); have HO219 := Aside0.mk (Kd.R_lower ho4 (keep_size (w := w) (g := g) (row := none) z2_)); replace HK := Aside0.mk (KeepBut.trans z2_ (KeepBut.of_below hb g none) (.inl rfl)); replace HB := Aside0.mk (below_step z4_ hb); replace HI0 := Aside0.mk (IsS126.below z3_ hb); clear hb ho4; obtain ⟨Ao5, co5, eo5⟩ := Kd.R_slice HO219.out; subst eo5) | ((with_reducible refine gate_callee (f := 111) rfl ?_); refine goesL_ (some 5) rfl rfl Try.func111 (by kernel_rfl) rfl #[.pointer (some ⟨g, 0, none⟩), .slice Ao5 y217.length co5] rfl z1_ ?_; (with_reducible refine (spec_l1PickInt.calls g s0_0 s0_1 s0_2 _ _ y217 t220 t221 t222 w0 _ ?side1 ?side2 ?side3 ?side4 ?side5 A2.out).mono ?_); (case side1 => exact z3_); (case side2 => exact z4_); (case side3 => repeat (first | exact (Kd.R_reads' HO219.out).2.2 | (with_reducible refine Kd.C_alloc ?_ _) | (with_reducible refine Kd.C_drewN ?_ _) | (with_reducible refine Kd.C_drew ?_))); (case side4 => exact (Kd.R_reads' HO219.out).2.1); (case side5 => exact far_slice (IsS126.own_ne HI0.out HO219.out (by decide))); rintro e w6 ⟨rfl, hi, hb, hk⟩; refine ⟨_, rfl, ?_⟩; replace HO219 := Aside0.mk (Kd.R_mono (Kd.R_keep (IsS126.apart (show IsS126 w0 _ g s0_0 s0_1 s0_2 from by repeat (first | (with_reducible first | exact HI0.out | apply IsS126.alloc | apply IsS126.drewN | apply IsS126.drew | apply IsS126.set_1 | apply IsS126.set_2) | exact HI0.out)) (by (with_reducible repeat (first | apply Kd.R_alloc | apply Kd.R_drewN | apply Kd.R_drew)); exact HO219.out) (by decide)) hk (fun _ h => h.2)) (fun _ h => h.1)); replace HK := Aside0.mk (KeepBut.trans z2_ hk (.inl rfl)); replace HB := Aside0.mk (hb); replace HI0 := Aside0.mk (hi); (try clear hb hk hi)))
 go_ret
 exact ⟨z6_, z3_, z4_, z2_⟩

/-! ### spec_l3Any: function 71 -/
mutual
def spec_l3Any.l0 : Nat → List (S80) → List Int → Int → Int → Option ((List (S80)) × Int × Int)
 | 0, _, _, _, _ => none
 | k + 1, x5, x1000, x1001, x1002 => (spec_l1Below.f x1000 x1001 x1002 2).bind fun bt249 => (if (x5.length : Int) < (wrap64 (24 + bt249.1)) then (if x5.length < 8796093022208 then (spec_l3Any.l0 k (x5 ++ [(⟨1, 1⟩ : S80)]) x1000 bt249.2.1 bt249.2.2) else (none)) else (some (x5, bt249.2.1, bt249.2.2)))
def spec_l3Any.l1 : Nat → List (S80) → List Int → Int → Int → Option ((List (S80)) × Int × Int)
 | 0, _, _, _, _ => none
 | k + 1, x5, x1000, x1001, x1002 => (spec_l1Below.f x1000 x1001 x1002 2).bind fun bt258 => (if (x5.length : Int) < (wrap64 (13 + bt258.1)) then (if x5.length < 8796093022208 then (spec_l3Any.l1 k (x5 ++ [(⟨0, (x5.length : Int)⟩ : S80)]) x1000 bt258.2.1 bt258.2.2) else (none)) else (some (x5, bt258.2.1, bt258.2.2)))
end
def spec_l3Any.f (k : Nat) (s0_0 : List Int) (s0_1 : Int) (s0_2 : Int) (a1 : Int) : Option ((List (S80)) × Int × Int) := (spec_l3Tree.f k s0_0 s0_1 s0_2 a1).bind fun bt223 => ((spec_l1Below.f s0_0 bt223.2.1 bt223.2.2 (bt223.1.length : Int)).bind fun bt228 => ((spec_l1Below.f s0_0 bt228.2.1 bt228.2.2 18).bind fun bt231 => (if bt231.1 = 0 then ((spec_l2Any.f s0_0 bt231.2.1 bt231.2.2).bind fun bt234 => (if 0 ≤ bt228.1 then (if bt228.1 < (bt223.1.length : Int) then (some ((bt223.1.set (bt228.1 : Int).toNat (⟨bt234.1, (rd_T80 bt223.1 bt228.1).f1⟩ : S80)), bt234.2.1, bt234.2.2)) else (none)) else (none))) else (if bt231.1 = 1 then (if 0 ≤ bt228.1 then (if bt228.1 < (bt223.1.length : Int) then ((spec_l1PickInt.f s0_0 bt231.2.1 bt231.2.2 (([(-1), 0, 1, 13, wrap64 (((rd_T80 bt223.1 bt228.1).f1) + 1)] : List Int))).bind fun bt242 => (some ((bt223.1.set (bt228.1 : Int).toNat (⟨(rd_T80 bt223.1 bt228.1).f0, bt242.1⟩ : S80)), bt242.2.1, bt242.2.2))) else (none)) else (none)) else (if bt231.1 = 2 then (if 1 ≤ (bt223.1.length : Int) then (some ((bt223.1.drop (1 : Int).toNat), bt231.2.1, bt231.2.2)) else (none)) else (if bt231.1 = 3 then (spec_l3Any.l0 k bt223.1 s0_0 bt231.2.1 bt231.2.2) else (if bt231.1 = 4 then (spec_l3Any.l1 k (([(⟨0, 0⟩ : S80)] : List (S80))) s0_0 bt231.2.1 bt231.2.2) else (some (bt223.1, bt231.2.1, bt231.2.2)))))))))
set_option maxHeartbeats 8000000 in
set_option maxRecDepth 100000 in
theorem spec_l3Any.calls (k : Nat) (g : Nat) (s0_0 : List Int) (s0_1 : Int) (s0_2 : Int) (a1 : Int) (r1 : List (S80)) (r2 : Int) (r3 : Int) (w0 w : World) (hI : IsS126 w0 w g s0_0 s0_1 s0_2) (hB : Below w0.heap.size w0 w) (h : spec_l3Any.f k s0_0 s0_1 s0_2 a1 = some (r1, r2, r3)) :
  Calls Try.prog 71 #[.pointer (some ⟨g, 0, none⟩), .int .i64 a1] w fun e w' => ∃ v0_ : Value, e = .returned (v0_) ∧ Kd.Q k80 80 w' w.heap.size (fun _ => True) v0_ r1 ∧ IsS126 w0 w' g s0_0 r2 r3 ∧ Below w0.heap.size w0 w' ∧ KeepBut w w' g none := by
 have hu80 := Try.underlying80
 have HI0 := Aside0.mk hI
 have HK := Aside0.mk (KeepBut.refl w g none)
 have HL := Aside0.mk hB.size
 clear hI
 have HW0 := Aside0.mk hB.size
 have HB := Aside0.mk hB
 clear hB
 have H : ((spec_l3Tree.f k s0_0 s0_1 s0_2 a1).bind fun bt223 => ((spec_l1Below.f s0_0 bt223.2.1 bt223.2.2 (bt223.1.length : Int)).bind fun bt228 => ((spec_l1Below.f s0_0 bt228.2.1 bt228.2.2 18).bind fun bt231 => (if bt231.1 = 0 then ((spec_l2Any.f s0_0 bt231.2.1 bt231.2.2).bind fun bt234 => (if 0 ≤ bt228.1 then (if bt228.1 < (bt223.1.length : Int) then (some ((bt223.1.set (bt228.1 : Int).toNat (⟨bt234.1, (rd_T80 bt223.1 bt228.1).f1⟩ : S80)), bt234.2.1, bt234.2.2)) else (none)) else (none))) else (if bt231.1 = 1 then (if 0 ≤ bt228.1 then (if bt228.1 < (bt223.1.length : Int) then ((spec_l1PickInt.f s0_0 bt231.2.1 bt231.2.2 (([(-1), 0, 1, 13, wrap64 (((rd_T80 bt223.1 bt228.1).f1) + 1)] : List Int))).bind fun bt242 => (some ((bt223.1.set (bt228.1 : Int).toNat (⟨(rd_T80 bt223.1 bt228.1).f0, bt242.1⟩ : S80)), bt242.2.1, bt242.2.2))) else (none)) else (none)) else (if bt231.1 = 2 then (if 1 ≤ (bt223.1.length : Int) then (some ((bt223.1.drop (1 : Int).toNat), bt231.2.1, bt231.2.2)) else (none)) else (if bt231.1 = 3 then (spec_l3Any.l0 k bt223.1 s0_0 bt231.2.1 bt231.2.2) else (if bt231.1 = 4 then (spec_l3Any.l1 k (([(⟨0, 0⟩ : S80)] : List (S80))) s0_0 bt231.2.1 bt231.2.2) else (some (bt223.1, bt231.2.1, bt231.2.2)))))))))) = some (r1, r2, r3) := h
 clear h
 replace H := Option.bind_eq_some_iff.mp H
 obtain ⟨⟨t223, t226, t227⟩, A30, H⟩ := H
 try dsimp only at H
 have A3 := Aside0.mk A30
 clear A30
 replace H := Option.bind_eq_some_iff.mp H
 obtain ⟨⟨t228, t229, t230⟩, A40, H⟩ := H
 try dsimp only at H
 have A4 := Aside0.mk A40
 clear A40
 replace H := Option.bind_eq_some_iff.mp H
 obtain ⟨⟨t231, t232, t233⟩, A50, H⟩ := H
 try dsimp only at H
 have A5 := Aside0.mk A50
 clear A50
 by_cases c6 : t231 = 0
 ·rw [if_pos c6] at H
  have c6b0 : (t231 == 0) = true := beq_iff_eq.mpr c6
  have c6b1 : (t231 != 0) = false := bne_eq_false_iff_eq.mpr c6
  clear c6
  replace H := Option.bind_eq_some_iff.mp H
  obtain ⟨⟨t234, t235, t236⟩, A70, H⟩ := H
  try dsimp only at H
  have A7 := Aside0.mk A70
  clear A70
  obtain ⟨c8b0, H⟩ := ifd_ H
  obtain ⟨c9b0, H⟩ := ifd_ H
  first | ((with_reducible have hz_ := gy_ H); obtain ⟨y237, Ny237, H⟩ := hz_) | (generalize hy_ : (t223.set (t228 : Int).toNat (⟨t234, (rd_T80 t223 t228).f1⟩ : S80)) = y237 at H; have Ny237 := Aside0.mk hy_.symm; clear hy_)
  simp only [Option.some.injEq, Prod.mk.injEq] at H
  obtain ⟨rfl, rfl, rfl⟩ := H
  go_enter Try.func71, Try.ntmps71
  go_wp2_with (first | ((with_reducible refine gate_callee (f := 108) rfl ?_); refine goesL_ (some 9) rfl rfl Try.func108 (by kernel_rfl) rfl #[.pointer (some ⟨g, 0, none⟩), .int .i64 a1] rfl z1_ ?_; (with_reducible refine (spec_l3Tree.calls k g s0_0 s0_1 s0_2 a1 t223 t226 t227 w0 _ ?side1 ?side2 A3.out).mono ?_); (case side1 => exact z3_); (case side2 => exact z4_); rintro e w11 ⟨v224, rfl, ho0, hi, hb, hk⟩; refine ⟨_, rfl, ?_⟩; have HO225 := Aside0.mk (Kd.R_lower ho0 (keep_size (w := w) (g := g) (row := none) z2_)); replace HK := Aside0.mk (KeepBut.trans z2_ hk (.inl rfl)); replace HB := Aside0.mk (hb); replace HI0 := Aside0.mk (hi); (try clear hb hk hi ho0); obtain ⟨Ao12, co12, eo12⟩ := Kd.R_slice HO225.out; subst eo12) | ((with_reducible refine gate_callee (f := 109) rfl ?_); refine goesL_ (some 13) rfl rfl Try.func109 (by kernel_rfl) rfl #[.pointer (some ⟨g, 0, none⟩), .int .i64 (t223.length : Int)] rfl z1_ ?_; (with_reducible refine (spec_l1Below.calls g s0_0 t226 t227 (t223.length : Int) t228 t229 t230 w0 _ ?side1 ?side2 A4.out).mono ?_); (case side1 => exact z3_); (case side2 => exact z4_); rintro e w13 ⟨rfl, hi, hb, hk⟩; refine ⟨_, rfl, ?_⟩; replace HO225 := Aside0.mk (Kd.R_mono (Kd.R_keep (IsS126.apart (show IsS126 w0 _ g s0_0 t226 t227 from by repeat (first | (with_reducible first | exact HI0.out | apply IsS126.alloc | apply IsS126.drewN | apply IsS126.drew | apply IsS126.set_1 | apply IsS126.set_2) | exact HI0.out)) z37_ (by decide)) hk (fun _ h => h.2)) (fun _ h => h.1)); replace HK := Aside0.mk (KeepBut.trans z2_ hk (.inl rfl)); replace HB := Aside0.mk (hb); replace HI0 := Aside0.mk (hi); (try clear hb hk hi)) | ((with_reducible refine gate_callee (f := 109) rfl ?_); refine goesL_ (some 15) rfl rfl Try.func109 (by kernel_rfl) rfl #[.pointer (some ⟨g, 0, none⟩), .int .i64 18] rfl z1_ ?_; (with_reducible refine (spec_l1Below.calls g s0_0 t229 t230 18 t231 t232 t233 w0 _ ?side1 ?side2 A5.out).mono ?_); (case side1 => exact z3_); (case side2 => exact z4_); rintro e w14 ⟨rfl, hi, hb, hk⟩; refine ⟨_, rfl, ?_⟩; replace HO225 := Aside0.mk (Kd.R_mono (Kd.R_keep (IsS126.apart (show IsS126 w0 _ g s0_0 t229 t230 from by repeat (first | (with_reducible first | exact HI0.out | apply IsS126.alloc | apply IsS126.drewN | apply IsS126.drew | apply IsS126.set_1 | apply IsS126.set_2) | exact HI0.out)) z37_ (by decide)) hk (fun _ h => h.2)) (fun _ h => h.1)); replace HK := Aside0.mk (KeepBut.trans z2_ hk (.inl rfl)); replace HB := Aside0.mk (hb); replace HI0 := Aside0.mk (hi); (try clear hb hk hi)) | ((with_reducible refine gate_callee (f := 110) rfl ?_); refine goesL_ (some 21) rfl rfl Try.func110 (by kernel_rfl) rfl #[.pointer (some ⟨g, 0, none⟩)] rfl z1_ ?_; (with_reducible refine (spec_l2Any.calls g s0_0 t232 t233 t234 t235 t236 w0 _ ?side1 ?side2 A7.out).mono ?_); (case side1 => exact z3_); (case side2 => exact z4_); rintro e w15 ⟨rfl, hi, hb, hk⟩; refine ⟨_, rfl, ?_⟩; replace HO225 := Aside0.mk (Kd.R_mono (Kd.R_keep (IsS126.apart (show IsS126 w0 _ g s0_0 t232 t233 from by repeat (first | (with_reducible first | exact HI0.out | apply IsS126.alloc | apply IsS126.drewN | apply IsS126.drew | apply IsS126.set_1 | apply IsS126.set_2) | exact HI0.out)) z37_ (by decide)) hk (fun _ h => h.2)) (fun _ h => h.1)); replace HK := Aside0.mk (KeepBut.trans z2_ hk (.inl rfl)); replace HB := Aside0.mk (hb); replace HI0 := Aside0.mk (hi); (try clear hb hk hi); have p10 : 0 ≤ (t228 : Int) := odt_; have q10 : (t228 : Int) < ((t223.length : Int) : Int) := odt_; obtain ⟨go10, co10, eo10, gb10, gl10, cl10, HG10⟩ := Kd.R_form HO225.out (by omega); (first | cases eo10 | (injection eo10 with ea_ en_ ec_; (first | subst ea_ | (injection ea_ with ea_; subst ea_)); subst ec_; clear en_)); have GB10 := Aside0.mk gb10; have GG10 := Aside0.mk HG10; clear gb10 gl10 HG10; obtain ⟨ce10, hcl10, hM10, hcc10, hfr10⟩ := Kd.R_elem HO225.out z80 (t228 : Int) p10 q10; obtain rfl := k80_openM hM10; have hx10_0 : w15.cell? ⟨go10, (t228 : Int).toNat * 2, none⟩ = some (.int .i64 ((rd_T80 t223 t228).f0)) := hcc10 0 _ rfl; have hx10_1 : w15.cell? ⟨go10, (t228 : Int).toNat * 2 + 1, none⟩ = some (.int .i64 ((rd_T80 t223 t228).f1)) := hcc10 1 _ rfl; have hf10_0 : w15.frozen? ⟨go10, (t228 : Int).toNat * 2, none⟩ = false := hfr10 0; have hf10_1 : w15.frozen? ⟨go10, (t228 : Int).toNat * 2 + 1, none⟩ = false := hfr10 1; clear hcl10 hcc10 hfr10 hM10; replace p10 := eq_true p10; replace q10 := eq_true q10; have HX16 := Aside0.mk (show Kd.R k80 80 w15 w.heap.size (fun _ => True) (.slice (some ⟨go10, 0, none⟩) t223.length co12) t223 from z37_); obtain ⟨ce16, hcl16, hM16, hcc16, hfr16⟩ := Kd.R_elem HX16.out z80 (t228 : Int) (odt_) (by have h_ : (t228 : Int) < ((t223.length : Int) : Int) := odt_; first | exact h_ | (have e_ := (Kd.R_reads' HO225.out).1; omega) | simpa using h_); obtain rfl := k80_openM hM16; have HP16 := Kd.R_seg HX16.out (t228 : Int) (odt_) (by have h_ : (t228 : Int) < ((t223.length : Int) : Int) := odt_; first | exact h_ | (have e_ := (Kd.R_reads' HO225.out).1; omega) | simpa using h_) (seg := [.int .i64 t234]) (j := 0) hcl16 hcc16 (show 1 ≤ 2 from by decide) (x' := (⟨t234, (rd_T80 t223 t228).f1⟩ : S80)) (k80_mkM _ _ _ (⟨t234, (rd_T80 t223 t228).f1⟩ : S80) ) (fun _ hk => hk); have hx16_0 := hcc16 0 _ rfl; (try simp only [show (k80).sz = 2 from rfl, Nat.mul_one, Nat.add_zero] at hx16_0); have hf16_0 := hfr16 0; (try simp only [show (k80).sz = 2 from rfl, Nat.mul_one, Nat.add_zero] at hf16_0); clear hcl16 hcc16 hfr16 hM16) | ((with_reducible refine gate_store (t := 3) (p := 23) rfl ?_); refine store_event (t := 3) (p := 23) (v := ?vo_w17) (w1 := (w15.setCell ⟨go10, (t228 : Int).toNat * 2, none⟩ (.int .i64 t234))) ?hg ?ho ?hn ?hr ?_; (case ho => rfl); (case hg => rfl); (case hn => rfl); (case hr => exact z20_); intro w17 hw; have hg : w15.grownBy w17 (some go10) := (by rw [hw]; exact HP16.2); have hp_ : Kd.R k80 80 w17 w.heap.size (fun _ => True) (.slice (some ⟨go10, 0, none⟩) t223.length co12) y237 := (by rw [hw, Ny237.out]; exact HP16.1); clear HP16; replace HI0 := Aside0.mk (IsS126.grown z3_ hg (IsS126.own_ne HI0.out HO225.out (by decide))); replace HB := Aside0.mk ((by rw [hw]; exact below_set (HB.out) (Nat.le_trans HL.out GB10.out) : Below w0.heap.size w0 w17)); replace HK := Aside0.mk (KeepBut.trans z2_ (KeepBut.of_grown hg g) (Kd.R_base2 HO225.out)); replace HO225 := Aside0.mk (hp_); clear hg hw hp_))
  go_ret
  exact ⟨_, z6_, Kd.Q_of_R z37_, z3_, z4_, z2_⟩
 ·rw [if_neg c6] at H
  have c6b0 : (t231 == 0) = false := beq_eq_false_iff_ne.mpr c6
  have c6b1 : (t231 != 0) = true := bne_iff_ne.mpr c6
  by_cases c18 : t231 = 1
  ·rw [if_pos c18] at H
   have c18b0 : (t231 == 1) = true := beq_iff_eq.mpr c18
   have c18b1 : (t231 != 1) = false := bne_eq_false_iff_eq.mpr c18
   clear c18
   obtain ⟨c19b0, H⟩ := ifd_ H
   obtain ⟨c20b0, H⟩ := ifd_ H
   first | ((with_reducible have hz_ := gy_ H); obtain ⟨y239, Ny239, H⟩ := hz_) | (generalize hy_ : (([(-1), 0, 1, 13, wrap64 (((rd_T80 t223 t228).f1) + 1)] : List Int)) = y239 at H; have Ny239 := Aside0.mk hy_.symm; clear hy_)
   replace H := Option.bind_eq_some_iff.mp H
   obtain ⟨⟨t242, t243, t244⟩, A210, H⟩ := H
   try dsimp only at H
   have A21 := Aside0.mk A210
   clear A210
   first | ((with_reducible have hz_ := gy_ H); obtain ⟨y245, Ny245, H⟩ := hz_) | (generalize hy_ : (t223.set (t228 : Int).toNat (⟨(rd_T80 t223 t228).f0, t242⟩ : S80)) = y245 at H; have Ny245 := Aside0.mk hy_.symm; clear hy_)
   simp only [Option.some.injEq, Prod.mk.injEq] at H
   obtain ⟨rfl, rfl, rfl⟩ := H
   go_enter Try.func71, Try.ntmps71
   go_wp2_with (first | ((with_reducible refine gate_callee (f := 108) rfl ?_); refine goesL_ (some 9) rfl rfl Try.func108 (by kernel_rfl) rfl #[.pointer (some ⟨g, 0, none⟩), .int .i64 a1] rfl z1_ ?_; (with_reducible refine (spec_l3Tree.calls k g s0_0 s0_1 s0_2 a1 t223 t226 t227 w0 _ ?side1 ?side2 A3.out).mono ?_); (case side1 => exact z3_); (case side2 => exact z4_); rintro e w23 ⟨v224, rfl, ho0, hi, hb, hk⟩; refine ⟨_, rfl, ?_⟩; have HO225 := Aside0.mk (Kd.R_lower ho0 (keep_size (w := w) (g := g) (row := none) z2_)); replace HK := Aside0.mk (KeepBut.trans z2_ hk (.inl rfl)); replace HB := Aside0.mk (hb); replace HI0 := Aside0.mk (hi); (try clear hb hk hi ho0); obtain ⟨Ao24, co24, eo24⟩ := Kd.R_slice HO225.out; subst eo24) | ((with_reducible refine gate_callee (f := 109) rfl ?_); refine goesL_ (some 13) rfl rfl Try.func109 (by kernel_rfl) rfl #[.pointer (some ⟨g, 0, none⟩), .int .i64 (t223.length : Int)] rfl z1_ ?_; (with_reducible refine (spec_l1Below.calls g s0_0 t226 t227 (t223.length : Int) t228 t229 t230 w0 _ ?side1 ?side2 A4.out).mono ?_); (case side1 => exact z3_); (case side2 => exact z4_); rintro e w25 ⟨rfl, hi, hb, hk⟩; refine ⟨_, rfl, ?_⟩; replace HO225 := Aside0.mk (Kd.R_mono (Kd.R_keep (IsS126.apart (show IsS126 w0 _ g s0_0 t226 t227 from by repeat (first | (with_reducible first | exact HI0.out | apply IsS126.alloc | apply IsS126.drewN | apply IsS126.drew | apply IsS126.set_1 | apply IsS126.set_2) | exact HI0.out)) z37_ (by decide)) hk (fun _ h => h.2)) (fun _ h => h.1)); replace HK := Aside0.mk (KeepBut.trans z2_ hk (.inl rfl)); replace HB := Aside0.mk (hb); replace HI0 := Aside0.mk (hi); (try clear hb hk hi)) | ((with_reducible refine gate_callee (f := 109) rfl ?_); refine goesL_ (some 15) rfl rfl Try.func109 (by kernel_rfl) rfl #[.pointer (some ⟨g, 0, none⟩), .int .i64 18] rfl z1_ ?_; (with_reducible refine (spec_l1Below.calls g s0_0 t229 t230 18 t231 t232 t233 w0 _ ?side1 ?side2 A5.out).mono ?_); (case side1 => exact z3_); (case side2 => exact z4_); rintro e w26 ⟨rfl, hi, hb, hk⟩; refine ⟨_, rfl, ?_⟩; replace HO225 := Aside0.mk (Kd.R_mono (Kd.R_keep (IsS126.apart (show IsS126 w0 _ g s0_0 t229 t230 from by repeat (first | (with_reducible first | exact HI0.out | apply IsS126.alloc | apply IsS126.drewN | apply IsS126.drew | apply IsS126.set_1 | apply IsS126.set_2) | exact HI0.out)) z37_ (by decide)) hk (fun _ h => h.2)) (fun _ h => h.1)); replace HK := Aside0.mk (KeepBut.trans z2_ hk (.inl rfl)); replace HB := Aside0.mk (hb); replace HI0 := Aside0.mk (hi); (try clear hb hk hi); have p238 : 0 ≤ (t228 : Int) := odt_; have q238 : t228 < (t223.length : Int) := odt_; obtain ⟨ad238, e238, hx238_0, hx238_1⟩ := at_T80 (Kd.R_reads' HO225.out).2.2 t228 p238 q238; cases e238; replace p238 := eq_true p238; replace q238 := eq_true q238) | ((with_reducible refine gate_dst (N := 35) rfl ?_); refine Kd.R_lit (Kd.int .i64) _ 3 ?hg (N := 35) ?hd (xs := ([(-1), 0, 1, 13, wrap64 (((rd_T80 t223 t228).f1) + 1)] : List Int)) (inner := [.int .i64 (-1), .int .i64 0, .int .i64 1, .int .i64 13, .int .i64 (wrap64 (((rd_T80 t223 t228).f1) + 1))]) (ok := fun _ => True) (okp := fun _ => True) ?hr ?hp (fun _ hk => hk) trivial (Below.refl _ _) (Nat.le_refl _) (by simp) ?_; (case hd => rfl); (case hg => rfl); (case hr => exact z20_); (case hp => exact (Reps.one (show Kd.M (Kd.int .i64) _ _ _ (-1) [.int .i64 (-1)] from rfl) (Reps.one (show Kd.M (Kd.int .i64) _ _ _ 0 [.int .i64 0] from rfl) (Reps.one (show Kd.M (Kd.int .i64) _ _ _ 1 [.int .i64 1] from rfl) (Reps.one (show Kd.M (Kd.int .i64) _ _ _ 13 [.int .i64 13] from rfl) (Reps.one (show Kd.M (Kd.int .i64) _ _ _ (wrap64 (((rd_T80 t223 t228).f1) + 1)) [.int .i64 (wrap64 (((rd_T80 t223 t228).f1) + 1))] from rfl) (Reps.none _ _))))))); intro v240 w27 ho28 hb hg_ hnew_; clear hg_ hnew_; (first | rw [← Ny239.out] at ho28 | (simp only [Int.reduceToNat] at ho28; rw [← Ny239.out] at ho28)); replace HO225 := Aside0.mk (Kd.R_below z37_ hb); have HO241 := Aside0.mk (Kd.R_lower ho28 (keep_size (w := w) (g := g) (row := none) z2_)); replace HK := Aside0.mk (KeepBut.trans z2_ (KeepBut.of_below hb g none) (.inl rfl)); replace HB := Aside0.mk (below_step z4_ hb); replace HI0 := Aside0.mk (IsS126.below z3_ hb); clear hb ho28; obtain ⟨Ao29, co29, eo29⟩ := Kd.R_slice HO241.out; subst eo29) | ((with_reducible refine gate_callee (f := 111) rfl ?_); refine goesL_ (some 36) rfl rfl Try.func111 (by kernel_rfl) rfl #[.pointer (some ⟨g, 0, none⟩), .slice Ao29 y239.length co29] rfl z1_ ?_; (with_reducible refine (spec_l1PickInt.calls g s0_0 t232 t233 _ _ y239 t242 t243 t244 w0 _ ?side1 ?side2 ?side3 ?side4 ?side5 A21.out).mono ?_); (case side1 => exact z3_); (case side2 => exact z4_); (case side3 => repeat (first | exact (Kd.R_reads' HO241.out).2.2 | (with_reducible refine Kd.C_alloc ?_ _) | (with_reducible refine Kd.C_drewN ?_ _) | (with_reducible refine Kd.C_drew ?_))); (case side4 => exact (Kd.R_reads' HO241.out).2.1); (case side5 => exact far_slice (IsS126.own_ne HI0.out HO241.out (by decide))); rintro e w30 ⟨rfl, hi, hb, hk⟩; refine ⟨_, rfl, ?_⟩; replace HO225 := Aside0.mk (Kd.R_mono (Kd.R_keep (IsS126.apart (show IsS126 w0 _ g s0_0 t232 t233 from by repeat (first | (with_reducible first | exact HI0.out | apply IsS126.alloc | apply IsS126.drewN | apply IsS126.drew | apply IsS126.set_1 | apply IsS126.set_2) | exact HI0.out)) z37_ (by decide)) hk (fun _ h => h.2)) (fun _ h => h.1)); replace HO241 := Aside0.mk (Kd.R_mono (Kd.R_keep (IsS126.apart (show IsS126 w0 _ g s0_0 t232 t233 from by repeat (first | (with_reducible first | exact HI0.out | apply IsS126.alloc | apply IsS126.drewN | apply IsS126.drew | apply IsS126.set_1 | apply IsS126.set_2) | exact HI0.out)) z201_ (by decide)) hk (fun _ h => h.2)) (fun _ h => h.1)); replace HK := Aside0.mk (KeepBut.trans z2_ hk (.inl rfl)); replace HB := Aside0.mk (hb); replace HI0 := Aside0.mk (hi); (try clear hb hk hi); have p22 : 0 ≤ (t228 : Int) := odt_; have q22 : (t228 : Int) < ((t223.length : Int) : Int) := odt_; obtain ⟨go22, co22, eo22, gb22, gl22, cl22, HG22⟩ := Kd.R_form HO225.out (by omega); (first | cases eo22 | (injection eo22 with ea_ en_ ec_; (first | subst ea_ | (injection ea_ with ea_; subst ea_)); subst ec_; clear en_)); have GB22 := Aside0.mk gb22; have GG22 := Aside0.mk HG22; clear gb22 gl22 HG22; (first | simp only [add_plain] at hx238_0 | skip); (first | simp only [add_plain] at hx238_1 | skip); obtain ⟨ce22, hcl22, hM22, hcc22, hfr22⟩ := Kd.R_elem HO225.out z80 (t228 : Int) p22 q22; obtain rfl := k80_openM hM22; have hx22_0 : w30.cell? ⟨go22, (t228 : Int).toNat * 2, none⟩ = some (.int .i64 ((rd_T80 t223 t228).f0)) := hcc22 0 _ rfl; have hx22_1 : w30.cell? ⟨go22, (t228 : Int).toNat * 2 + 1, none⟩ = some (.int .i64 ((rd_T80 t223 t228).f1)) := hcc22 1 _ rfl; have hf22_0 : w30.frozen? ⟨go22, (t228 : Int).toNat * 2, none⟩ = false := hfr22 0; have hf22_1 : w30.frozen? ⟨go22, (t228 : Int).toNat * 2 + 1, none⟩ = false := hfr22 1; clear hcl22 hcc22 hfr22 hM22; replace p22 := eq_true p22; replace q22 := eq_true q22; have HX31 := Aside0.mk (show Kd.R k80 80 w30 w.heap.size (fun _ => True) (.slice (some ⟨go22, 0, none⟩) t223.length co24) t223 from z37_); obtain ⟨ce31, hcl31, hM31, hcc31, hfr31⟩ := Kd.R_elem HX31.out z80 (t228 : Int) (odt_) (by have h_ : (t228 : Int) < ((t223.length : Int) : Int) := odt_; first | exact h_ | (have e_ := (Kd.R_reads' HO225.out).1; omega) | simpa using h_); obtain rfl := k80_openM hM31; have HP31 := Kd.R_seg HX31.out (t228 : Int) (odt_) (by have h_ : (t228 : Int) < ((t223.length : Int) : Int) := odt_; first | exact h_ | (have e_ := (Kd.R_reads' HO225.out).1; omega) | simpa using h_) (seg := [.int .i64 t242]) (j := 1) hcl31 hcc31 (show 2 ≤ 2 from by decide) (x' := (⟨(rd_T80 t223 t228).f0, t242⟩ : S80)) (k80_mkM _ _ _ (⟨(rd_T80 t223 t228).f0, t242⟩ : S80) ) (fun _ hk => hk); have hx31_1 := hcc31 1 _ rfl; (try simp only [show (k80).sz = 2 from rfl, Nat.mul_one, Nat.add_zero] at hx31_1); have hf31_1 := hfr31 1; (try simp only [show (k80).sz = 2 from rfl, Nat.mul_one, Nat.add_zero] at hf31_1); clear hcl31 hcc31 hfr31 hM31) | ((with_reducible refine gate_store (t := 3) (p := 38) rfl ?_); refine store_event (t := 3) (p := 38) (v := ?vo_w32) (w1 := (w30.setCell ⟨go22, (t228 : Int).toNat * 2 + 1, none⟩ (.int .i64 t242))) ?hg ?ho ?hn ?hr ?_; (case ho => rfl); (case hg => rfl); (case hn => rfl); (case hr => exact z20_); intro w32 hw; have hg : w30.grownBy w32 (some go22) := (by rw [hw]; exact HP31.2); have hp_ : Kd.R k80 80 w32 w.heap.size (fun _ => True) (.slice (some ⟨go22, 0, none⟩) t223.length co24) y245 := (by rw [hw, Ny245.out]; exact HP31.1); clear HP31; replace HI0 := Aside0.mk (IsS126.grown z3_ hg (IsS126.own_ne HI0.out HO225.out (by decide))); replace HO241 := Aside0.mk (Kd.R_over' (v := (.slice (some ⟨go22, 0, none⟩) t223.length co24)) z201_ (Kd.R_typed HO225.out) (by decide) hg); replace HB := Aside0.mk ((by rw [hw]; exact below_set (HB.out) (Nat.le_trans HL.out GB22.out) : Below w0.heap.size w0 w32)); replace HK := Aside0.mk (KeepBut.trans z2_ (KeepBut.of_grown hg g) (Kd.R_base2 HO225.out)); replace HO225 := Aside0.mk (hp_); clear hg hw hp_))
   go_ret
   exact ⟨_, z6_, Kd.Q_of_R z37_, z3_, z4_, z2_⟩
  ·rw [if_neg c18] at H
   have c18b0 : (t231 == 1) = false := beq_eq_false_iff_ne.mpr c18
   have c18b1 : (t231 != 1) = true := bne_iff_ne.mpr c18
   by_cases c33 : t231 = 2
   ·rw [if_pos c33] at H
    have c33b0 : (t231 == 2) = true := beq_iff_eq.mpr c33
    have c33b1 : (t231 != 2) = false := bne_eq_false_iff_eq.mpr c33
    clear c33
    obtain ⟨c34b0, c34b1, H⟩ := ife_ H
    first | ((with_reducible have hz_ := gy_ H); obtain ⟨y246, Ny246, H⟩ := hz_) | (generalize hy_ : (t223.drop (1 : Int).toNat) = y246 at H; have Ny246 := Aside0.mk hy_.symm; clear hy_)
    simp only [Option.some.injEq, Prod.mk.injEq] at H
    obtain ⟨rfl, rfl, rfl⟩ := H
    go_enter Try.func71, Try.ntmps71
    go_wp2_with (first | ((with_reducible refine gate_callee (f := 108) rfl ?_); refine goesL_ (some 9) rfl rfl Try.func108 (by kernel_rfl) rfl #[.pointer (some ⟨g, 0, none⟩), .int .i64 a1] rfl z1_ ?_; (with_reducible refine (spec_l3Tree.calls k g s0_0 s0_1 s0_2 a1 t223 t226 t227 w0 _ ?side1 ?side2 A3.out).mono ?_); (case side1 => exact z3_); (case side2 => exact z4_); rintro e w35 ⟨v224, rfl, ho0, hi, hb, hk⟩; refine ⟨_, rfl, ?_⟩; have HO225 := Aside0.mk (Kd.R_lower ho0 (keep_size (w := w) (g := g) (row := none) z2_)); replace HK := Aside0.mk (KeepBut.trans z2_ hk (.inl rfl)); replace HB := Aside0.mk (hb); replace HI0 := Aside0.mk (hi); (try clear hb hk hi ho0); obtain ⟨Ao36, co36, eo36⟩ := Kd.R_slice HO225.out; subst eo36) | ((with_reducible refine gate_callee (f := 109) rfl ?_); refine goesL_ (some 13) rfl rfl Try.func109 (by kernel_rfl) rfl #[.pointer (some ⟨g, 0, none⟩), .int .i64 (t223.length : Int)] rfl z1_ ?_; (with_reducible refine (spec_l1Below.calls g s0_0 t226 t227 (t223.length : Int) t228 t229 t230 w0 _ ?side1 ?side2 A4.out).mono ?_); (case side1 => exact z3_); (case side2 => exact z4_); rintro e w37 ⟨rfl, hi, hb, hk⟩; refine ⟨_, rfl, ?_⟩; replace HO225 := Aside0.mk (Kd.R_mono (Kd.R_keep (IsS126.apart (show IsS126 w0 _ g s0_0 t226 t227 from by repeat (first | (with_reducible first | exact HI0.out | apply IsS126.alloc | apply IsS126.drewN | apply IsS126.drew | apply IsS126.set_1 | apply IsS126.set_2) | exact HI0.out)) z37_ (by decide)) hk (fun _ h => h.2)) (fun _ h => h.1)); replace HK := Aside0.mk (KeepBut.trans z2_ hk (.inl rfl)); replace HB := Aside0.mk (hb); replace HI0 := Aside0.mk (hi); (try clear hb hk hi)) | ((with_reducible refine gate_callee (f := 109) rfl ?_); refine goesL_ (some 15) rfl rfl Try.func109 (by kernel_rfl) rfl #[.pointer (some ⟨g, 0, none⟩), .int .i64 18] rfl z1_ ?_; (with_reducible refine (spec_l1Below.calls g s0_0 t229 t230 18 t231 t232 t233 w0 _ ?side1 ?side2 A5.out).mono ?_); (case side1 => exact z3_); (case side2 => exact z4_); rintro e w38 ⟨rfl, hi, hb, hk⟩; refine ⟨_, rfl, ?_⟩; replace HO225 := Aside0.mk (Kd.R_mono (Kd.R_keep (IsS126.apart (show IsS126 w0 _ g s0_0 t229 t230 from by repeat (first | (with_reducible first | exact HI0.out | apply IsS126.alloc | apply IsS126.drewN | apply IsS126.drew | apply IsS126.set_1 | apply IsS126.set_2) | exact HI0.out)) z37_ (by decide)) hk (fun _ h => h.2)) (fun _ h => h.1)); replace HK := Aside0.mk (KeepBut.trans z2_ hk (.inl rfl)); replace HB := Aside0.mk (hb); replace HI0 := Aside0.mk (hi); (try clear hb hk hi); have q39 : (1 : Int) ≤ ((t223.length : Int) : Int) := odt_; obtain ⟨i039, hi039, _, hsz39, _⟩ := info_parts info80; have hcut39 := cut_from (P := Try.prog) 29 80 .i64 Try.underlying29 hi039 2 hsz39 Ao36 t223.length co36 1 (by omega) q39; have hr39 := Kd.Q_drop (k := (1 : Int).toNat) (Kd.Q_of_R HO225.out) (by omega); obtain ⟨A39, hA39⟩ : ∃ A1, A1 = (if co36 = (1 : Int).toNat then Ao36 else (Ao36 : Option Addr).map (·.add ((1 : Int).toNat * 2))) := ⟨_, rfl⟩; obtain ⟨c39, hc39⟩ : ∃ c1, c1 = co36 - (1 : Int).toNat := ⟨_, rfl⟩; have hy39 : y246.length = t223.length - (1 : Int).toNat := (by rw [Ny246.out, List.length_drop]); rw [← Ny246.out] at hr39; rw [← hy39, ← hA39, ← hc39] at hcut39; replace hr39 : Kd.Q k80 80 w38 w.heap.size (fun _ => True) (.slice A39 y246.length c39) y246 := (by rw [hA39, hc39, hy39]; exact hr39); have HE39 : Aside0 ((Value.slice A39 y246.length c39).ownBlock = (.slice Ao36 t223.length co36 : Value).ownBlock) := ⟨by rw [hA39]; split <;> (cases (Ao36 : Option Addr) <;> rfl)⟩; clear hy39 hi039 hsz39 HO225 hA39 hc39; have HO248 := Aside0.mk hr39; clear hr39; replace q39 := eq_true q39))
    go_ret
    exact ⟨_, z6_, by (with_reducible repeat (first | apply Kd.Q_alloc | apply Kd.Q_drewN | apply Kd.Q_drew)); exact HO248.out, z3_, z4_, z2_⟩
   ·rw [if_neg c33] at H
    have c33b0 : (t231 == 2) = false := beq_eq_false_iff_ne.mpr c33
    have c33b1 : (t231 != 2) = true := bne_iff_ne.mpr c33
    by_cases c40 : t231 = 3
    ·rw [if_pos c40] at H
     have c40b0 : (t231 == 3) = true := beq_iff_eq.mpr c40
     have c40b1 : (t231 != 3) = false := bne_eq_false_iff_eq.mpr c40
     clear c40
     have H' := Aside0.mk H
     clear H
     go_enter Try.func71, Try.ntmps71
     go_wp2_with (first | ((with_reducible refine gate_callee (f := 108) rfl ?_); refine goesL_ (some 9) rfl rfl Try.func108 (by kernel_rfl) rfl #[.pointer (some ⟨g, 0, none⟩), .int .i64 a1] rfl z1_ ?_; (with_reducible refine (spec_l3Tree.calls k g s0_0 s0_1 s0_2 a1 t223 t226 t227 w0 _ ?side1 ?side2 A3.out).mono ?_); (case side1 => exact z3_); (case side2 => exact z4_); rintro e w41 ⟨v224, rfl, ho0, hi, hb, hk⟩; refine ⟨_, rfl, ?_⟩; have HO225 := Aside0.mk (Kd.R_lower ho0 (keep_size (w := w) (g := g) (row := none) z2_)); replace HK := Aside0.mk (KeepBut.trans z2_ hk (.inl rfl)); replace HB := Aside0.mk (hb); replace HI0 := Aside0.mk (hi); (try clear hb hk hi ho0); obtain ⟨Ao42, co42, eo42⟩ := Kd.R_slice HO225.out; subst eo42) | ((with_reducible refine gate_callee (f := 109) rfl ?_); refine goesL_ (some 13) rfl rfl Try.func109 (by kernel_rfl) rfl #[.pointer (some ⟨g, 0, none⟩), .int .i64 (t223.length : Int)] rfl z1_ ?_; (with_reducible refine (spec_l1Below.calls g s0_0 t226 t227 (t223.length : Int) t228 t229 t230 w0 _ ?side1 ?side2 A4.out).mono ?_); (case side1 => exact z3_); (case side2 => exact z4_); rintro e w43 ⟨rfl, hi, hb, hk⟩; refine ⟨_, rfl, ?_⟩; replace HO225 := Aside0.mk (Kd.R_mono (Kd.R_keep (IsS126.apart (show IsS126 w0 _ g s0_0 t226 t227 from by repeat (first | (with_reducible first | exact HI0.out | apply IsS126.alloc | apply IsS126.drewN | apply IsS126.drew | apply IsS126.set_1 | apply IsS126.set_2) | exact HI0.out)) z37_ (by decide)) hk (fun _ h => h.2)) (fun _ h => h.1)); replace HK := Aside0.mk (KeepBut.trans z2_ hk (.inl rfl)); replace HB := Aside0.mk (hb); replace HI0 := Aside0.mk (hi); (try clear hb hk hi)) | ((with_reducible refine gate_callee (f := 109) rfl ?_); refine goesL_ (some 15) rfl rfl Try.func109 (by kernel_rfl) rfl #[.pointer (some ⟨g, 0, none⟩), .int .i64 18] rfl z1_ ?_; (with_reducible refine (spec_l1Below.calls g s0_0 t229 t230 18 t231 t232 t233 w0 _ ?side1 ?side2 A5.out).mono ?_); (case side1 => exact z3_); (case side2 => exact z4_); rintro e w44 ⟨rfl, hi, hb, hk⟩; refine ⟨_, rfl, ?_⟩; replace HO225 := Aside0.mk (Kd.R_mono (Kd.R_keep (IsS126.apart (show IsS126 w0 _ g s0_0 t229 t230 from by repeat (first | (with_reducible first | exact HI0.out | apply IsS126.alloc | apply IsS126.drewN | apply IsS126.drew | apply IsS126.set_1 | apply IsS126.set_2) | exact HI0.out)) z37_ (by decide)) hk (fun _ h => h.2)) (fun _ h => h.1)); replace HK := Aside0.mk (KeepBut.trans z2_ hk (.inl rfl)); replace HB := Aside0.mk (hb); replace HI0 := Aside0.mk (hi); (try clear hb hk hi)))
     go_loopg [5] k (fun kq v5 w' => ∃ (x5_1 : List (S80)) (x1001_1 : Int) (x1002_1 : Int), Aside0 (spec_l3Any.l0 kq x5_1 s0_0 x1001_1 x1002_1 = some (r1, r2, r3)) ∧ Aside0 (kq ≤ k) ∧ Aside0 (Kd.R k80 80 w' w.heap.size (fun _ => True) v5 x5_1) ∧ Aside0 (IsS126 w0 w' g s0_0 x1001_1 x1002_1) ∧ Aside0 (KeepBut w w' g none) ∧ Aside0 (Below w0.heap.size w0 w'))
     case atStart => exact ⟨(t223), (t232), (t233), H', ⟨Nat.le_refl _⟩, ⟨z37_⟩, ⟨z3_⟩, ⟨z2_⟩, ⟨z4_⟩⟩
     case round =>
      clear H'
      try clear c1
      try clear p1
      try clear q1
      try clear hx1
      try clear c2
      try clear p2
      try clear q2
      try clear hx2
      try clear hf2
      try clear c3
      try clear q3
      try clear hx3
      try clear hf3
      try clear c4
      try clear c6
      try clear c6b0
      try clear c6b1
      try clear p6
      try clear c7
      try clear c8
      try clear c8b0
      try clear c9
      try clear c9b0
      try clear c10
      try clear p10
      try clear q10
      try clear hx10
      try clear hf10
      try clear c11
      try clear c16
      try clear hx16
      try clear hf16
      try clear c18
      try clear c18b0
      try clear c18b1
      try clear c19
      try clear c19b0
      try clear c20
      try clear c20b0
      try clear c22
      try clear p22
      try clear q22
      try clear hx22
      try clear hf22
      try clear p23
      try clear q23
      try clear hx23
      try clear c31
      try clear hx31
      try clear hf31
      try clear c33
      try clear c33b0
      try clear c33b1
      try clear c34
      try clear c34b0
      try clear c34b1
      try clear c39
      try clear q39
      try clear c40
      try clear c40b0
      try clear c40b1
      try clear hx10_0
      try clear hx10_1
      try clear hx16_0
      try clear hx22_0
      try clear hx22_1
      try clear hx238_0
      try clear hx238_1
      try clear hx31_1
      try clear p10
      try clear p22
      try clear p238
      try clear q10
      try clear q22
      try clear q238
      try clear q39
      obtain ⟨x5_1, x1001_1, x1002_1, HA, HK1, HO_5, HI0, HK, HB⟩ := hrel
      cases gk with
      | zero => exact absurd HA.out (by simp [spec_l3Any.l0])
      | succ k1 =>
       have H := HA.out
       clear HA
       simp only [spec_l3Any.l0] at H
       replace H := Option.bind_eq_some_iff.mp H
       obtain ⟨⟨t249, t250, t251⟩, A450, H⟩ := H
       try dsimp only at H
       have A45 := Aside0.mk A450
       clear A450
       by_cases c46 : (x5_1.length : Int) < (wrap64 (24 + t249))
       ·rw [if_pos c46] at H
        have c46b0 := decide_eq_true c46
        clear c46
        obtain ⟨c47, H⟩ := ifs_ H
        have LMc47 := Aside0.mk c47
        clear c47
        first | ((with_reducible have hz_ := gy_ H); obtain ⟨y252, Ny252, H⟩ := hz_) | (generalize hy_ : (x5_1 ++ [(⟨1, 1⟩ : S80)]) = y252 at H; have Ny252 := Aside0.mk hy_.symm; clear hy_)
        have H' := Aside0.mk H
        clear H
        obtain ⟨Ao48, co48, eo48⟩ := Kd.R_slice HO_5.out
        subst eo48
        go_wp2_with (first | ((with_reducible refine gate_callee (f := 109) rfl ?_); refine goesL_ (some 48) rfl rfl Try.func109 (by kernel_rfl) rfl #[.pointer (some ⟨g, 0, none⟩), .int .i64 2] rfl z1_ ?_; (with_reducible refine (spec_l1Below.calls g s0_0 x1001_1 x1002_1 2 t249 t250 t251 w0 _ ?side1 ?side2 A45.out).mono ?_); (case side1 => exact z3_); (case side2 => exact z4_); rintro e w49 ⟨rfl, hi, hb, hk⟩; refine ⟨_, rfl, ?_⟩; replace HO_5 := Aside0.mk (Kd.R_mono (Kd.R_keep (IsS126.apart (show IsS126 w0 _ g s0_0 x1001_1 x1002_1 from by repeat (first | (with_reducible first | exact HI0.out | apply IsS126.alloc | apply IsS126.drewN | apply IsS126.drew | apply IsS126.set_1 | apply IsS126.set_2) | exact HI0.out)) z14_ (by decide)) hk (fun _ h => h.2)) (fun _ h => h.1)); replace HK := Aside0.mk (KeepBut.trans z2_ hk (.inl rfl)); replace HB := Aside0.mk (hb); replace HI0 := Aside0.mk (hi); (try clear hb hk hi)) | ((with_reducible refine gate_builtin (b := .append) (xs := #[.tmp 51, .tmp 53]) rfl ?_); at_builtin; refine Kd.R_append k80 w.heap.size rfl (.tmp 51) (.tmp 53) 29 80 (.agg #[(.int .i64 0), (.int .i64 0)]) 16 rfl Try.underlying29 info80 rfl (by decide) (by omega) (.slice Ao48 x5_1.length co48) x5_1 (⟨1, 1⟩ : S80) [.int .i64 1, .int .i64 1] (fun _ => True) (fun _ => False) rfl rfl ?aP (fun _ hk => hk.elim) ?aF ?aO (Below.refl _ _) ?aS ?aL ?_; (case aP => exact k80_mkM _ _ _ (⟨1, 1⟩ : S80)); (case aF => exact z116_); (case aO => exact z61_); (case aS => exact z60_); (case aL => have := LMc47.out; omega); intro v253 w50 ho hb hg hat; rw [← Ny252.out] at ho; replace HB := Aside0.mk (below_weaken z4_ HL.out hb); replace HI0 := Aside0.mk (IsS126.grown z3_ hg (IsS126.own_ne HI0.out HO_5.out (by decide))); replace HK := Aside0.mk (KeepBut.trans z2_ (KeepBut.of_grown hg g) (Kd.R_base2 HO_5.out)); have HO254 := Aside0.mk (ho); clear HO_5; clear ho hb hg hat))
        go_roundg k1
        case measure => have := HK1.out; omega
        case rel => exact ⟨(y252), (t250), (t251), H', ⟨z106_⟩, ⟨by (with_reducible repeat (first | apply Kd.R_alloc | apply Kd.R_drewN | apply Kd.R_drew)); exact HO254.out⟩, ⟨z3_⟩, ⟨z2_⟩, ⟨z4_⟩⟩
       ·rw [if_neg c46] at H
        have c46b0 := decide_eq_false c46
        clear c46
        simp only [Option.some.injEq, Prod.mk.injEq] at H
        obtain ⟨rfl, rfl, rfl⟩ := H
        obtain ⟨Ao51, co51, eo51⟩ := Kd.R_slice HO_5.out
        subst eo51
        go_wp2_with (first | ((with_reducible refine gate_callee (f := 109) rfl ?_); refine goesL_ (some 48) rfl rfl Try.func109 (by kernel_rfl) rfl #[.pointer (some ⟨g, 0, none⟩), .int .i64 2] rfl z1_ ?_; (with_reducible refine (spec_l1Below.calls g s0_0 x1001_1 x1002_1 2 t249 t250 t251 w0 _ ?side1 ?side2 A45.out).mono ?_); (case side1 => exact z3_); (case side2 => exact z4_); rintro e w52 ⟨rfl, hi, hb, hk⟩; refine ⟨_, rfl, ?_⟩; replace HO_5 := Aside0.mk (Kd.R_mono (Kd.R_keep (IsS126.apart (show IsS126 w0 _ g s0_0 x1001_1 x1002_1 from by repeat (first | (with_reducible first | exact HI0.out | apply IsS126.alloc | apply IsS126.drewN | apply IsS126.drew | apply IsS126.set_1 | apply IsS126.set_2) | exact HI0.out)) z14_ (by decide)) hk (fun _ h => h.2)) (fun _ h => h.1)); replace HK := Aside0.mk (KeepBut.trans z2_ hk (.inl rfl)); replace HB := Aside0.mk (hb); replace HI0 := Aside0.mk (hi); (try clear hb hk hi)))
        go_ret
        exact ⟨_, z6_, Kd.Q_of_R z14_, z3_, z4_, z2_⟩
    ·rw [if_neg c40] at H
     have c40b0 : (t231 == 3) = false := beq_eq_false_iff_ne.mpr c40
     have c40b1 : (t231 != 3) = true := bne_iff_ne.mpr c40
     by_cases c53 : t231 = 4
     ·rw [if_pos c53] at H
      have c53b0 : (t231 == 4) = true := beq_iff_eq.mpr c53
      have c53b1 : (t231 != 4) = false := bne_eq_false_iff_eq.mpr c53
      clear c53
      first | ((with_reducible have hz_ := gy_ H); obtain ⟨y255, Ny255, H⟩ := hz_) | (generalize hy_ : (([(⟨0, 0⟩ : S80)] : List (S80))) = y255 at H; have Ny255 := Aside0.mk hy_.symm; clear hy_)
      have H' := Aside0.mk H
      clear H
      go_enter Try.func71, Try.ntmps71
      go_wp2_with (first | ((with_reducible refine gate_callee (f := 108) rfl ?_); refine goesL_ (some 9) rfl rfl Try.func108 (by kernel_rfl) rfl #[.pointer (some ⟨g, 0, none⟩), .int .i64 a1] rfl z1_ ?_; (with_reducible refine (spec_l3Tree.calls k g s0_0 s0_1 s0_2 a1 t223 t226 t227 w0 _ ?side1 ?side2 A3.out).mono ?_); (case side1 => exact z3_); (case side2 => exact z4_); rintro e w54 ⟨v224, rfl, ho0, hi, hb, hk⟩; refine ⟨_, rfl, ?_⟩; have HO225 := Aside0.mk (Kd.R_lower ho0 (keep_size (w := w) (g := g) (row := none) z2_)); replace HK := Aside0.mk (KeepBut.trans z2_ hk (.inl rfl)); replace HB := Aside0.mk (hb); replace HI0 := Aside0.mk (hi); (try clear hb hk hi ho0); obtain ⟨Ao55, co55, eo55⟩ := Kd.R_slice HO225.out; subst eo55) | ((with_reducible refine gate_callee (f := 109) rfl ?_); refine goesL_ (some 13) rfl rfl Try.func109 (by kernel_rfl) rfl #[.pointer (some ⟨g, 0, none⟩), .int .i64 (t223.length : Int)] rfl z1_ ?_; (with_reducible refine (spec_l1Below.calls g s0_0 t226 t227 (t223.length : Int) t228 t229 t230 w0 _ ?side1 ?side2 A4.out).mono ?_); (case side1 => exact z3_); (case side2 => exact z4_); rintro e w56 ⟨rfl, hi, hb, hk⟩; refine ⟨_, rfl, ?_⟩; replace HO225 := Aside0.mk (Kd.R_mono (Kd.R_keep (IsS126.apart (show IsS126 w0 _ g s0_0 t226 t227 from by repeat (first | (with_reducible first | exact HI0.out | apply IsS126.alloc | apply IsS126.drewN | apply IsS126.drew | apply IsS126.set_1 | apply IsS126.set_2) | exact HI0.out)) z37_ (by decide)) hk (fun _ h => h.2)) (fun _ h => h.1)); replace HK := Aside0.mk (KeepBut.trans z2_ hk (.inl rfl)); replace HB := Aside0.mk (hb); replace HI0 := Aside0.mk (hi); (try clear hb hk hi)) | ((with_reducible refine gate_callee (f := 109) rfl ?_); refine goesL_ (some 15) rfl rfl Try.func109 (by kernel_rfl) rfl #[.pointer (some ⟨g, 0, none⟩), .int .i64 18] rfl z1_ ?_; (with_reducible refine (spec_l1Below.calls g s0_0 t229 t230 18 t231 t232 t233 w0 _ ?side1 ?side2 A5.out).mono ?_); (case side1 => exact z3_); (case side2 => exact z4_); rintro e w57 ⟨rfl, hi, hb, hk⟩; refine ⟨_, rfl, ?_⟩; replace HO225 := Aside0.mk (Kd.R_mono (Kd.R_keep (IsS126.apart (show IsS126 w0 _ g s0_0 t229 t230 from by repeat (first | (with_reducible first | exact HI0.out | apply IsS126.alloc | apply IsS126.drewN | apply IsS126.drew | apply IsS126.set_1 | apply IsS126.set_2) | exact HI0.out)) z37_ (by decide)) hk (fun _ h => h.2)) (fun _ h => h.1)); replace HK := Aside0.mk (KeepBut.trans z2_ hk (.inl rfl)); replace HB := Aside0.mk (hb); replace HI0 := Aside0.mk (hi); (try clear hb hk hi)) | ((with_reducible refine gate_dst (N := 58) rfl ?_); refine Kd.R_lit k80 _ 80 ?hg (N := 58) ?hd (xs := ([(⟨0, 0⟩ : S80)] : List (S80))) (inner := [.int .i64 0, .int .i64 0]) (ok := fun _ => True) (okp := fun _ => True) ?hr ?hp (fun _ hk => hk) trivial (Below.refl _ _) (Nat.le_refl _) (by simp) ?_; (case hd => rfl); (case hg => rfl); (case hr => exact z20_); (case hp => exact (Reps.c2 (show Kd.M k80 _ _ _ (⟨0, 0⟩ : S80) [.int .i64 0, .int .i64 0] from (k80_mkM _ _ _ (⟨0, 0⟩ : S80) )) (Reps.none _ _))); intro v256 w58 ho59 hb hg_ hnew_; clear hg_ hnew_; (first | rw [← Ny255.out] at ho59 | (simp only [Int.reduceToNat] at ho59; rw [← Ny255.out] at ho59)); have HO257 := Aside0.mk (Kd.R_lower (Kd.R_new' ho59 (Kd.R_lt z37_)) (keep_size (w := w) (g := g) (row := none) z2_)); replace HO225 := Aside0.mk (Kd.R_elder' z37_ (Kd.R_base ho59) hb); replace HK := Aside0.mk (KeepBut.trans z2_ (KeepBut.of_below hb g none) (.inl rfl)); replace HB := Aside0.mk (below_step z4_ hb); replace HI0 := Aside0.mk (IsS126.below z3_ hb); clear hb ho59))
      go_loopg [5] k (fun kq v5 w' => ∃ (x5_1 : List (S80)) (x1001_1 : Int) (x1002_1 : Int), Aside0 (spec_l3Any.l1 kq x5_1 s0_0 x1001_1 x1002_1 = some (r1, r2, r3)) ∧ Aside0 (kq ≤ k) ∧ Aside0 (Kd.R k80 80 w' w.heap.size (fun _ => True) v5 x5_1) ∧ Aside0 (IsS126 w0 w' g s0_0 x1001_1 x1002_1) ∧ Aside0 (KeepBut w w' g none) ∧ Aside0 (Below w0.heap.size w0 w'))
      case atStart => exact ⟨(y255), (t232), (t233), H', ⟨Nat.le_refl _⟩, ⟨by (with_reducible repeat (first | apply Kd.R_alloc | apply Kd.R_drewN | apply Kd.R_drew)); exact Kd.R_mono HO257.out (fun _ hk => trivial)⟩, ⟨z3_⟩, ⟨z2_⟩, ⟨z4_⟩⟩
      case round =>
       clear H'
       try clear c1
       try clear p1
       try clear q1
       try clear hx1
       try clear c2
       try clear p2
       try clear q2
       try clear hx2
       try clear hf2
       try clear c3
       try clear q3
       try clear hx3
       try clear hf3
       try clear c4
       try clear c5
       try clear c6
       try clear c6b0
       try clear c6b1
       try clear p6
       try clear c7
       try clear c8
       try clear c8b0
       try clear c9
       try clear c9b0
       try clear c10
       try clear p10
       try clear q10
       try clear hx10
       try clear hf10
       try clear c11
       try clear c16
       try clear hx16
       try clear hf16
       try clear c18
       try clear c18b0
       try clear c18b1
       try clear c19
       try clear c19b0
       try clear c20
       try clear c20b0
       try clear c22
       try clear p22
       try clear q22
       try clear hx22
       try clear hf22
       try clear p23
       try clear q23
       try clear hx23
       try clear c31
       try clear hx31
       try clear hf31
       try clear c33
       try clear c33b0
       try clear c33b1
       try clear c34
       try clear c34b0
       try clear c34b1
       try clear c39
       try clear q39
       try clear c40
       try clear c40b0
       try clear c40b1
       try clear c46
       try clear c46b0
       try clear c47
       try clear c53
       try clear c53b0
       try clear c53b1
       try clear hx10_0
       try clear hx10_1
       try clear hx16_0
       try clear hx22_0
       try clear hx22_1
       try clear hx238_0
       try clear hx238_1
       try clear hx31_1
       try clear p1
       try clear p10
       try clear p2
       try clear p22
       try clear p23
       try clear p238
       try clear p6
       try clear q1
       try clear q10
       try clear q2
       try clear q22
       try clear q23
       try clear q238
       try clear q3
       try clear q39
       obtain ⟨x5_1, x1001_1, x1002_1, HA, HK1, HO_5, HI0, HK, HB⟩ := hrel
       cases gk with
       | zero => exact absurd HA.out (by simp [spec_l3Any.l1])
       | succ k1 =>
        have H := HA.out
        clear HA
        simp only [spec_l3Any.l1] at H
        replace H := Option.bind_eq_some_iff.mp H
        obtain ⟨⟨t258, t259, t260⟩, A600, H⟩ := H
        try dsimp only at H
        have A60 := Aside0.mk A600
        clear A600
        by_cases c61 : (x5_1.length : Int) < (wrap64 (13 + t258))
        ·rw [if_pos c61] at H
         have c61b0 := decide_eq_true c61
         clear c61
         obtain ⟨c62, H⟩ := ifs_ H
         have LMc62 := Aside0.mk c62
         clear c62
         first | ((with_reducible have hz_ := gy_ H); obtain ⟨y261, Ny261, H⟩ := hz_) | (generalize hy_ : (x5_1 ++ [(⟨0, (x5_1.length : Int)⟩ : S80)]) = y261 at H; have Ny261 := Aside0.mk hy_.symm; clear hy_)
         have H' := Aside0.mk H
         clear H
         obtain ⟨Ao63, co63, eo63⟩ := Kd.R_slice HO_5.out
         subst eo63
         go_wp2_with (first | ((with_reducible refine gate_callee (f := 109) rfl ?_); refine goesL_ (some 62) rfl rfl Try.func109 (by kernel_rfl) rfl #[.pointer (some ⟨g, 0, none⟩), .int .i64 2] rfl z1_ ?_; (with_reducible refine (spec_l1Below.calls g s0_0 x1001_1 x1002_1 2 t258 t259 t260 w0 _ ?side1 ?side2 A60.out).mono ?_); (case side1 => exact z3_); (case side2 => exact z4_); rintro e w64 ⟨rfl, hi, hb, hk⟩; refine ⟨_, rfl, ?_⟩; replace HO_5 := Aside0.mk (Kd.R_mono (Kd.R_keep (IsS126.apart (show IsS126 w0 _ g s0_0 x1001_1 x1002_1 from by repeat (first | (with_reducible first | exact HI0.out | apply IsS126.alloc | apply IsS126.drewN | apply IsS126.drew | apply IsS126.set_1 | apply IsS126.set_2) | exact HI0.out)) z14_ (by decide)) hk (fun _ h => h.2)) (fun _ h => h.1)); replace HK := Aside0.mk (KeepBut.trans z2_ hk (.inl rfl)); replace HB := Aside0.mk (hb); replace HI0 := Aside0.mk (hi); (try clear hb hk hi)) | ((with_reducible refine gate_builtin (b := .append) (xs := #[.tmp 65, .tmp 69]) rfl ?_); at_builtin; refine Kd.R_append k80 w.heap.size rfl (.tmp 65) (.tmp 69) 29 80 (.agg #[(.int .i64 0), (.int .i64 0)]) 16 rfl Try.underlying29 info80 rfl (by decide) (by omega) (.slice Ao63 x5_1.length co63) x5_1 (⟨0, (x5_1.length : Int)⟩ : S80) [.int .i64 0, .int .i64 (x5_1.length : Int)] (fun _ => True) (fun _ => False) rfl rfl ?aP (fun _ hk => hk.elim) ?aF ?aO (Below.refl _ _) ?aS ?aL ?_; (case aP => exact k80_mkM _ _ _ (⟨0, (x5_1.length : Int)⟩ : S80)); (case aF => exact z116_); (case aO => exact z61_); (case aS => exact z60_); (case aL => have := LMc62.out; omega); intro v262 w65 ho hb hg hat; rw [← Ny261.out] at ho; replace HB := Aside0.mk (below_weaken z4_ HL.out hb); replace HI0 := Aside0.mk (IsS126.grown z3_ hg (IsS126.own_ne HI0.out HO_5.out (by decide))); replace HK := Aside0.mk (KeepBut.trans z2_ (KeepBut.of_grown hg g) (Kd.R_base2 HO_5.out)); have HO263 := Aside0.mk (ho); clear HO_5; clear ho hb hg hat))
         go_roundg k1
         case measure => have := HK1.out; omega
         case rel => exact ⟨(y261), (t259), (t260), H', ⟨z106_⟩, ⟨by (with_reducible repeat (first | apply Kd.R_alloc | apply Kd.R_drewN | apply Kd.R_drew)); exact HO263.out⟩, ⟨z3_⟩, ⟨z2_⟩, ⟨z4_⟩⟩
        ·rw [if_neg c61] at H
         have c61b0 := decide_eq_false c61
         clear c61
         simp only [Option.some.injEq, Prod.mk.injEq] at H
         obtain ⟨rfl, rfl, rfl⟩ := H
         obtain ⟨Ao66, co66, eo66⟩ := Kd.R_slice HO_5.out
         subst eo66
         go_wp2_with (first | ((with_reducible refine gate_callee (f := 109) rfl ?_); refine goesL_ (some 62) rfl rfl Try.func109 (by kernel_rfl) rfl #[.pointer (some ⟨g, 0, none⟩), .int .i64 2] rfl z1_ ?_; (with_reducible refine (spec_l1Below.calls g s0_0 x1001_1 x1002_1 2 t258 t259 t260 w0 _ ?side1 ?side2 A60.out).mono ?_); (case side1 => exact z3_); (case side2 => exact z4_); rintro e w67 ⟨rfl, hi, hb, hk⟩; refine ⟨_, rfl, ?_⟩; replace HO_5 := Aside0.mk (Kd.R_mono (Kd.R_keep (IsS126.apart (show IsS126 w0 _ g s0_0 x1001_1 x1002_1 from by repeat (first | (with_reducible first | exact HI0.out | apply IsS126.alloc | apply IsS126.drewN | apply IsS126.drew | apply IsS126.set_1 | apply IsS126.set_2) | exact HI0.out)) z14_ (by decide)) hk (fun _ h => h.2)) (fun _ h => h.1)); replace HK := Aside0.mk (KeepBut.trans z2_ hk (.inl rfl)); replace HB := Aside0.mk (hb); replace HI0 := Aside0.mk (hi); (try clear hb hk hi)))
         go_ret
         exact ⟨_, z6_, Kd.Q_of_R z14_, z3_, z4_, z2_⟩
     ·rw [if_neg c53] at H
      have c53b0 : (t231 == 4) = false := beq_eq_false_iff_ne.mpr c53
      have c53b1 : (t231 != 4) = true := bne_iff_ne.mpr c53
      simp only [Option.some.injEq, Prod.mk.injEq] at H
      obtain ⟨rfl, rfl, rfl⟩ := H
      go_enter Try.func71, Try.ntmps71
      go_wp2_with (first | ((with_reducible refine gate_callee (f := 108) rfl ?_); refine goesL_ (some 9) rfl rfl Try.func108 (by kernel_rfl) rfl #[.pointer (some ⟨g, 0, none⟩), .int .i64 a1] rfl z1_ ?_; (with_reducible refine (spec_l3Tree.calls k g s0_0 s0_1 s0_2 a1 t223 t226 t227 w0 _ ?side1 ?side2 A3.out).mono ?_); (case side1 => exact z3_); (case side2 => exact z4_); rintro e w68 ⟨v224, rfl, ho0, hi, hb, hk⟩; refine ⟨_, rfl, ?_⟩; have HO225 := Aside0.mk (Kd.R_lower ho0 (keep_size (w := w) (g := g) (row := none) z2_)); replace HK := Aside0.mk (KeepBut.trans z2_ hk (.inl rfl)); replace HB := Aside0.mk (hb); replace HI0 := Aside0.mk (hi); (try clear hb hk hi ho0); obtain ⟨Ao69, co69, eo69⟩ := Kd.R_slice HO225.out; subst eo69) | ((with_reducible refine gate_callee (f := 109) rfl ?_); refine goesL_ (some 13) rfl rfl Try.func109 (by kernel_rfl) rfl #[.pointer (some ⟨g, 0, none⟩), .int .i64 (t223.length : Int)] rfl z1_ ?_; (with_reducible refine (spec_l1Below.calls g s0_0 t226 t227 (t223.length : Int) t228 t229 t230 w0 _ ?side1 ?side2 A4.out).mono ?_); (case side1 => exact z3_); (case side2 => exact z4_); rintro e w70 ⟨rfl, hi, hb, hk⟩; refine ⟨_, rfl, ?_⟩; replace HO225 := Aside0.mk (Kd.R_mono (Kd.R_keep (IsS126.apart (show IsS126 w0 _ g s0_0 t226 t227 from by repeat (first | (with_reducible first | exact HI0.out | apply IsS126.alloc | apply IsS126.drewN | apply IsS126.drew | apply IsS126.set_1 | apply IsS126.set_2) | exact HI0.out)) z37_ (by decide)) hk (fun _ h => h.2)) (fun _ h => h.1)); replace HK := Aside0.mk (KeepBut.trans z2_ hk (.inl rfl)); replace HB := Aside0.mk (hb); replace HI0 := Aside0.mk (hi); (try clear hb hk hi)) | ((with_reducible refine gate_callee (f := 109) rfl ?_); refine goesL_ (some 15) rfl rfl Try.func109 (by kernel_rfl) rfl #[.pointer (some ⟨g, 0, none⟩), .int .i64 18] rfl z1_ ?_; (with_reducible refine (spec_l1Below.calls g s0_0 t229 t230 18 t231 t232 t233 w0 _ ?side1 ?side2 A5.out).mono ?_); (case side1 => exact z3_); (case side2 => exact z4_); rintro e w71 ⟨rfl, hi, hb, hk⟩; refine ⟨_, rfl, ?_⟩; replace HO225 := Aside0.mk (Kd.R_mono (Kd.R_keep (IsS126.apart (show IsS126 w0 _ g s0_0 t229 t230 from by repeat (first | (with_reducible first | exact HI0.out | apply IsS126.alloc | apply IsS126.drewN | apply IsS126.drew | apply IsS126.set_1 | apply IsS126.set_2) | exact HI0.out)) z37_ (by decide)) hk (fun _ h => h.2)) (fun _ h => h.1)); replace HK := Aside0.mk (KeepBut.trans z2_ hk (.inl rfl)); replace HB := Aside0.mk (hb); replace HI0 := Aside0.mk (hi); (try clear hb hk hi)))
      go_ret
      exact ⟨_, z6_, Kd.Q_of_R z37_, z3_, z4_, z2_⟩

/-! ### spec_l3Copy: function 45 -/
def spec_l3Copy.f (l0 : List (S80)) : Option ((List (S80))) := (some (([] : List (S80)) : List (S80))).bind fun y264 => (if y264.length + l0.length < 8796093022208 then (some (y264 ++ l0)) else (none))
set_option maxHeartbeats 8000000 in
set_option maxRecDepth 100000 in
theorem spec_l3Copy.calls (A0 : Option Addr) (c0 : Nat) (l0 : List (S80)) (r : List (S80)) (w : World) (hr0 : Kd.C k80 w A0 l0.length l0) (hc0 : l0.length ≤ c0) (h : spec_l3Copy.f l0 = some r) :
  Calls Try.prog 45 #[.slice A0 l0.length c0] w fun e w' => ∃ v0_ : Value, e = .returned (v0_) ∧ Kd.R k80 80 w' w.heap.size (fun _ => True) v0_ r ∧ Below w.heap.size w w' := by
 have HR0 := Aside0.mk hr0
 have HC0 := Aside0.mk hc0
 clear hr0 hc0
 have HB := Aside0.mk (Below.refl w.heap.size w)
 have H : ((some (([] : List (S80)) : List (S80))).bind fun y264 => (if y264.length + l0.length < 8796093022208 then (some (y264 ++ l0)) else (none))) = some r := h
 clear h
 first | ((with_reducible have hz_ := gy_ H); obtain ⟨y264, Ny264, H⟩ := hz_) | (generalize hy_ : (([] : List (S80))) = y264 at H; have Ny264 := Aside0.mk hy_.symm; clear hy_)
 obtain ⟨c2, H⟩ := ifs_ H
 have LMc2 := Aside0.mk c2
 clear c2
 first | ((with_reducible have hz_ := gy_ H); obtain ⟨y267, Ny267, H⟩ := hz_) | (generalize hy_ : (y264 ++ l0) = y267 at H; have Ny267 := Aside0.mk hy_.symm; clear hy_)
 obtain rfl := Option.some.inj H
 go_enter Try.func45, Try.ntmps45
 go_wp2_with (first | ((with_reducible refine gate_dst (N := 3) rfl ?_); refine Kd.R_lit k80 _ 80 ?hg (N := 3) ?hd (xs := ([] : List (S80))) (inner := []) (ok := fun _ => True) (okp := fun _ => True) ?hr ?hp (fun _ hk => hk) trivial (Below.refl _ _) (Nat.le_refl _) (by simp) ?_; (case hd => rfl); (case hg => rfl); (case hr => exact z20_); (case hp => exact z139_); intro v265 w3 ho4 hb hg_ hnew_; clear hg_ hnew_; (first | rw [← Ny264.out] at ho4 | (simp only [Int.reduceToNat] at ho4; rw [← Ny264.out] at ho4)); have HO266 := Aside0.mk (Kd.R_lower ho4 (below_size z0_)); replace HB := Aside0.mk (below_step z0_ hb); clear hb ho4) | ((with_reducible refine gate_builtin (b := .append) (xs := #[.tmp 3, .tmp 4]) rfl ?_); at_builtin; refine Kd.R_append_rows k80 (w0 := w) w.heap.size rfl (.tmp 3) (.tmp 4) 29 80 (.agg #[(.int .i64 0), (.int .i64 0)]) 16 rfl Try.underlying29 info80 rfl (by decide) (by omega) v265 y264 l0 _ _ _ (fun _ => True) (fun _ => False) rfl rfl ?aO ?aR (fun _ _ h => h) (fun _ h => h.elim) ?aF ?aB ?aS ?aL ?_; (case aR => exact z5_); (case aB => exact z51_); (case aF => exact z116_); (case aO => exact (by (with_reducible repeat (first | apply Kd.R_alloc | apply Kd.R_drewN | apply Kd.R_drew)); exact HO266.out)); (case aS => exact z46_); (case aL => have := LMc2.out; omega); intro v268 w5 ho hb hg hat; rw [← Ny267.out] at ho; replace HB := Aside0.mk (hb); have HO269 := Aside0.mk (ho); clear HO266; clear ho hb hg hat))
 go_ret
 exact ⟨_, z6_, by (with_reducible repeat (first | apply Kd.R_alloc | apply Kd.R_drewN | apply Kd.R_drew)); exact HO269.out, z0_⟩

end Go.Proofs.Ytdapeboajjidmaa.PFnJoined
