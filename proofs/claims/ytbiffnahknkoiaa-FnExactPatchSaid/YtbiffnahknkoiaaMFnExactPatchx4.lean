/- Laid by a program of this session out of the kit's print for the law FnExactPatch: what it says of the machine is proved here, function by function; each contract under the conditions that it names. -/
import Derived.Test.YtbiffnahknkoiaaMFnExactPatchx0
import Derived.Test.YtbiffnahknkoiaaMFnExactPatchx2
import Derived.Test.YtbiffnahknkoiaaMFnExactPatchx3
namespace Go.Proofs.Ytbiffnahknkoiaa.PFnExactPatch
open Go.RowKit Go.Proofs.YtbiffnahknkoiaaW.PrintWords Go.Proofs.YtbiffnahknkoiaaW.PrintLast Go.Proofs.YtbiffnahknkoiaaW.PrintMore
attribute [local go_sem] max2_int min2_int max_two min_two max_three min_three max_four min_four   -- for this text's walks alone
set_option linter.unusedVariables false
set_option linter.unusedSimpArgs false

/-! ### spec_GetScript: function 30 -/
def spec_mkl15In.f (a0 : ByteArray) : Option (ByteArray × Int × Int) := some (a0, 0, 0)
mutual
def spec_GetScript.j1 : Nat → ByteArray → List (S100) → ByteArray → Int → Int → Option ((List (S100)) × Int)
 | 0, _, _, _, _, _ => none
 | k + 1, x0, x5, x190000, x190001, x190002 => if x190002 = 0 then (spec_GetScript.j2 k x5 (x190001 != (x0.size : Int)) x190000 x190001 x190002) else (spec_GetScript.j2 k x5 false x190000 x190001 x190002)
def spec_GetScript.j2 : Nat → List (S100) → Bool → ByteArray → Int → Int → Option ((List (S100)) × Int)
 | 0, _, _, _, _, _ => none
 | k + 1, x5, x42, x190000, x190001, x190002 => if x42 = true then (if 7 = 0 then (some (x5, 0)) else (some ((([] : List (S100))), 7))) else (if x190002 = 0 then (some (x5, 0)) else (some ((([] : List (S100))), x190002)))
def spec_GetScript.l0 : Nat → ByteArray → List (S100) → Int → ByteArray → Int → Int → Option ((List (S100)) × Int)
 | 0, _, _, _, _, _, _ => none
 | k + 1, x0, x5, x6, x190000, x190001, x190002 => if x6 > 0 then (if x190002 = 0 then ((spec_l15Get.f k x190000 x190001 x190002).bind fun bt197 => (if x5.length < 2513169434916 then (spec_GetScript.l0 k x0 (x5 ++ [(⟨bt197.1, bt197.2.1, bt197.2.2.1, bt197.2.2.2.1, bt197.2.2.2.2.1⟩ : S100)]) (wrap64 (x6 - 1)) bt197.2.2.2.2.2.1 bt197.2.2.2.2.2.2.1 bt197.2.2.2.2.2.2.2) else (none))) else (spec_GetScript.j1 k x0 x5 x190000 x190001 x190002)) else (spec_GetScript.j1 k x0 x5 x190000 x190001 x190002)
end
def spec_GetScript.f (k : Nat) (a0 : ByteArray) : Option ((List (S100)) × Int) := (spec_mkl15In.f a0).bind fun bt186 => ((spec_l15Num.f k bt186.1 bt186.2.1 bt186.2.2 60 2).bind fun bt193 => (spec_GetScript.l0 k a0 (([] : List (S100))) bt193.1 bt193.2.1 bt193.2.2.1 bt193.2.2.2))
set_option maxHeartbeats 8000000 in
set_option maxRecDepth 100000 in
theorem spec_GetScript.calls (k : Nat) (a0 : ByteArray) (r1 : List (S100)) (r2 : Int) (w : World) (h : spec_GetScript.f k a0 = some (r1, r2)) :
  Calls Try.prog 30 #[.string a0] w fun e w' => ∃ v0_ : Value, e = .returned (.tuple #[v0_, .int .i64 r2]) ∧ Kd.S k100 100 w' w.heap.size (fun _ => True) v0_ r1 ∧ Below w.heap.size w w' := by
 have hu97 := Try.underlying97
 have HB := Aside0.mk (Below.refl w.heap.size w)
 have H : ((spec_mkl15In.f a0).bind fun bt186 => ((spec_l15Num.f k bt186.1 bt186.2.1 bt186.2.2 60 2).bind fun bt193 => (spec_GetScript.l0 k a0 (([] : List (S100))) bt193.1 bt193.2.1 bt193.2.2.1 bt193.2.2.2))) = some (r1, r2) := h
 clear h
 replace H := Option.bind_eq_some_iff.mp H
 obtain ⟨⟨t186, t187, t188⟩, A20, H⟩ := H
 try dsimp only at H
 have A2 := Aside0.mk A20
 clear A20
 first | ((with_reducible have hz_ := gy_ H); obtain ⟨y190, Ny190, H⟩ := hz_) | (generalize hy_ : ((([] : List (S100))) : List (S100)) = y190 at H; have Ny190 := Aside0.mk hy_.symm; clear hy_)
 replace H := Option.bind_eq_some_iff.mp H
 obtain ⟨⟨t193, t194, t195, t196⟩, A30, H⟩ := H
 try dsimp only at H
 have A3 := Aside0.mk A30
 clear A30
 have HC4 := Aside0.mk H
 clear H
 go_enter Try.func30, Try.ntmps30
 go_upto_block 0 with (first | ((with_reducible refine gate_dst (N := 9) rfl ?_); refine box_event ?hg (N := 9) ?hd (cs := #[.string a0, .int .i64 0, .int .i64 0]) (t := 97) ?hr ?_; (case hd => rfl); (case hg => rfl); (case hr => exact z10_); intro g189 hg w5 hbox hb2; have hb := below_step HB.out hb2; have hi : IsS97 w w5 g189 t186 t187 t188 := (by have e_ := A2.out; simp only [spec_mkl15In.f, Option.some.injEq, Prod.mk.injEq] at e_; rw [← e_.1, ← e_.2.1, ← e_.2.2]; exact ⟨hbox, by rw [hg]; exact below_size HB.out⟩); clear hbox hg; replace HB := Aside0.mk (hb); have HI189 := Aside0.mk (hi); (try clear hb); (try clear hb2); (try clear hk); (try clear hi)) | ((with_reducible refine gate_dst (N := 10) rfl ?_); (try (refine gate_guard (by rfl) ?_; dsimp only)); refine Kd.S_lit k100 _ 100 ?hg (N := 10) ?hd (xs := ([] : List (S100))) (inner := []) (ok := fun _ => True) (okp := fun _ => True) ?hr ?hp (fun _ hk => hk) trivial (Below.refl _ _) (Nat.le_refl _) (by simp) ?_; (case hd => rfl); (case hg => rfl); (case hr => exact z10_); (case hp => exact z75_); intro v191 w6 ho7 hb hg_ hnew_; clear hg_ hnew_; (first | rw [← Ny190.out] at ho7 | (simp only [Int.reduceToNat] at ho7; rw [← Ny190.out] at ho7)); have HO192 := Aside0.mk (Kd.S_lower ho7 (below_size z22_)); replace HB := Aside0.mk (below_step z22_ hb); replace HI189 := Aside0.mk (IsS97.below z37_ hb); clear hb ho7) | ((with_reducible refine gate_callee (f := 62) rfl ?_); refine goesL_ (some 12) rfl rfl Try.func62 (by kernel_rfl) rfl #[.pointer (some ⟨g189, 0, none⟩), .int .i64 60, .int .i64 2] rfl z1_ ?_; (with_reducible refine (spec_l15Num.calls k g189 t186 t187 t188 60 2 t193 t194 t195 t196 w _ ?side1 ?side2 A3.out).mono ?_); (case side1 => exact z37_); (case side2 => exact z22_); rintro e w8 ⟨rfl, hi, hb, hk⟩; refine ⟨_, rfl, ?_⟩; replace HO192 := Aside0.mk (Kd.S_mono (Kd.S_keep (IsS97.apartS (show IsS97 w _ g189 t186 t187 t188 from by repeat (first | (with_reducible first | exact HI189.out | apply IsS97.alloc | apply IsS97.drewN | apply IsS97.drew | apply IsS97.set_0 | apply IsS97.set_1 | apply IsS97.set_2) | exact HI189.out)) z138_ (by decide)) hk (fun _ h => h.2)) (fun _ h => h.1)); replace HB := Aside0.mk (hb); replace HI189 := Aside0.mk (hi); (try clear hb hk hi)))
 (try simp only [Act.put, List.setIfInBounds_toArray, List.set_cons_zero, List.set_cons_succ])
 go_cut [5] (fun v5 wc => ∃ (kq : Nat) (x5_3 : List (S100)) (x190000_3 : ByteArray) (x190001_3 : Int) (x190002_3 : Int), Aside0 (spec_GetScript.j1 kq a0 x5_3 x190000_3 x190001_3 x190002_3 = some (r1, r2)) ∧ Aside0 (kq ≤ k) ∧ Aside0 (Kd.S k100 100 wc w.heap.size (fun _ => True) v5 x5_3) ∧ Aside0 (IsS97 w wc g189 x190000_3 x190001_3 x190002_3) ∧ Aside0 (Below w.heap.size w wc))
 case first =>
  have H := HC4.out
  clear HC4
  have H' := Aside0.mk H
  clear H
  go_wp2
  go_loopg [5, 6] k (fun kq v5 v6 w' => ∃ (x5_1 : List (S100)) (x6_1 : Int) (x190000_1 : ByteArray) (x190001_1 : Int) (x190002_1 : Int), v6 = .int .i64 x6_1 ∧ Aside0 (spec_GetScript.l0 kq a0 x5_1 x6_1 x190000_1 x190001_1 x190002_1 = some (r1, r2)) ∧ Aside0 (kq ≤ k) ∧ Aside0 (Kd.S k100 100 w' w.heap.size (fun _ => True) v5 x5_1) ∧ Aside0 (IsS97 w w' g189 x190000_1 x190001_1 x190002_1) ∧ Aside0 (Below w.heap.size w w'))
  case atStart => exact ⟨(y190), (t193), (t194), (t195), (t196), z8_, H', ⟨Nat.le_refl _⟩, ⟨z138_⟩, ⟨z37_⟩, ⟨z22_⟩⟩
  case round =>
   clear H'
   try clear p2
   try clear c3
   try clear c4
   try clear c6
   obtain ⟨x5_1, x6_1, x190000_1, x190001_1, x190002_1, rfl, HA, HK1, HO_5, HI189, HB⟩ := hrel
   cases gk with
   | zero => exact absurd HA.out (by simp [spec_GetScript.l0])
   | succ k1 =>
    have H := HA.out
    clear HA
    simp only [spec_GetScript.l0] at H
    by_cases c9 : x6_1 > 0
    ·rw [if_pos c9] at H
     have c9b0 := decide_eq_true c9
     clear c9
     (first | rw [c9b0] | rw [c9b1] | (simp only [i64_w, i32_w]; rw [c9b0]) | skip)
     by_cases c10 : x190002_1 = 0
     ·rw [if_pos c10] at H
      have c10b0 : (x190002_1 == 0) = true := beq_iff_eq.mpr c10
      have c10b1 : (x190002_1 != 0) = false := bne_eq_false_iff_eq.mpr c10
      clear c10
      replace H := Option.bind_eq_some_iff.mp H
      obtain ⟨⟨t197, t198, t201, t202, t203, t204, t205, t206⟩, A110, H⟩ := H
      try dsimp only at H
      have A11 := Aside0.mk A110
      clear A110
      obtain ⟨c12, H⟩ := ifs_ H
      have LMc12 := Aside0.mk c12
      clear c12
      first | ((with_reducible have hz_ := gy_ H); obtain ⟨y207, Ny207, H⟩ := hz_) | (generalize hy_ : ((x5_1 ++ [(⟨t197, t198, t201, t202, t203⟩ : S100)]) : List (S100)) = y207 at H; have Ny207 := Aside0.mk hy_.symm; clear hy_)
      have H' := Aside0.mk H
      clear H
      obtain ⟨HGz13, hgz13⟩ := HI189.out
      have hcz13_0 := cellS97_0 HGz13
      have hcz13_1 := cellS97_1 HGz13
      have hcz13_2 := cellS97_2 HGz13
      have hfz13_0 := blk_frozen HGz13 0
      have hfz13_1 := blk_frozen HGz13 1
      have hfz13_2 := blk_frozen HGz13 2
      clear HGz13 hgz13
      go_wp2_with (first | ((with_reducible refine gate_callee (f := 63) rfl ?_); refine goesL_ (some 26) rfl rfl Try.func63 (by kernel_rfl) rfl #[.pointer (some ⟨g189, 0, none⟩)] rfl z1_ ?_; (with_reducible refine (spec_l15Get.calls k1 g189 x190000_1 x190001_1 x190002_1 t197 t198 t201 t202 t203 t204 t205 t206 w _ ?side1 ?side2 A11.out).mono ?_); (case side1 => exact z37_); (case side2 => exact z22_); rintro e w14 ⟨v199, rfl, ho0, hi, hb, hk⟩; refine ⟨_, rfl, ?_⟩; replace HO_5 := Aside0.mk (Kd.S_mono (Kd.S_told (Kd.S_oldK (IsS97.apartS (show IsS97 w _ g189 x190000_1 x190001_1 x190002_1 from by repeat (first | (with_reducible first | exact HI189.out | apply IsS97.alloc | apply IsS97.drewN | apply IsS97.drew | apply IsS97.set_0 | apply IsS97.set_1 | apply IsS97.set_2) | exact HI189.out)) z41_ (by decide)) hk) (Kd.R_base ho0)) (fun _ h_ => h_.1)); have HO200 := Aside0.mk (Kd.R_lower ho0 (below_size z22_)); replace HB := Aside0.mk (hb); replace HI189 := Aside0.mk (hi); (try clear hb hk hi ho0); obtain ⟨Ao16, co16, eo16⟩ := Kd.R_slice HO200.out; subst eo16) | ((with_reducible refine gate_builtin (b := .append) (xs := #[.tmp 24, .tmp 27]) rfl ?_); (try (refine gate_guard (by rfl) ?_; dsimp only)); at_builtin; refine Kd.S_append k100 (w0 := w) w.heap.size rfl (.tmp 24) (.tmp 27) 61 100 (.agg #[(.int .i64 0), (.slice none 0 0), (.int .i64 0), (.int .i64 0), (.int .i64 0)]) 56 rfl Try.underlying61 info100 rfl (by decide) (by omega) u5 x5_1 (⟨t197, t198, t201, t202, t203⟩ : S100) [.int .i64 t197, .slice Ao16 t198.length co16, .int .i64 t201, .int .i64 t202, .int .i64 t203] (fun _ => True) (fun k_ => some k_ = (.slice Ao16 t198.length co16 : Value).ownBlock) rfl rfl ?aP (fun k_ hk_ => ((Kd.R_mono (ok' := fun k_ => ((fun _ => True)) k_ ∧ some k_ ≠ (u5 : Value).ownBlock) (Kd.R_apart' (HO200.out) (Kd.S_typed HO_5.out) (by decide)) (fun k_ hk => ⟨trivial, hk.2⟩))).1 k_ hk_.symm) ?aF ?aO ?aB ?aS ?aL ?_; (case aP => exact k100_mkM _ _ _ (⟨t197, t198, t201, t202, t203⟩ : S100) (Kd.R_mono (Kd.R_tight rfl (Kd.R_mono (ok' := fun k_ => ((fun _ => True)) k_ ∧ some k_ ≠ (u5 : Value).ownBlock) (Kd.R_apart' (HO200.out) (Kd.S_typed HO_5.out) (by decide)) (fun k_ hk => ⟨trivial, hk.2⟩))) (fun _ h_ => h_))); (case aB => exact z22_); (case aF => exact z87_); (case aO => exact (by (with_reducible repeat (first | apply Kd.S_alloc | apply Kd.S_drewN | apply Kd.S_drew)); exact Kd.S_mono HO_5.out (fun k_ hk => ⟨trivial, fun e_ => hk.2 e_⟩))); (case aS => exact (below_size z22_)); (case aL => have := LMc12.out; omega); intro v208 w15 ho hb hg hat; rw [← Ny207.out] at ho; replace HI189 := Aside0.mk (IsS97.grown z37_ hg (IsS97.own_neS HI189.out HO_5.out (by decide))); replace HB := Aside0.mk (hb); have HO209 := Aside0.mk (ho); clear HO_5 HO200; clear ho hb hg hat))
      go_roundg k1
      case measure => have := HK1.out; omega
      case rel => exact ⟨(y207), (wrap64 (x6_1 - 1)), (t204), (t205), (t206), z8_, H', ⟨z93_⟩, ⟨by (with_reducible repeat (first | apply Kd.S_alloc | apply Kd.S_drewN | apply Kd.S_drew)); exact HO209.out⟩, ⟨z37_⟩, ⟨z22_⟩⟩
     ·rw [if_neg c10] at H
      have c10b0 : (x190002_1 == 0) = false := beq_eq_false_iff_ne.mpr c10
      have c10b1 : (x190002_1 != 0) = true := bne_iff_ne.mpr c10
      have H' := Aside0.mk H
      clear H
      obtain ⟨HGz17, hgz17⟩ := HI189.out
      have hcz17_0 := cellS97_0 HGz17
      have hcz17_1 := cellS97_1 HGz17
      have hcz17_2 := cellS97_2 HGz17
      have hfz17_0 := blk_frozen HGz17 0
      have hfz17_1 := blk_frozen HGz17 1
      have hfz17_2 := blk_frozen HGz17 2
      clear HGz17 hgz17
      go_wp2
      go_meet
      case rel => exact ⟨_, (x5_1), (x190000_1), (x190001_1), (x190002_1), H', ⟨z100_⟩, ⟨z41_⟩, ⟨z37_⟩, ⟨z22_⟩⟩
    ·rw [if_neg c9] at H
     have c9b0 := decide_eq_false c9
     clear c9
     (first | rw [c9b0] | rw [c9b1] | (simp only [i64_w, i32_w]; rw [c9b0]) | skip)
     have H' := Aside0.mk H
     clear H
     go_wp2
     go_meet
     case rel => exact ⟨_, (x5_1), (x190000_1), (x190001_1), (x190002_1), H', ⟨z100_⟩, ⟨z41_⟩, ⟨z37_⟩, ⟨z22_⟩⟩
 case rest =>
  clear HC4
  try clear c1
  try clear p2
  try clear c3
  try clear c4
  try clear c6
  try clear p6
  try clear c9
  try clear c9b0
  try clear c10
  try clear c10b0
  try clear c10b1
  try clear c12
  try clear hcz13_0
  try clear hcz13_1
  try clear hcz13_2
  try clear hcz17_0
  try clear hcz17_1
  try clear hcz17_2
  try clear hfz13_0
  try clear hfz13_1
  try clear hfz13_2
  try clear hfz17_0
  try clear hfz17_1
  try clear hfz17_2
  try clear p2
  obtain ⟨kq, x5_3, x190000_3, x190001_3, x190002_3, HA, HJ3, HO_5, HI189, HB⟩ := hcut
  cases kq with
  | zero => exact absurd HA.out (by simp [spec_GetScript.j1])
  | succ kj3 =>
   have H := HA.out
   clear HA
   simp only [spec_GetScript.j1] at H
   have HC18 := Aside0.mk H
   clear H
   go_upto_region 7 with (fail)
   go_cut [42] (fun v42 wc => ∃ (kq : Nat) (x42_17 : Bool), v42 = .bool x42_17 ∧ Aside0 (spec_GetScript.j2 kq x5_3 x42_17 x190000_3 x190001_3 x190002_3 = some (r1, r2)) ∧ Aside0 (kq ≤ kj3) ∧ Aside0 (Kd.S k100 100 wc w.heap.size (fun _ => True) u5 x5_3) ∧ Aside0 (IsS97 w wc g189 x190000_3 x190001_3 x190002_3) ∧ Aside0 (Below w.heap.size w wc))
   case first =>
    have H := HC18.out
    clear HC18
    by_cases c19 : x190002_3 = 0
    ·rw [if_pos c19] at H
     have c19b0 : (x190002_3 == 0) = true := beq_iff_eq.mpr c19
     have c19b1 : (x190002_3 != 0) = false := bne_eq_false_iff_eq.mpr c19
     clear c19
     (first | rw [c19b0] | rw [c19b1] | (simp only [i64_w, i32_w]; rw [c19b0]) | skip)
     have H' := Aside0.mk H
     clear H
     obtain ⟨HGz20, hgz20⟩ := HI189.out
     have hcz20_0 := cellS97_0 HGz20
     have hcz20_1 := cellS97_1 HGz20
     have hcz20_2 := cellS97_2 HGz20
     have hfz20_0 := blk_frozen HGz20 0
     have hfz20_1 := blk_frozen HGz20 1
     have hfz20_2 := blk_frozen HGz20 2
     clear HGz20 hgz20
     go_wp2
     go_meet
     case rel => exact ⟨_, ((x190001_3 != (a0.size : Int))), z8_, H', ⟨by have := HJ3.out; first | omega | exact Nat.le_refl _⟩, ⟨z41_⟩, ⟨z37_⟩, ⟨z22_⟩⟩
    ·rw [if_neg c19] at H
     have c19b0 : (x190002_3 == 0) = false := beq_eq_false_iff_ne.mpr c19
     have c19b1 : (x190002_3 != 0) = true := bne_iff_ne.mpr c19
     (first | rw [c19b0] | rw [c19b1] | (simp only [i64_w, i32_w]; rw [c19b0]) | skip)
     have H' := Aside0.mk H
     clear H
     obtain ⟨HGz21, hgz21⟩ := HI189.out
     have hcz21_0 := cellS97_0 HGz21
     have hcz21_1 := cellS97_1 HGz21
     have hcz21_2 := cellS97_2 HGz21
     have hfz21_0 := blk_frozen HGz21 0
     have hfz21_1 := blk_frozen HGz21 1
     have hfz21_2 := blk_frozen HGz21 2
     clear HGz21 hgz21
     go_wp2
     go_meet
     case rel => exact ⟨_, (false), z8_, H', ⟨by have := HJ3.out; first | omega | exact Nat.le_refl _⟩, ⟨z41_⟩, ⟨z37_⟩, ⟨z22_⟩⟩
   case rest =>
    clear HC18
    try clear c1
    try clear p2
    try clear c3
    try clear c4
    try clear c6
    try clear p6
    try clear c9
    try clear c9b0
    try clear c10
    try clear c10b0
    try clear c10b1
    try clear c12
    try clear c19
    try clear c19b0
    try clear c19b1
    try clear hcz13_0
    try clear hcz13_1
    try clear hcz13_2
    try clear hcz17_0
    try clear hcz17_1
    try clear hcz17_2
    try clear hcz20_0
    try clear hcz20_1
    try clear hcz20_2
    try clear hcz21_0
    try clear hcz21_1
    try clear hcz21_2
    try clear hfz13_0
    try clear hfz13_1
    try clear hfz13_2
    try clear hfz17_0
    try clear hfz17_1
    try clear hfz17_2
    try clear hfz20_0
    try clear hfz20_1
    try clear hfz20_2
    try clear hfz21_0
    try clear hfz21_1
    try clear hfz21_2
    try clear p2
    try clear p6
    obtain ⟨kq, x42_17, rfl, HA, HJ17, HO_5, HI189, HB⟩ := hcut
    cases kq with
    | zero => exact absurd HA.out (by simp [spec_GetScript.j2])
    | succ kj17 =>
     have H := HA.out
     clear HA
     simp only [spec_GetScript.j2] at H
     by_cases c22 : x42_17 = true
     ·subst c22
      replace H := ift_ H
      by_cases c23 : 7 = 0
      ·exact absurd c23 (by decide)
      ·rw [if_neg c23] at H
       have c23b0 : (7 == 0) = false := beq_eq_false_iff_ne.mpr c23
       have c23b1 : (7 != 0) = true := bne_iff_ne.mpr c23
       first | ((with_reducible have hz_ := gy_ H); obtain ⟨y210, Ny210, H⟩ := hz_) | (generalize hy_ : ((([] : List (S100))) : List (S100)) = y210 at H; have Ny210 := Aside0.mk hy_.symm; clear hy_)
       simp only [Option.some.injEq, Prod.mk.injEq] at H
       obtain ⟨rfl, rfl⟩ := H
       obtain ⟨HGz25, hgz25⟩ := HI189.out
       have hcz25_0 := cellS97_0 HGz25
       have hcz25_1 := cellS97_1 HGz25
       have hcz25_2 := cellS97_2 HGz25
       have hfz25_0 := blk_frozen HGz25 0
       have hfz25_1 := blk_frozen HGz25 1
       have hfz25_2 := blk_frozen HGz25 2
       clear HGz25 hgz25
       go_upto_region 10 with (fail)
       refine start_ (n := 7) (S := fun w' => w'.cell? ⟨g189, 2, none⟩ = some (.int .i64 7)) (ds := []) (fl_ 7 0) (by kernel_rfl) rfl (fl_zero _) ((cellS97_2 (IsS97.set_2 HI189.out 7).1)) (fun hHeld => ?_)
       refine pure_ (i := 1) (N := some 52) (v := ?_) (a' := ?_) #[false, true, false, false, false, false, false] rfl rfl (by kernel_rfl) (fun _ _ _ h => h) (Or.inl ⟨by rfl, ?_⟩) ?_ ?_
       rotate_left
       ·intro w'
        go_simp
        with_reducible rfl
       rotate_left
       ·simp only [Act.put, List.setIfInBounds_toArray, List.set_cons_zero, List.set_cons_succ, i64_w, i32_w]
        rfl
       refine pure_ (i := 2) (N := some 53) (v := ?_) (a' := ?_) #[false, true, true, false, false, false, false] rfl rfl (by kernel_rfl) (fun _ _ _ h => h) (Or.inl ⟨by rfl, ?_⟩) ?_ ?_
       rotate_left
       ·intro w'
        go_simp
        with_reducible rfl
       rotate_left
       ·simp only [Act.put, List.setIfInBounds_toArray, List.set_cons_zero, List.set_cons_succ, i64_w, i32_w]
        rfl
       refine pure_ (i := 3) (N := some 54) (v := ?_) (a' := ?_) #[false, true, true, true, false, false, false] rfl rfl (by kernel_rfl) (fun _ _ _ h => h) (Or.inl ⟨by rfl, ?_⟩) ?_ ?_
       rotate_left
       ·intro w'
        go_simp
        with_reducible rfl
       rotate_left
       ·simp only [Act.put, List.setIfInBounds_toArray, List.set_cons_zero, List.set_cons_succ, i64_w, i32_w]
        rfl
       refine take_ (i := 4) (N := some 55) (v := ?_) (a' := ?_) #[false, true, true, true, true, false, false] rfl rfl (by kernel_rfl) (fun _ _ _ h => h) (Or.inl ⟨by rfl, ?_⟩) hHeld ?_ ?_
       rotate_left
       ·intro w' s0
        go_simp
        with_reducible rfl
       rotate_left
       ·simp only [Act.put, List.setIfInBounds_toArray, List.set_cons_zero, List.set_cons_succ, i64_w, i32_w]
        rfl
       refine one_ (i := 0) (N := some 51) (fl_ 7 5) rfl rfl (by kernel_rfl) (by decide) (fun K hK => ?_)
       refine Kd.S_lit_step k100 _ 100 (by rfl) (N := 51) ?hd (xs := ([] : List (S100))) (inner := []) (ok := fun _ => True) (okp := fun _ => True) ?hr ?hp (fun _ hk => hk) trivial (Below.refl _ _) (Nat.le_refl _) (by simp) ?_
       (case hd => rfl)
       (case hr => exact z10_)
       (case hp => exact z75_)
       intro v211 w26 ho27 hb hg_ hnew_
       clear hg_ hnew_
       (first | rw [← Ny210.out] at ho27 | (simp only [Int.reduceToNat] at ho27; rw [← Ny210.out] at ho27))
       have n0_ := Aside0.mk (Kd.S_elder' z97_ (Kd.S_base ho27) hb)
       have n1_ := Aside0.mk (Kd.S_lower (Kd.S_new' ho27 (Kd.S_lt z97_)) (below_size z22_))
       have n2_ := Aside0.mk (IsS97.below (show IsS97 w _ g189 x190000_3 x190001_3 7 from by repeat (first | (with_reducible first | exact HI189.out | apply IsS97.alloc | apply IsS97.drewN | apply IsS97.drew | apply IsS97.set_0 | apply IsS97.set_1 | apply IsS97.set_2) | exact HI189.out)) hb)
       have n3_ := Aside0.mk (below_step z22_ hb)
       clear HO_5
       clear HI189
       clear HB
       have HO_5 := n0_
       have HO212 := n1_
       have HI189 := n2_
       have HB := n3_
       clear n0_ n1_ n2_ n3_
       clear hb ho27
       obtain ⟨HGz28, hgz28⟩ := HI189.out
       have hcz28_0 := cellS97_0 HGz28
       have hcz28_1 := cellS97_1 HGz28
       have hcz28_2 := cellS97_2 HGz28
       have hfz28_0 := blk_frozen HGz28 0
       have hfz28_1 := blk_frozen HGz28 1
       have hfz28_2 := blk_frozen HGz28 2
       clear HGz28 hgz28
       refine hK.out _ _ ((cellS97_2 HI189.out.1)) (fun hHeld => ?_)
       clear hK K
       refine zn_ rfl ?_
       refine pure_ (i := 5) (N := some 2) (v := ?_) (a' := ?_) #[true, true, true, true, true, true, false] rfl rfl (by kernel_rfl) (fun _ _ _ h => h) (Or.inl ⟨by rfl, ?_⟩) ?_ ?_
       rotate_left
       ·intro w'
        go_simp
        with_reducible rfl
       rotate_left
       ·simp only [Act.put, List.setIfInBounds_toArray, List.set_cons_zero, List.set_cons_succ, i64_w, i32_w]
        rfl
       refine pure_ (i := 6) (N := some 3) (v := ?_) (a' := ?_) #[true, true, true, true, true, true, true] rfl rfl (by kernel_rfl) (fun _ _ _ h => h) (Or.inl ⟨by rfl, ?_⟩) ?_ ?_
       rotate_left
       ·intro w'
        go_simp
        with_reducible rfl
       rotate_left
       ·simp only [Act.put, List.setIfInBounds_toArray, List.set_cons_zero, List.set_cons_succ, i64_w, i32_w]
        rfl
       refine done_ (by kernel_rfl) ?_
       go_wp2
       go_ret2
       exact ⟨_, z3_, by (with_reducible repeat (first | apply Kd.S_alloc | apply Kd.S_drewN | apply Kd.S_drew)); exact Kd.S_mono HO212.out (fun _ hk => trivial), z22_⟩
     ·replace c22 := Bool.eq_false_iff.mpr c22
      subst c22
      replace H := iff_ H
      by_cases c29 : x190002_3 = 0
      ·rw [if_pos c29] at H
       have c29b0 : (x190002_3 == 0) = true := beq_iff_eq.mpr c29
       have c29b1 : (x190002_3 != 0) = false := bne_eq_false_iff_eq.mpr c29
       clear c29
       simp only [Option.some.injEq, Prod.mk.injEq] at H
       obtain ⟨rfl, rfl⟩ := H
       obtain ⟨HGz30, hgz30⟩ := HI189.out
       have hcz30_0 := cellS97_0 HGz30
       have hcz30_1 := cellS97_1 HGz30
       have hcz30_2 := cellS97_2 HGz30
       have hfz30_0 := blk_frozen HGz30 0
       have hfz30_1 := blk_frozen HGz30 1
       have hfz30_2 := blk_frozen HGz30 2
       clear HGz30 hgz30
       go_wp2
       go_ret2
       exact ⟨_, z3_, z41_, z22_⟩
      ·rw [if_neg c29] at H
       have c29b0 : (x190002_3 == 0) = false := beq_eq_false_iff_ne.mpr c29
       have c29b1 : (x190002_3 != 0) = true := bne_iff_ne.mpr c29
       first | ((with_reducible have hz_ := gy_ H); obtain ⟨y213, Ny213, H⟩ := hz_) | (generalize hy_ : ((([] : List (S100))) : List (S100)) = y213 at H; have Ny213 := Aside0.mk hy_.symm; clear hy_)
       simp only [Option.some.injEq, Prod.mk.injEq] at H
       obtain ⟨rfl, rfl⟩ := H
       obtain ⟨HGz31, hgz31⟩ := HI189.out
       have hcz31_0 := cellS97_0 HGz31
       have hcz31_1 := cellS97_1 HGz31
       have hcz31_2 := cellS97_2 HGz31
       have hfz31_0 := blk_frozen HGz31 0
       have hfz31_1 := blk_frozen HGz31 1
       have hfz31_2 := blk_frozen HGz31 2
       clear HGz31 hgz31
       go_upto_region 10 with (fail)
       refine start_ (n := 7) (S := fun w' => w'.cell? ⟨g189, 2, none⟩ = some (.int .i64 x190002_3)) (ds := []) (fl_ 7 0) (by kernel_rfl) rfl (fl_zero _) ((cellS97_2 HI189.out.1)) (fun hHeld => ?_)
       refine pure_ (i := 1) (N := some 52) (v := ?_) (a' := ?_) #[false, true, false, false, false, false, false] rfl rfl (by kernel_rfl) (fun _ _ _ h => h) (Or.inl ⟨by rfl, ?_⟩) ?_ ?_
       rotate_left
       ·intro w'
        go_simp
        with_reducible rfl
       rotate_left
       ·simp only [Act.put, List.setIfInBounds_toArray, List.set_cons_zero, List.set_cons_succ, i64_w, i32_w]
        rfl
       refine pure_ (i := 2) (N := some 53) (v := ?_) (a' := ?_) #[false, true, true, false, false, false, false] rfl rfl (by kernel_rfl) (fun _ _ _ h => h) (Or.inl ⟨by rfl, ?_⟩) ?_ ?_
       rotate_left
       ·intro w'
        go_simp
        with_reducible rfl
       rotate_left
       ·simp only [Act.put, List.setIfInBounds_toArray, List.set_cons_zero, List.set_cons_succ, i64_w, i32_w]
        rfl
       refine pure_ (i := 3) (N := some 54) (v := ?_) (a' := ?_) #[false, true, true, true, false, false, false] rfl rfl (by kernel_rfl) (fun _ _ _ h => h) (Or.inl ⟨by rfl, ?_⟩) ?_ ?_
       rotate_left
       ·intro w'
        go_simp
        with_reducible rfl
       rotate_left
       ·simp only [Act.put, List.setIfInBounds_toArray, List.set_cons_zero, List.set_cons_succ, i64_w, i32_w]
        rfl
       refine take_ (i := 4) (N := some 55) (v := ?_) (a' := ?_) #[false, true, true, true, true, false, false] rfl rfl (by kernel_rfl) (fun _ _ _ h => h) (Or.inl ⟨by rfl, ?_⟩) hHeld ?_ ?_
       rotate_left
       ·intro w' s0
        go_simp
        with_reducible rfl
       rotate_left
       ·simp only [Act.put, List.setIfInBounds_toArray, List.set_cons_zero, List.set_cons_succ, i64_w, i32_w]
        rfl
       refine one_ (i := 0) (N := some 51) (fl_ 7 5) rfl rfl (by kernel_rfl) (by decide) (fun K hK => ?_)
       refine Kd.S_lit_step k100 _ 100 (by rfl) (N := 51) ?hd (xs := ([] : List (S100))) (inner := []) (ok := fun _ => True) (okp := fun _ => True) ?hr ?hp (fun _ hk => hk) trivial (Below.refl _ _) (Nat.le_refl _) (by simp) ?_
       (case hd => rfl)
       (case hr => exact z10_)
       (case hp => exact z75_)
       intro v214 w32 ho33 hb hg_ hnew_
       clear hg_ hnew_
       (first | rw [← Ny213.out] at ho33 | (simp only [Int.reduceToNat] at ho33; rw [← Ny213.out] at ho33))
       have n0_ := Aside0.mk (Kd.S_elder' z41_ (Kd.S_base ho33) hb)
       have n1_ := Aside0.mk (Kd.S_lower (Kd.S_new' ho33 (Kd.S_lt z41_)) (below_size z22_))
       have n2_ := Aside0.mk (IsS97.below z37_ hb)
       have n3_ := Aside0.mk (below_step z22_ hb)
       clear HO_5
       clear HI189
       clear HB
       have HO_5 := n0_
       have HO215 := n1_
       have HI189 := n2_
       have HB := n3_
       clear n0_ n1_ n2_ n3_
       clear hb ho33
       obtain ⟨HGz34, hgz34⟩ := HI189.out
       have hcz34_0 := cellS97_0 HGz34
       have hcz34_1 := cellS97_1 HGz34
       have hcz34_2 := cellS97_2 HGz34
       have hfz34_0 := blk_frozen HGz34 0
       have hfz34_1 := blk_frozen HGz34 1
       have hfz34_2 := blk_frozen HGz34 2
       clear HGz34 hgz34
       refine hK.out _ _ ((cellS97_2 HI189.out.1)) (fun hHeld => ?_)
       clear hK K
       refine zn_ rfl ?_
       refine pure_ (i := 5) (N := some 2) (v := ?_) (a' := ?_) #[true, true, true, true, true, true, false] rfl rfl (by kernel_rfl) (fun _ _ _ h => h) (Or.inl ⟨by rfl, ?_⟩) ?_ ?_
       rotate_left
       ·intro w'
        go_simp
        with_reducible rfl
       rotate_left
       ·simp only [Act.put, List.setIfInBounds_toArray, List.set_cons_zero, List.set_cons_succ, i64_w, i32_w]
        rfl
       refine pure_ (i := 6) (N := some 3) (v := ?_) (a' := ?_) #[true, true, true, true, true, true, true] rfl rfl (by kernel_rfl) (fun _ _ _ h => h) (Or.inl ⟨by rfl, ?_⟩) ?_ ?_
       rotate_left
       ·intro w'
        go_simp
        with_reducible rfl
       rotate_left
       ·simp only [Act.put, List.setIfInBounds_toArray, List.set_cons_zero, List.set_cons_succ, i64_w, i32_w]
        rfl
       refine done_ (by kernel_rfl) ?_
       go_wp2
       go_ret2
       exact ⟨_, z3_, by (with_reducible repeat (first | apply Kd.S_alloc | apply Kd.S_drewN | apply Kd.S_drew)); exact Kd.S_mono HO215.out (fun _ hk => trivial), z22_⟩

end Go.Proofs.Ytbiffnahknkoiaa.PFnExactPatch
