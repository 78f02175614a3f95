/- Laid by a program of this session out of the kit's print for the law FnExactDropIdle: what it says of the machine is proved here, function by function; each contract under the conditions that it names. -/
import Derived.Test.YtdapeboajjidmaaMFnExactDropIdlex1
import Derived.Test.YtdapeboajjidmaaMFnExactDropIdlex2
import Derived.Test.YtdapeboajjidmaaMFnExactDropIdlex3
import Derived.Test.YtdapeboajjidmaaMFnExactDropIdlex4
import Derived.Test.YtdapeboajjidmaaMFnExactDropIdlex5
import Derived.Test.YtdapeboajjidmaaMFnExactDropIdlex6
import Derived.Test.YtdapeboajjidmaaMFnExactDropIdlex7
import Derived.Test.YtdapeboajjidmaaMFnExactDropIdlex8
import Derived.Test.YtdapeboajjidmaaMFnExactDropIdlex9
import Derived.Test.YtdapeboajjidmaaMFnExactDropIdlex10
import Derived.Test.YtdapeboajjidmaaMFnExactDropIdlex11
import Derived.Test.YtdapeboajjidmaaMFnExactDropIdlex12
import Derived.Test.YtdapeboajjidmaaMFnExactDropIdlex13
import Derived.Test.YtdapeboajjidmaaMFnExactDropIdlex0
namespace Go.Proofs.Ytdapeboajjidmaa.PFnExactDropIdle
open Go.RowKit Go.Proofs.YtdapeboajjidmaaW.PrintWords Go.Proofs.YtdapeboajjidmaaW.PrintLast Go.Proofs.YtdapeboajjidmaaW.PrintMore
attribute [local go_sem] max2_int min2_int max_two min_two max_three min_three max_four min_four   -- for this text's walks alone
set_option linter.unusedVariables false
set_option linter.unusedSimpArgs false

/-! ### laws_markNodeS: function 17 -/
def laws_markNodeS.l0 : Nat → List (S80) → Int → Int → Option (Int × (List (S80)))
 | 0, _, _, _ => none
 | k + 1, x0, x1, x5 => if x5 < (x0.length : Int) then (if 0 ≤ x5 then ((some (x0.set (x5 : Int).toNat (⟨x1, (rd_T80 x0 x5).f1⟩ : S80) : List (S80))).bind fun y437 => (laws_markNodeS.l0 k (y437.set (x5 : Int).toNat (⟨(rd_T80 y437 x5).f0, wrap64 (x1 + 1)⟩ : S80)) (wrap64 ((wrap64 (x1 + 1)) + 1)) (wrap64 (x5 + 1)))) else (none)) else (some (x1, x0))
def laws_markNodeS.f (k : Nat) (l0 : List (S80)) (a1 : Int) : Option (Int × (List (S80))) := laws_markNodeS.l0 k l0 a1 0
theorem laws_markNodeS.mono_l : ∀ k, (∀ y0 y1 y2, LeO (laws_markNodeS.l0 k y0 y1 y2) (laws_markNodeS.l0 (k + 1) y0 y1 y2))
 | 0 => fun _ _ _ r h => by simp [laws_markNodeS.l0] at h
 | k + 1 => by
  have ih0 := laws_markNodeS.mono_l k
  ·intro y0 y1 y2
   unfold laws_markNodeS.l0
   repeat' first | (with_reducible first | exact ih0 _ _ _ | exact LeO.refl _ | exact LeO.none _ | refine LeO.ite ?_ ?_ | refine LeO.bind ?_ (fun _ => ?_)) | exact ih0 _ _ _ | exact LeO.none _ | refine LeO.ite ?_ ?_ | refine LeO.bind ?_ (fun _ => ?_)
theorem laws_markNodeS.mono : ∀ a0 a1 k, LeO (laws_markNodeS.f k a0 a1) (laws_markNodeS.f (k + 1) a0 a1) := by
 intro a0 a1 k
 have ih0 := laws_markNodeS.mono_l k
 unfold laws_markNodeS.f
 repeat' first | (with_reducible first | exact ih0 _ _ _ | exact LeO.refl _ | exact LeO.none _ | refine LeO.ite ?_ ?_ | refine LeO.bind ?_ (fun _ => ?_)) | exact ih0 _ _ _ | exact LeO.none _ | refine LeO.ite ?_ ?_ | refine LeO.bind ?_ (fun _ => ?_)
set_option maxHeartbeats 8000000 in
set_option maxRecDepth 100000 in
theorem laws_markNodeS.calls (k : Nat) (P0_ : Nat → Prop) (u9000_ : Value) (l0 : List (S80)) (a1 : Int) (r1 : Int) (r2 : List (S80)) (w0 w : World) (hB : Below w0.heap.size w0 w) (ho0 : Kd.R k80 80 w w0.heap.size P0_ u9000_ l0) (h : laws_markNodeS.f k l0 a1 = some (r1, r2)) :
  Calls Try.prog 17 #[u9000_, .int .i64 a1] w fun e w' => e = .returned (.int .i64 r1) ∧ Kd.R k80 80 w' w0.heap.size (fun k_ => (P0_ k_ ∨ w.heap.size ≤ k_)) u9000_ r2 ∧ Below w0.heap.size w0 w' ∧ Kept w w' (fun k_ => P0_ k_) := by
 have HO0 := Aside0.mk (show Kd.R k80 80 w w0.heap.size (fun k_ => (P0_ k_ ∨ w.heap.size ≤ k_)) u9000_ l0 from Kd.R_mono ho0 (fun k_ hk => (.inl hk)))
 have HK := Aside0.mk (Kept.refl w (fun k_ => P0_ k_))
 have HW0 := Aside0.mk hB.size
 have HB := Aside0.mk hB
 clear hB
 have H : (laws_markNodeS.l0 k l0 a1 0) = some (r1, r2) := h
 clear h
 have H' := Aside0.mk H
 clear H
 go_enter Try.func17, Try.ntmps17
 go_wp2
 go_loopg [1, 5] k (fun kq v1 v5 w' => ∃ (x0_1 : List (S80)) (x1_1 : Int) (x5_1 : Int), v1 = .int .i64 x1_1 ∧ v5 = .int .i64 x5_1 ∧ Aside0 (laws_markNodeS.l0 kq x0_1 x1_1 x5_1 = some (r1, r2)) ∧ Aside0 (kq ≤ k) ∧ Aside0 (Kd.R k80 80 w' w0.heap.size (fun k_ => (P0_ k_ ∨ w.heap.size ≤ k_)) u9000_ x0_1) ∧ Aside0 (Kept w w' (fun k_ => P0_ k_)) ∧ Aside0 (Below w0.heap.size w0 w'))
 case atStart => exact ⟨(l0), (a1), (0), z7_, z7_, H', ⟨Nat.le_refl _⟩, ⟨z140_⟩, ⟨z28_⟩, ⟨z0_⟩⟩
 case round =>
  clear H'
  try clear c1
  try clear p2
  obtain ⟨x0_1, x1_1, x5_1, rfl, rfl, HA, HK1, HO_0, HK, HB⟩ := hrel
  cases gk with
  | zero => exact absurd HA.out (by simp [laws_markNodeS.l0])
  | succ k1 =>
   have H := HA.out
   clear HA
   simp only [laws_markNodeS.l0] at H
   by_cases c3 : x5_1 < (x0_1.length : Int)
   ·rw [if_pos c3] at H
    have c3b0 : decide (x5_1 < (x0_1.length : Int)) = true := decide_eq_true c3
    clear c3
    obtain ⟨c4b0, H⟩ := ifd_ H
    obtain ⟨y437, hy437⟩ : ∃ y_ : List (S80), y_ = (x0_1.set (x5_1 : Int).toNat (⟨x1_1, (rd_T80 x0_1 x5_1).f1⟩ : S80)) := ⟨_, rfl⟩
    replace H : (laws_markNodeS.l0 k1 (y437.set (x5_1 : Int).toNat (⟨(rd_T80 y437 x5_1).f0, wrap64 (x1_1 + 1)⟩ : S80)) (wrap64 ((wrap64 (x1_1 + 1)) + 1)) (wrap64 (x5_1 + 1))) = some (r1, r2) := by first | (rw [hy437]; with_reducible exact H) | (have H2_ := (Option.bind_some _ _).symm.trans H; rw [hy437]; with_reducible exact H2_) | (have H2_ := (Option.bind_some _ _).symm.trans H; with_reducible exact H2_) | with_reducible exact H | (rw [hy437]; exact H) | exact H
    have Ny437 := Aside0.mk hy437
    clear hy437
    obtain ⟨y438, hy438⟩ : ∃ y_ : List (S80), y_ = (y437.set (x5_1 : Int).toNat (⟨(rd_T80 y437 x5_1).f0, wrap64 (x1_1 + 1)⟩ : S80)) := ⟨_, rfl⟩
    replace H : (laws_markNodeS.l0 k1 y438 (wrap64 ((wrap64 (x1_1 + 1)) + 1)) (wrap64 (x5_1 + 1))) = some (r1, r2) := by first | (rw [hy438]; with_reducible exact H) | (have H2_ := (Option.bind_some _ _).symm.trans H; rw [hy438]; with_reducible exact H2_) | (have H2_ := (Option.bind_some _ _).symm.trans H; with_reducible exact H2_) | with_reducible exact H | (rw [hy438]; exact H) | exact H
    have Ny438 := Aside0.mk hy438
    clear hy438
    have H' := Aside0.mk H
    clear H
    obtain ⟨Ao7, co7, eo7⟩ := Kd.R_slice HO_0.out
    subst eo7
    have p5 : 0 ≤ (x5_1 : Int) := odt_
    have q5 : (x5_1 : Int) < ((x0_1.length : Int) : Int) := odt_
    obtain ⟨go5, co5, eo5, gb5, gl5, cl5, HG5⟩ := Kd.R_form HO_0.out (by omega)
    (first | cases eo5 | (injection eo5 with ea_ en_ ec_; (first | subst ea_ | (injection ea_ with ea_; subst ea_)); subst ec_; clear en_))
    have GB5 := Aside0.mk gb5
    have GG5 := Aside0.mk HG5
    clear gb5 gl5 HG5
    have HMgo5 := Aside0.mk (show (P0_ go5 ∨ w.heap.size ≤ go5) from (HO_0.out.1 _ rfl))
    obtain ⟨ce5, hcl5, hM5, hcc5, hfr5⟩ := Kd.R_elem HO_0.out z80 (x5_1 : Int) p5 q5
    obtain rfl := k80_openM hM5
    have hx5_0 : wr.cell? ⟨go5, (x5_1 : Int).toNat * 2, none⟩ = some (.int .i64 ((rd_T80 x0_1 x5_1).f0)) := hcc5 0 _ rfl
    have hx5_1 : wr.cell? ⟨go5, (x5_1 : Int).toNat * 2 + 1, none⟩ = some (.int .i64 ((rd_T80 x0_1 x5_1).f1)) := hcc5 1 _ rfl
    have hf5_0 : wr.frozen? ⟨go5, (x5_1 : Int).toNat * 2, none⟩ = false := hfr5 0
    have hf5_1 : wr.frozen? ⟨go5, (x5_1 : Int).toNat * 2 + 1, none⟩ = false := hfr5 1
    clear hcl5 hcc5 hfr5 hM5
    replace p5 := eq_true p5
    replace q5 := eq_true q5
    have HX8 := Aside0.mk (show Kd.R k80 80 wr w0.heap.size (fun k_ => (P0_ k_ ∨ w.heap.size ≤ k_)) (.slice (some ⟨go5, 0, none⟩) x0_1.length co7) x0_1 from z64_)
    obtain ⟨ce8, hcl8, hM8, hcc8, hfr8⟩ := Kd.R_elem HX8.out z80 (x5_1 : Int) (odt_) (by have h_ : (x5_1 : Int) < ((x0_1.length : Int) : Int) := odt_; first | exact h_ | (have e_ := (Kd.R_reads' HO_0.out).1; omega) | simpa using h_)
    obtain rfl := k80_openM hM8
    have HP8 := Kd.R_seg HX8.out (x5_1 : Int) (odt_) (by have h_ : (x5_1 : Int) < ((x0_1.length : Int) : Int) := odt_; first | exact h_ | (have e_ := (Kd.R_reads' HO_0.out).1; omega) | simpa using h_) (seg := [.int .i64 x1_1]) (j := 0) hcl8 hcc8 (show 1 ≤ 2 from by decide) (x' := (⟨x1_1, (rd_T80 x0_1 x5_1).f1⟩ : S80)) (k80_mkM _ _ _ (⟨x1_1, (rd_T80 x0_1 x5_1).f1⟩ : S80) ) (fun _ hk => hk)
    have hx8_0 := hcc8 0 _ rfl
    (try simp only [show (k80).sz = 2 from rfl, Nat.mul_one, Nat.add_zero] at hx8_0)
    have hf8_0 := hfr8 0
    (try simp only [show (k80).sz = 2 from rfl, Nat.mul_one, Nat.add_zero] at hf8_0)
    clear hcl8 hcc8 hfr8 hM8
    go_wp2_with (first | ((with_reducible refine gate_store (t := 3) (p := 16) rfl ?_); refine store_event (t := 3) (p := 16) (v := ?vo_w9) (w1 := (wr.setCell ⟨go5, (x5_1 : Int).toNat * 2, none⟩ (.int .i64 x1_1))) ?hg ?ho ?hn ?hr ?_; (case ho => rfl); (case hg => rfl); (case hn => rfl); (case hr => exact z12_); intro w9 hw; have hg : wr.grownBy w9 (some go5) := (by rw [hw]; exact HP8.2); have hp_ : Kd.R k80 80 w9 w0.heap.size (fun k_ => (P0_ k_ ∨ w.heap.size ≤ k_)) (.slice (some ⟨go5, 0, none⟩) x0_1.length co7) y437 := (by rw [hw, Ny437.out]; exact HP8.1); clear HP8; replace HB := Aside0.mk ((by rw [hw]; exact below_set (HB.out) GB5.out : Below w0.heap.size w0 w9)); replace HK := Aside0.mk (Kept.of_grown (S := (fun k_ => P0_ k_)) hg z28_ (fun k_ e_ => (HO_0.out.1 k_ e_))); replace HO_0 := Aside0.mk (hp_); clear hg hw hp_; have p6 : 0 ≤ (x5_1 : Int) := odt_; have q6 : (x5_1 : Int) < ((x0_1.length : Int) : Int) := odt_; obtain ⟨ce6, hcl6, hM6, hcc6, hfr6⟩ := Kd.R_elem HO_0.out z80 (x5_1 : Int) p6 q6; obtain rfl := k80_openM hM6; have hx6_0 : w9.cell? ⟨go5, (x5_1 : Int).toNat * 2, none⟩ = some (.int .i64 ((rd_T80 y437 x5_1).f0)) := hcc6 0 _ rfl; have hx6_1 : w9.cell? ⟨go5, (x5_1 : Int).toNat * 2 + 1, none⟩ = some (.int .i64 ((rd_T80 y437 x5_1).f1)) := hcc6 1 _ rfl; have hf6_0 : w9.frozen? ⟨go5, (x5_1 : Int).toNat * 2, none⟩ = false := hfr6 0; have hf6_1 : w9.frozen? ⟨go5, (x5_1 : Int).toNat * 2 + 1, none⟩ = false := hfr6 1; clear hcl6 hcc6 hfr6 hM6; replace p6 := eq_true p6; replace q6 := eq_true q6; have HX10 := Aside0.mk (show Kd.R k80 80 w9 w0.heap.size (fun k_ => (P0_ k_ ∨ w.heap.size ≤ k_)) (.slice (some ⟨go5, 0, none⟩) x0_1.length co7) y437 from z64_); obtain ⟨ce10, hcl10, hM10, hcc10, hfr10⟩ := Kd.R_elem HX10.out z80 (x5_1 : Int) (odt_) (by have h_ : (x5_1 : Int) < ((x0_1.length : Int) : Int) := odt_; first | exact h_ | (have e_ := (Kd.R_reads' HO_0.out).1; omega) | simpa using h_); obtain rfl := k80_openM hM10; have HP10 := Kd.R_seg HX10.out (x5_1 : Int) (odt_) (by have h_ : (x5_1 : Int) < ((x0_1.length : Int) : Int) := odt_; first | exact h_ | (have e_ := (Kd.R_reads' HO_0.out).1; omega) | simpa using h_) (seg := [.int .i64 (wrap64 (x1_1 + 1))]) (j := 1) hcl10 hcc10 (show 2 ≤ 2 from by decide) (x' := (⟨(rd_T80 y437 x5_1).f0, wrap64 (x1_1 + 1)⟩ : S80)) (k80_mkM _ _ _ (⟨(rd_T80 y437 x5_1).f0, wrap64 (x1_1 + 1)⟩ : S80) ) (fun _ hk => hk); have hx10_1 := hcc10 1 _ rfl; (try simp only [show (k80).sz = 2 from rfl, Nat.mul_one, Nat.add_zero] at hx10_1); have hf10_1 := hfr10 1; (try simp only [show (k80).sz = 2 from rfl, Nat.mul_one, Nat.add_zero] at hf10_1); clear hcl10 hcc10 hfr10 hM10) | ((with_reducible refine gate_store (t := 3) (p := 23) rfl ?_); refine store_event (t := 3) (p := 23) (v := ?vo_w11) (w1 := (w9.setCell ⟨go5, (x5_1 : Int).toNat * 2 + 1, none⟩ (.int .i64 (wrap64 (x1_1 + 1))))) ?hg ?ho ?hn ?hr ?_; (case ho => rfl); (case hg => rfl); (case hn => rfl); (case hr => exact z12_); intro w11 hw; have hg : w9.grownBy w11 (some go5) := (by rw [hw]; exact HP10.2); have hp_ : Kd.R k80 80 w11 w0.heap.size (fun k_ => (P0_ k_ ∨ w.heap.size ≤ k_)) (.slice (some ⟨go5, 0, none⟩) x0_1.length co7) y438 := (by rw [hw, Ny438.out]; exact HP10.1); clear HP10; replace HB := Aside0.mk ((by rw [hw]; exact below_set (HB.out) GB5.out : Below w0.heap.size w0 w11)); replace HK := Aside0.mk (Kept.of_grown (S := (fun k_ => P0_ k_)) hg z28_ (fun k_ e_ => (HO_0.out.1 k_ e_))); replace HO_0 := Aside0.mk (hp_); clear hg hw hp_))
    go_roundg k1
    case measure => have := HK1.out; omega
    case rel => exact ⟨(y438), (wrap64 ((wrap64 (x1_1 + 1)) + 1)), (wrap64 (x5_1 + 1)), z7_, z7_, H', ⟨z60_⟩, ⟨z64_⟩, ⟨z28_⟩, ⟨z0_⟩⟩
   ·rw [if_neg c3] at H
    have c3b0 : decide (x5_1 < (x0_1.length : Int)) = false := decide_eq_false c3
    clear c3
    simp only [Option.some.injEq, Prod.mk.injEq] at H
    obtain ⟨rfl, rfl⟩ := H
    obtain ⟨Ao12, co12, eo12⟩ := Kd.R_slice HO_0.out
    subst eo12
    go_wp2
    go_ret
    exact ⟨z4_, z64_, z0_, z28_⟩

/-! ### laws_markIntS: function 56 -/
def laws_markIntS.l0 : Nat → List Int → Int → Int → Option (Int × List Int)
 | 0, _, _, _ => none
 | k + 1, x0, x1, x5 => if x5 < (x0.length : Int) then (if 0 ≤ x5 then (laws_markIntS.l0 k (x0.set (x5 : Int).toNat x1) (wrap64 (x1 + 1)) (wrap64 (x5 + 1))) else (none)) else (some (x1, x0))
def laws_markIntS.f (k : Nat) (l0 : List Int) (a1 : Int) : Option (Int × List Int) := laws_markIntS.l0 k l0 a1 0
theorem laws_markIntS.mono_l : ∀ k, (∀ y0 y1 y2, LeO (laws_markIntS.l0 k y0 y1 y2) (laws_markIntS.l0 (k + 1) y0 y1 y2))
 | 0 => fun _ _ _ r h => by simp [laws_markIntS.l0] at h
 | k + 1 => by
  have ih0 := laws_markIntS.mono_l k
  ·intro y0 y1 y2
   unfold laws_markIntS.l0
   repeat' first | (with_reducible first | exact ih0 _ _ _ | exact LeO.refl _ | exact LeO.none _ | refine LeO.ite ?_ ?_ | refine LeO.bind ?_ (fun _ => ?_)) | exact ih0 _ _ _ | exact LeO.none _ | refine LeO.ite ?_ ?_ | refine LeO.bind ?_ (fun _ => ?_)
theorem laws_markIntS.mono : ∀ a0 a1 k, LeO (laws_markIntS.f k a0 a1) (laws_markIntS.f (k + 1) a0 a1) := by
 intro a0 a1 k
 have ih0 := laws_markIntS.mono_l k
 unfold laws_markIntS.f
 repeat' first | (with_reducible first | exact ih0 _ _ _ | exact LeO.refl _ | exact LeO.none _ | refine LeO.ite ?_ ?_ | refine LeO.bind ?_ (fun _ => ?_)) | exact ih0 _ _ _ | exact LeO.none _ | refine LeO.ite ?_ ?_ | refine LeO.bind ?_ (fun _ => ?_)
set_option maxHeartbeats 8000000 in
set_option maxRecDepth 100000 in
theorem laws_markIntS.calls (k : Nat) (P0_ : Nat → Prop) (u9000_ : Value) (l0 : List Int) (a1 : Int) (r1 : Int) (r2 : List Int) (w0 w : World) (hB : Below w0.heap.size w0 w) (ho0 : Kd.R (Kd.int .i64) 3 w w0.heap.size P0_ u9000_ l0) (h : laws_markIntS.f k l0 a1 = some (r1, r2)) :
  Calls Try.prog 56 #[u9000_, .int .i64 a1] w fun e w' => e = .returned (.int .i64 r1) ∧ Kd.R (Kd.int .i64) 3 w' w0.heap.size (fun k_ => (P0_ k_ ∨ w.heap.size ≤ k_)) u9000_ r2 ∧ Below w0.heap.size w0 w' ∧ Kept w w' (fun k_ => P0_ k_) := by
 have HO0 := Aside0.mk (show Kd.R (Kd.int .i64) 3 w w0.heap.size (fun k_ => (P0_ k_ ∨ w.heap.size ≤ k_)) u9000_ l0 from Kd.R_mono ho0 (fun k_ hk => (.inl hk)))
 have HK := Aside0.mk (Kept.refl w (fun k_ => P0_ k_))
 have HW0 := Aside0.mk hB.size
 have HB := Aside0.mk hB
 clear hB
 have H : (laws_markIntS.l0 k l0 a1 0) = some (r1, r2) := h
 clear h
 have H' := Aside0.mk H
 clear H
 go_enter Try.func56, Try.ntmps56
 go_wp2
 go_loopg [1, 5] k (fun kq v1 v5 w' => ∃ (x0_1 : List Int) (x1_1 : Int) (x5_1 : Int), v1 = .int .i64 x1_1 ∧ v5 = .int .i64 x5_1 ∧ Aside0 (laws_markIntS.l0 kq x0_1 x1_1 x5_1 = some (r1, r2)) ∧ Aside0 (kq ≤ k) ∧ Aside0 (Kd.R (Kd.int .i64) 3 w' w0.heap.size (fun k_ => (P0_ k_ ∨ w.heap.size ≤ k_)) u9000_ x0_1) ∧ Aside0 (Kept w w' (fun k_ => P0_ k_)) ∧ Aside0 (Below w0.heap.size w0 w'))
 case atStart => exact ⟨(l0), (a1), (0), z7_, z7_, H', ⟨Nat.le_refl _⟩, ⟨z140_⟩, ⟨z28_⟩, ⟨z0_⟩⟩
 case round =>
  clear H'
  try clear p2
  obtain ⟨x0_1, x1_1, x5_1, rfl, rfl, HA, HK1, HO_0, HK, HB⟩ := hrel
  cases gk with
  | zero => exact absurd HA.out (by simp [laws_markIntS.l0])
  | succ k1 =>
   have H := HA.out
   clear HA
   simp only [laws_markIntS.l0] at H
   by_cases c3 : x5_1 < (x0_1.length : Int)
   ·rw [if_pos c3] at H
    have c3b0 : decide (x5_1 < (x0_1.length : Int)) = true := decide_eq_true c3
    clear c3
    obtain ⟨c4b0, H⟩ := ifd_ H
    obtain ⟨y439, hy439⟩ : ∃ y_ : List Int, y_ = (x0_1.set (x5_1 : Int).toNat x1_1) := ⟨_, rfl⟩
    replace H : (laws_markIntS.l0 k1 y439 (wrap64 (x1_1 + 1)) (wrap64 (x5_1 + 1))) = some (r1, r2) := by first | (rw [hy439]; with_reducible exact H) | (have H2_ := (Option.bind_some _ _).symm.trans H; rw [hy439]; with_reducible exact H2_) | (have H2_ := (Option.bind_some _ _).symm.trans H; with_reducible exact H2_) | with_reducible exact H | (rw [hy439]; exact H) | exact H
    have Ny439 := Aside0.mk hy439
    clear hy439
    have H' := Aside0.mk H
    clear H
    obtain ⟨Ao6, co6, eo6⟩ := Kd.R_slice HO_0.out
    subst eo6
    have p5 : 0 ≤ (x5_1 : Int) := odt_
    have q5 : (x5_1 : Int) < ((x0_1.length : Int) : Int) := odt_
    obtain ⟨go5, co5, eo5, gb5, gl5, cl5, HG5⟩ := Kd.R_form HO_0.out (by omega)
    (first | cases eo5 | (injection eo5 with ea_ en_ ec_; (first | subst ea_ | (injection ea_ with ea_; subst ea_)); subst ec_; clear en_))
    have GB5 := Aside0.mk gb5
    have GG5 := Aside0.mk HG5
    clear gb5 gl5 HG5
    have HMgo5 := Aside0.mk (show (P0_ go5 ∨ w.heap.size ≤ go5) from (HO_0.out.1 _ rfl))
    obtain ⟨hx5_0, hf5_0⟩ := Kd.R_celln 0 HO_0.out (x5_1 : Int) p5 q5
    replace p5 := eq_true p5
    replace q5 := eq_true q5
    have HP7 := Kd.R_putg HO_0.out (x5_1 : Int) x1_1
    go_wp2_with (first | ((with_reducible refine gate_store (t := 3) (p := 15) rfl ?_); refine store_event (t := 3) (p := 15) (v := ?vo_w8) (w1 := (wr.setCell ⟨go5, (x5_1 : Int).toNat, none⟩ (.int .i64 x1_1))) ?hg ?ho ?hn ?hr ?_; (case ho => rfl); (case hg => rfl); (case hn => rfl); (case hr => exact z12_); intro w8 hw; have hg : wr.grownBy w8 (some go5) := (by rw [hw]; exact HP7.2); have hp_ : Kd.R (Kd.int .i64) 3 w8 w0.heap.size (fun k_ => (P0_ k_ ∨ w.heap.size ≤ k_)) (.slice (some ⟨go5, 0, none⟩) x0_1.length co6) y439 := (by rw [hw, Ny439.out]; exact HP7.1); clear HP7; replace HB := Aside0.mk ((by rw [hw]; exact below_set (HB.out) GB5.out : Below w0.heap.size w0 w8)); replace HK := Aside0.mk (Kept.of_grown (S := (fun k_ => P0_ k_)) hg z28_ (fun k_ e_ => (HO_0.out.1 k_ e_))); replace HO_0 := Aside0.mk (hp_); clear hg hw hp_))
    go_roundg k1
    case measure => have := HK1.out; omega
    case rel => exact ⟨(y439), (wrap64 (x1_1 + 1)), (wrap64 (x5_1 + 1)), z7_, z7_, H', ⟨z60_⟩, ⟨z64_⟩, ⟨z28_⟩, ⟨z0_⟩⟩
   ·rw [if_neg c3] at H
    have c3b0 : decide (x5_1 < (x0_1.length : Int)) = false := decide_eq_false c3
    clear c3
    simp only [Option.some.injEq, Prod.mk.injEq] at H
    obtain ⟨rfl, rfl⟩ := H
    obtain ⟨Ao9, co9, eo9⟩ := Kd.R_slice HO_0.out
    subst eo9
    go_wp2
    go_ret
    exact ⟨z4_, z64_, z0_, z28_⟩

/-! ### laws_markOpS: function 18 -/
def laws_markOpS.l0 : Nat → List (S78) → Int → Int → Option (Int × List (S78))
 | 0, _, _, _ => none
 | k + 1, x0, x1, x5 => if x5 < (x0.length : Int) then (if 0 ≤ x5 then ((laws_markIntS.f k ((rd_T78 x0 x5).f1) (wrap64 (x1 + 1))).bind fun bt => (laws_markOpS.l0 k (x0.set (x5 : Int).toNat (⟨x1, bt.2, bt.1, wrap64 (bt.1 + 1), wrap64 (wrap64 (bt.1 + 1) + 1)⟩ : S78)) (wrap64 (wrap64 (wrap64 (bt.1 + 1) + 1) + 1)) (wrap64 (x5 + 1)))) else (none)) else (some (x1, x0))
def laws_markOpS.f (k : Nat) (l0 : List (S78)) (a1 : Int) : Option (Int × List (S78)) := laws_markOpS.l0 k l0 a1 0
set_option maxHeartbeats 8000000 in
set_option maxRecDepth 100000 in
theorem laws_markOpS.calls (k : Nat) (P0_ : Nat → Prop) (u9000_ : Value) (l0 : List (S78)) (a1 : Int) (r1 : Int) (r2 : List (S78)) (w0 w : World) (hB : Below w0.heap.size w0 w) (ho0 : Kd.S k78 78 w w0.heap.size P0_ u9000_ l0) (h : laws_markOpS.f k l0 a1 = some (r1, r2)) :
  Calls Try.prog 18 #[u9000_, .int .i64 a1] w fun e w' => e = .returned (.int .i64 r1) ∧ Kd.S k78 78 w' w0.heap.size (fun k_ => (P0_ k_ ∨ w.heap.size ≤ k_)) u9000_ r2 ∧ Below w0.heap.size w0 w' ∧ Kept w w' (fun k_ => P0_ k_) := by
 have HO0 := Aside0.mk (show Kd.S k78 78 w w0.heap.size (fun k_ => (P0_ k_ ∨ w.heap.size ≤ k_)) u9000_ l0 from Kd.S_mono ho0 (fun k_ hk => (.inl hk)))
 have HK := Aside0.mk (Kept.refl w (fun k_ => P0_ k_))
 have HW0 := Aside0.mk hB.size
 have HB := Aside0.mk hB
 clear hB
 have H : (laws_markOpS.l0 k l0 a1 0) = some (r1, r2) := h
 clear h
 have H' := Aside0.mk H
 clear H
 go_enter Try.func18, Try.ntmps18
 go_wp2
 go_loopg [1, 5] k (fun kq v1 v5 w' => ∃ (x0_1 : List (S78)) (x1_1 : Int) (x5_1 : Int), v1 = .int .i64 x1_1 ∧ v5 = .int .i64 x5_1 ∧ Aside0 (laws_markOpS.l0 kq x0_1 x1_1 x5_1 = some (r1, r2)) ∧ Aside0 (kq ≤ k) ∧ Aside0 (Kd.S k78 78 w' w0.heap.size (fun k_ => (P0_ k_ ∨ w.heap.size ≤ k_)) u9000_ x0_1) ∧ Aside0 (Kept w w' (fun k_ => P0_ k_)) ∧ Aside0 (Below w0.heap.size w0 w'))
 case atStart => exact ⟨(l0), (a1), (0), z7_, z7_, H', ⟨Nat.le_refl _⟩, ⟨by (with_reducible repeat (first | apply Kd.S_alloc | apply Kd.S_drewN | apply Kd.S_drew)); exact HO0.out⟩, ⟨z28_⟩, ⟨z0_⟩⟩
 case round =>
  clear H'
  obtain ⟨x0_1, x1_1, x5_1, rfl, rfl, HA, HK1, HO_0, HK, HB⟩ := hrel
  cases gk with
  | zero => exact absurd HA.out (by simp [laws_markOpS.l0])
  | succ k1 =>
   have H := HA.out
   clear HA
   simp only [laws_markOpS.l0] at H
   by_cases c3 : x5_1 < (x0_1.length : Int)
   ·rw [if_pos c3] at H
    have c3b0 : decide (x5_1 < (x0_1.length : Int)) = true := decide_eq_true c3
    obtain ⟨c4, H⟩ := ifs_ H
    have c4b0 : decide (0 ≤ x5_1) = true := decide_eq_true c4
    replace H := Option.bind_eq_some_iff.mp H
    obtain ⟨⟨t1, t2⟩, A80, H⟩ := H
    have A8 := Aside0.mk A80
    clear A80
    have H' := Aside0.mk (show laws_markOpS.l0 k1 (x0_1.set (x5_1 : Int).toNat (⟨x1_1, t2, t1, wrap64 (t1 + 1), wrap64 (wrap64 (t1 + 1) + 1)⟩ : S78)) (wrap64 (wrap64 (wrap64 (t1 + 1) + 1) + 1)) (wrap64 (x5_1 + 1)) = some (r1, r2) from H)
    clear H
    obtain ⟨Ao6, co6, eo6⟩ := Kd.S_slice HO_0.out
    subst eo6
    obtain ⟨go5, co5, eo5, gb5, gl5, cl5, HG5⟩ := Kd.S_form HO_0.out (by omega)
    (first | cases eo5 | (injection eo5 with ea_ en_ ec_; (first | subst ea_ | (injection ea_ with ea_; subst ea_)); subst ec_; clear en_))
    have GB5 := Aside0.mk gb5
    have HMgo5 := Aside0.mk (show (P0_ go5 ∨ w.heap.size ≤ go5) from ((Kd.S_R HO_0.out).1 _ rfl))
    have GL5 := Aside0.mk gl5
    clear gb5 gl5 HG5
    have p6 := Aside0.mk c4
    have q6 := Aside0.mk c3
    obtain ⟨oki, cs_, hcl, hM, hcc, hoki, hh⟩ := Kd.S_lend HO_0.out z78 x5_1 c4 c3
    obtain ⟨vi, rfl, hR1⟩ := k78_openM hM
    obtain ⟨Ai, ci, ei⟩ := Kd.R_slice hR1
    subst ei
    have HH := Aside0.mk (show Kd.H k78 78 wr w0.heap.size (fun k_ => (P0_ k_ ∨ w.heap.size ≤ k_)) (.slice (some ⟨go5, 0, none⟩) x0_1.length co6) x0_1 x5_1 oki [.int .i64 (rd_T78 x0_1 x5_1).f0, .slice Ai (rd_T78 x0_1 x5_1).f1.length ci, .int .i64 (rd_T78 x0_1 x5_1).f2, .int .i64 (rd_T78 x0_1 x5_1).f3, .int .i64 (rd_T78 x0_1 x5_1).f4] from hh)
    have HR := Aside0.mk (show Kd.R (Kd.int .i64) 3 wr w0.heap.size oki (.slice Ai (rd_T78 x0_1 x5_1).f1.length ci) (rd_T78 x0_1 x5_1).f1 from hR1)
    have HOK := Aside0.mk hoki
    clear hh hR1 hoki hcl hM hcc
    have ha_ := Kd.H_at HH.out p6.out q6.out; have hxwr_0 := ha_.1 0 _ rfl; have hfwr_0 := ha_.2 0; (try simp only [show (k78).sz = 5 from rfl, Nat.mul_one, Nat.add_zero] at hxwr_0 hfwr_0); have hxwr_1 := ha_.1 1 _ rfl; have hfwr_1 := ha_.2 1; (try simp only [show (k78).sz = 5 from rfl, Nat.mul_one, Nat.add_zero] at hxwr_1 hfwr_1); have hxwr_2 := ha_.1 2 _ rfl; have hfwr_2 := ha_.2 2; (try simp only [show (k78).sz = 5 from rfl, Nat.mul_one, Nat.add_zero] at hxwr_2 hfwr_2); have hxwr_3 := ha_.1 3 _ rfl; have hfwr_3 := ha_.2 3; (try simp only [show (k78).sz = 5 from rfl, Nat.mul_one, Nat.add_zero] at hxwr_3 hfwr_3); have hxwr_4 := ha_.1 4 _ rfl; have hfwr_4 := ha_.2 4; (try simp only [show (k78).sz = 5 from rfl, Nat.mul_one, Nat.add_zero] at hxwr_4 hfwr_4); clear ha_;
    replace c3 := eq_true c3
    replace c4 := eq_true c4
    go_wp2_with (first | ((with_reducible refine gate_store (t := 3) (p := 16) rfl ?_); refine store_event (t := 3) (p := 16) (v := ?vo0) (w1 := (wr.setCell ⟨go5, (x5_1 : Int).toNat * 5, none⟩ (.int .i64 (x1_1)))) ?hg ?ho ?hn ?hr ?_; (case ho => rfl); (case hg => rfl); (case hn => rfl); (case hr => exact z12_); intro w8 hw; have hs_ := Kd.H_seg HH.out p6.out q6.out (seg := [.int .i64 (x1_1)]) (j := 0) (show 0 + 1 ≤ 5 from by decide) z124_; have hg : wr.grownBy w8 (some go5) := (by rw [hw]; exact hs_.2); have hh_ : Kd.H k78 78 w8 w0.heap.size (fun k_ => (P0_ k_ ∨ w.heap.size ≤ k_)) (.slice (some ⟨go5, 0, none⟩) x0_1.length co6) x0_1 x5_1 oki [.int .i64 x1_1, .slice Ai (rd_T78 x0_1 x5_1).f1.length ci, .int .i64 (rd_T78 x0_1 x5_1).f2, .int .i64 (rd_T78 x0_1 x5_1).f3, .int .i64 (rd_T78 x0_1 x5_1).f4] := (by rw [hw]; exact hs_.1); clear hs_; replace HH := Aside0.mk hh_; replace HR := Aside0.mk (Kd.R_grown HR.out hg (fun k_ h_ e_ => (HOK.out k_ h_).2 (by injection e_))); replace HB := Aside0.mk ((by rw [hw]; exact below_set (HB.out) GB5.out : Below w0.heap.size w0 w8)); replace HK := Aside0.mk (Kept.of_grown (S := (fun k_ => P0_ k_)) hg HK.out (fun k_ e_ => by injection e_ with e_; subst e_; exact HMgo5.out)); have GL8 := Aside0.mk (Nat.lt_of_lt_of_le GL5.out hg.size : go5 < w8.heap.size); have HW8 := Aside0.mk HK.out.1; have ha_ := Kd.H_at HH.out p6.out q6.out; have hxw8_0 := ha_.1 0 _ rfl; have hfw8_0 := ha_.2 0; (try simp only [show (k78).sz = 5 from rfl, Nat.mul_one, Nat.add_zero] at hxw8_0 hfw8_0); have hxw8_1 := ha_.1 1 _ rfl; have hfw8_1 := ha_.2 1; (try simp only [show (k78).sz = 5 from rfl, Nat.mul_one, Nat.add_zero] at hxw8_1 hfw8_1); have hxw8_2 := ha_.1 2 _ rfl; have hfw8_2 := ha_.2 2; (try simp only [show (k78).sz = 5 from rfl, Nat.mul_one, Nat.add_zero] at hxw8_2 hfw8_2); have hxw8_3 := ha_.1 3 _ rfl; have hfw8_3 := ha_.2 3; (try simp only [show (k78).sz = 5 from rfl, Nat.mul_one, Nat.add_zero] at hxw8_3 hfw8_3); have hxw8_4 := ha_.1 4 _ rfl; have hfw8_4 := ha_.2 4; (try simp only [show (k78).sz = 5 from rfl, Nat.mul_one, Nat.add_zero] at hxw8_4 hfw8_4); clear ha_; clear hg hw hh_) | ((with_reducible refine gate_callee (f := 56) rfl ?_); refine goesL_ (some 25) rfl rfl Try.func56 (by kernel_rfl) rfl #[.slice Ai (rd_T78 x0_1 x5_1).f1.length ci, .int .i64 (wrap64 (x1_1 + 1))] rfl (by first | rfl | (go_simp; done) | (go_simp; rfl)) ?_; (with_reducible refine (laws_markIntS.calls k1 oki _ (rd_T78 x0_1 x5_1).f1 (wrap64 (x1_1 + 1)) t1 t2 w0 _ HB.out HR.out A8.out).mono ?_); rintro e w9 ⟨rfl, ho0, hb, hk⟩; refine ⟨_, rfl, ?_⟩; replace HH := Aside0.mk (Kd.H_kept (Kd.H_widen HH.out) hk (fun k_ _ hn_ h_ => hn_ (.inl h_))); replace HR := Aside0.mk ho0; replace HK := Aside0.mk (Kept.then_ HK.out hk (fun k_ h_ => (HOK.out k_ h_).1)); replace HB := Aside0.mk hb; clear ho0 hb hk; have ha_ := Kd.H_at HH.out p6.out q6.out; have hxw9_0 := ha_.1 0 _ rfl; have hfw9_0 := ha_.2 0; (try simp only [show (k78).sz = 5 from rfl, Nat.mul_one, Nat.add_zero] at hxw9_0 hfw9_0); have hxw9_1 := ha_.1 1 _ rfl; have hfw9_1 := ha_.2 1; (try simp only [show (k78).sz = 5 from rfl, Nat.mul_one, Nat.add_zero] at hxw9_1 hfw9_1); have hxw9_2 := ha_.1 2 _ rfl; have hfw9_2 := ha_.2 2; (try simp only [show (k78).sz = 5 from rfl, Nat.mul_one, Nat.add_zero] at hxw9_2 hfw9_2); have hxw9_3 := ha_.1 3 _ rfl; have hfw9_3 := ha_.2 3; (try simp only [show (k78).sz = 5 from rfl, Nat.mul_one, Nat.add_zero] at hxw9_3 hfw9_3); have hxw9_4 := ha_.1 4 _ rfl; have hfw9_4 := ha_.2 4; (try simp only [show (k78).sz = 5 from rfl, Nat.mul_one, Nat.add_zero] at hxw9_4 hfw9_4); clear ha_;) | ((with_reducible refine gate_store (t := 3) (p := 30) rfl ?_); refine store_event (t := 3) (p := 30) (v := ?vo2) (w1 := (w9.setCell ⟨go5, (x5_1 : Int).toNat * 5 + 2, none⟩ (.int .i64 (t1)))) ?hg ?ho ?hn ?hr ?_; (case ho => rfl); (case hg => rfl); (case hn => rfl); (case hr => exact z12_); intro w10 hw; have hs_ := Kd.H_seg HH.out p6.out q6.out (seg := [.int .i64 (t1)]) (j := 2) (show 2 + 1 ≤ 5 from by decide) z124_; have hg : w9.grownBy w10 (some go5) := (by rw [hw]; exact hs_.2); have hh_ : Kd.H k78 78 w10 w0.heap.size (fun k_ => (P0_ k_ ∨ w.heap.size ≤ k_)) (.slice (some ⟨go5, 0, none⟩) x0_1.length co6) x0_1 x5_1 (fun k_ => oki k_ ∨ (P0_ k_ ∨ w.heap.size ≤ k_) ∧ w8.heap.size ≤ k_) [.int .i64 x1_1, .slice Ai (rd_T78 x0_1 x5_1).f1.length ci, .int .i64 t1, .int .i64 (rd_T78 x0_1 x5_1).f3, .int .i64 (rd_T78 x0_1 x5_1).f4] := (by rw [hw]; exact hs_.1); clear hs_; replace HH := Aside0.mk hh_; replace HR := Aside0.mk (Kd.R_grown HR.out hg (fun k_ h_ e_ => h_.elim (fun h2_ => (HOK.out k_ h2_).2 (by injection e_)) (fun h2_ => by injection e_ with e_; have := GL8.out; omega))); replace HB := Aside0.mk ((by rw [hw]; exact below_set (HB.out) GB5.out : Below w0.heap.size w0 w10)); replace HK := Aside0.mk (Kept.of_grown (S := (fun k_ => P0_ k_)) hg HK.out (fun k_ e_ => by injection e_ with e_; subst e_; exact HMgo5.out)); have ha_ := Kd.H_at HH.out p6.out q6.out; have hxw10_0 := ha_.1 0 _ rfl; have hfw10_0 := ha_.2 0; (try simp only [show (k78).sz = 5 from rfl, Nat.mul_one, Nat.add_zero] at hxw10_0 hfw10_0); have hxw10_1 := ha_.1 1 _ rfl; have hfw10_1 := ha_.2 1; (try simp only [show (k78).sz = 5 from rfl, Nat.mul_one, Nat.add_zero] at hxw10_1 hfw10_1); have hxw10_2 := ha_.1 2 _ rfl; have hfw10_2 := ha_.2 2; (try simp only [show (k78).sz = 5 from rfl, Nat.mul_one, Nat.add_zero] at hxw10_2 hfw10_2); have hxw10_3 := ha_.1 3 _ rfl; have hfw10_3 := ha_.2 3; (try simp only [show (k78).sz = 5 from rfl, Nat.mul_one, Nat.add_zero] at hxw10_3 hfw10_3); have hxw10_4 := ha_.1 4 _ rfl; have hfw10_4 := ha_.2 4; (try simp only [show (k78).sz = 5 from rfl, Nat.mul_one, Nat.add_zero] at hxw10_4 hfw10_4); clear ha_; clear hg hw hh_) | ((with_reducible refine gate_store (t := 3) (p := 37) rfl ?_); refine store_event (t := 3) (p := 37) (v := ?vo3) (w1 := (w10.setCell ⟨go5, (x5_1 : Int).toNat * 5 + 3, none⟩ (.int .i64 (wrap64 (t1 + 1))))) ?hg ?ho ?hn ?hr ?_; (case ho => rfl); (case hg => rfl); (case hn => rfl); (case hr => exact z12_); intro w11 hw; have hs_ := Kd.H_seg HH.out p6.out q6.out (seg := [.int .i64 (wrap64 (t1 + 1))]) (j := 3) (show 3 + 1 ≤ 5 from by decide) z124_; have hg : w10.grownBy w11 (some go5) := (by rw [hw]; exact hs_.2); have hh_ : Kd.H k78 78 w11 w0.heap.size (fun k_ => (P0_ k_ ∨ w.heap.size ≤ k_)) (.slice (some ⟨go5, 0, none⟩) x0_1.length co6) x0_1 x5_1 (fun k_ => oki k_ ∨ (P0_ k_ ∨ w.heap.size ≤ k_) ∧ w8.heap.size ≤ k_) [.int .i64 x1_1, .slice Ai (rd_T78 x0_1 x5_1).f1.length ci, .int .i64 t1, .int .i64 (wrap64 (t1 + 1)), .int .i64 (rd_T78 x0_1 x5_1).f4] := (by rw [hw]; exact hs_.1); clear hs_; replace HH := Aside0.mk hh_; replace HR := Aside0.mk (Kd.R_grown HR.out hg (fun k_ h_ e_ => h_.elim (fun h2_ => (HOK.out k_ h2_).2 (by injection e_)) (fun h2_ => by injection e_ with e_; have := GL8.out; omega))); replace HB := Aside0.mk ((by rw [hw]; exact below_set (HB.out) GB5.out : Below w0.heap.size w0 w11)); replace HK := Aside0.mk (Kept.of_grown (S := (fun k_ => P0_ k_)) hg HK.out (fun k_ e_ => by injection e_ with e_; subst e_; exact HMgo5.out)); have ha_ := Kd.H_at HH.out p6.out q6.out; have hxw11_0 := ha_.1 0 _ rfl; have hfw11_0 := ha_.2 0; (try simp only [show (k78).sz = 5 from rfl, Nat.mul_one, Nat.add_zero] at hxw11_0 hfw11_0); have hxw11_1 := ha_.1 1 _ rfl; have hfw11_1 := ha_.2 1; (try simp only [show (k78).sz = 5 from rfl, Nat.mul_one, Nat.add_zero] at hxw11_1 hfw11_1); have hxw11_2 := ha_.1 2 _ rfl; have hfw11_2 := ha_.2 2; (try simp only [show (k78).sz = 5 from rfl, Nat.mul_one, Nat.add_zero] at hxw11_2 hfw11_2); have hxw11_3 := ha_.1 3 _ rfl; have hfw11_3 := ha_.2 3; (try simp only [show (k78).sz = 5 from rfl, Nat.mul_one, Nat.add_zero] at hxw11_3 hfw11_3); have hxw11_4 := ha_.1 4 _ rfl; have hfw11_4 := ha_.2 4; (try simp only [show (k78).sz = 5 from rfl, Nat.mul_one, Nat.add_zero] at hxw11_4 hfw11_4); clear ha_; clear hg hw hh_) | ((with_reducible refine gate_store (t := 3) (p := 44) rfl ?_); refine store_event (t := 3) (p := 44) (v := ?vo4) (w1 := (w11.setCell ⟨go5, (x5_1 : Int).toNat * 5 + 4, none⟩ (.int .i64 (wrap64 (wrap64 (t1 + 1) + 1))))) ?hg ?ho ?hn ?hr ?_; (case ho => rfl); (case hg => rfl); (case hn => rfl); (case hr => exact z12_); intro w12 hw; have hs_ := Kd.H_seg HH.out p6.out q6.out (seg := [.int .i64 (wrap64 (wrap64 (t1 + 1) + 1))]) (j := 4) (show 4 + 1 ≤ 5 from by decide) z124_; have hg : w11.grownBy w12 (some go5) := (by rw [hw]; exact hs_.2); have hh_ : Kd.H k78 78 w12 w0.heap.size (fun k_ => (P0_ k_ ∨ w.heap.size ≤ k_)) (.slice (some ⟨go5, 0, none⟩) x0_1.length co6) x0_1 x5_1 (fun k_ => oki k_ ∨ (P0_ k_ ∨ w.heap.size ≤ k_) ∧ w8.heap.size ≤ k_) [.int .i64 x1_1, .slice Ai (rd_T78 x0_1 x5_1).f1.length ci, .int .i64 t1, .int .i64 (wrap64 (t1 + 1)), .int .i64 (wrap64 (wrap64 (t1 + 1) + 1))] := (by rw [hw]; exact hs_.1); clear hs_; replace HH := Aside0.mk hh_; replace HR := Aside0.mk (Kd.R_grown HR.out hg (fun k_ h_ e_ => h_.elim (fun h2_ => (HOK.out k_ h2_).2 (by injection e_)) (fun h2_ => by injection e_ with e_; have := GL8.out; omega))); replace HB := Aside0.mk ((by rw [hw]; exact below_set (HB.out) GB5.out : Below w0.heap.size w0 w12)); replace HK := Aside0.mk (Kept.of_grown (S := (fun k_ => P0_ k_)) hg HK.out (fun k_ e_ => by injection e_ with e_; subst e_; exact HMgo5.out)); have ha_ := Kd.H_at HH.out p6.out q6.out; have hxw12_0 := ha_.1 0 _ rfl; have hfw12_0 := ha_.2 0; (try simp only [show (k78).sz = 5 from rfl, Nat.mul_one, Nat.add_zero] at hxw12_0 hfw12_0); have hxw12_1 := ha_.1 1 _ rfl; have hfw12_1 := ha_.2 1; (try simp only [show (k78).sz = 5 from rfl, Nat.mul_one, Nat.add_zero] at hxw12_1 hfw12_1); have hxw12_2 := ha_.1 2 _ rfl; have hfw12_2 := ha_.2 2; (try simp only [show (k78).sz = 5 from rfl, Nat.mul_one, Nat.add_zero] at hxw12_2 hfw12_2); have hxw12_3 := ha_.1 3 _ rfl; have hfw12_3 := ha_.2 3; (try simp only [show (k78).sz = 5 from rfl, Nat.mul_one, Nat.add_zero] at hxw12_3 hfw12_3); have hxw12_4 := ha_.1 4 _ rfl; have hfw12_4 := ha_.2 4; (try simp only [show (k78).sz = 5 from rfl, Nat.mul_one, Nat.add_zero] at hxw12_4 hfw12_4); clear ha_; clear hg hw hh_))
    have HO_1 := Aside0.mk (Kd.H_back HH.out (k78_mkM _ _ _ (⟨x1_1, t2, t1, wrap64 (t1 + 1), wrap64 (wrap64 (t1 + 1) + 1)⟩ : S78) HR.out) (fun k_ h_ => h_.elim .inl (fun h2_ => .inr ⟨.inr (Nat.le_trans HW8.out h2_), h2_⟩)))
    clear HO_0
    have HO_0 := HO_1
    go_roundg k1
    case measure => have := HK1.out; omega
    case rel => exact ⟨_, (wrap64 (wrap64 (wrap64 (t1 + 1) + 1) + 1)), (wrap64 (x5_1 + 1)), z7_, z7_, H', ⟨z60_⟩, ⟨z137_⟩, ⟨z28_⟩, ⟨z0_⟩⟩
   ·rw [if_neg c3] at H
    have c3b0 : decide (x5_1 < (x0_1.length : Int)) = false := decide_eq_false c3
    clear c3
    simp only [Option.some.injEq, Prod.mk.injEq] at H
    obtain ⟨rfl, rfl⟩ := H
    obtain ⟨Ao12, co12, eo12⟩ := Kd.S_slice HO_0.out
    subst eo12
    go_wp2
    go_ret
    exact ⟨z4_, z137_, z0_, z28_⟩

/-! ### laws_heldIntS: function 57 -/
def laws_heldIntS.l0 : Nat → List Int → Int → Int → Option (Int)
 | 0, _, _, _ => none
 | k + 1, x0, x1, x5 => if x5 < (x0.length : Int) then (if 0 ≤ x5 then (if (rd x0 x5) = x1 then (laws_heldIntS.l0 k x0 (wrap64 (x1 + 1)) (wrap64 (x5 + 1))) else (some (-1))) else (none)) else (some x1)
def laws_heldIntS.f (k : Nat) (l0 : List Int) (a1 : Int) : Option (Int) := laws_heldIntS.l0 k l0 a1 0
theorem laws_heldIntS.mono_l : ∀ k, (∀ y0 y1 y2, LeO (laws_heldIntS.l0 k y0 y1 y2) (laws_heldIntS.l0 (k + 1) y0 y1 y2))
 | 0 => fun _ _ _ r h => by simp [laws_heldIntS.l0] at h
 | k + 1 => by
  have ih0 := laws_heldIntS.mono_l k
  ·intro y0 y1 y2
   unfold laws_heldIntS.l0
   repeat' first | (with_reducible first | exact ih0 _ _ _ | exact LeO.refl _ | exact LeO.none _ | refine LeO.ite ?_ ?_ | refine LeO.bind ?_ (fun _ => ?_)) | exact ih0 _ _ _ | exact LeO.none _ | refine LeO.ite ?_ ?_ | refine LeO.bind ?_ (fun _ => ?_)
theorem laws_heldIntS.mono : ∀ a0 a1 k, LeO (laws_heldIntS.f k a0 a1) (laws_heldIntS.f (k + 1) a0 a1) := by
 intro a0 a1 k
 have ih0 := laws_heldIntS.mono_l k
 unfold laws_heldIntS.f
 repeat' first | (with_reducible first | exact ih0 _ _ _ | exact LeO.refl _ | exact LeO.none _ | refine LeO.ite ?_ ?_ | refine LeO.bind ?_ (fun _ => ?_)) | exact ih0 _ _ _ | exact LeO.none _ | refine LeO.ite ?_ ?_ | refine LeO.bind ?_ (fun _ => ?_)
set_option maxHeartbeats 8000000 in
set_option maxRecDepth 100000 in
theorem laws_heldIntS.calls (k : Nat) (A0 : Option Addr) (c0 : Nat) (l0 : List Int) (a1 : Int) (r : Int) (w : World) (hr0 : Kd.C (Kd.int .i64) w A0 l0.length l0) (hc0 : l0.length ≤ c0) (h : laws_heldIntS.f k l0 a1 = some r) :
  Calls Try.prog 57 #[.slice A0 l0.length c0, .int .i64 a1] w fun e w' => e = .returned (.int .i64 r) ∧ Drawn0 w w' := by
 have HR0 := Aside0.mk hr0
 have HC0 := Aside0.mk hc0
 clear hr0 hc0
 have H : (laws_heldIntS.l0 k l0 a1 0) = some r := h
 clear h
 have H' := Aside0.mk H
 clear H
 go_enter Try.func57, Try.ntmps57
 go_wp2
 go_loopg [1, 5] k (fun kq v1 v5 w' => ∃ (x1_1 : Int) (x5_1 : Int), v1 = .int .i64 x1_1 ∧ v5 = .int .i64 x5_1 ∧ Aside0 (laws_heldIntS.l0 kq l0 x1_1 x5_1 = some r) ∧ Aside0 (kq ≤ k) ∧ Drawn0 w w')
 case atStart => exact ⟨(a1), (0), z7_, z7_, H', ⟨Nat.le_refl _⟩, z19_⟩
 case round =>
  clear H'
  try clear p2
  obtain ⟨x1_1, x5_1, rfl, rfl, HA, HK1, ⟨m1, rfl⟩⟩ := hrel
  cases gk with
  | zero => exact absurd HA.out (by simp [laws_heldIntS.l0])
  | succ k1 =>
   have H := HA.out
   clear HA
   simp only [laws_heldIntS.l0] at H
   by_cases c3 : x5_1 < (l0.length : Int)
   ·rw [if_pos c3] at H
    have c3b0 : decide (x5_1 < (l0.length : Int)) = true := decide_eq_true c3
    clear c3
    obtain ⟨c4b0, H⟩ := ifd_ H
    by_cases c5 : (rd l0 x5_1) = x1_1
    ·rw [if_pos c5] at H
     have c5b0 : ((rd l0 x5_1) == x1_1) = true := beq_iff_eq.mpr c5
     have c5b1 : ((rd l0 x5_1) != x1_1) = false := bne_eq_false_iff_eq.mpr c5
     clear c5
     have H' := Aside0.mk H
     clear H
     have p440 : 0 ≤ (x5_1 : Int) := odt_
     have q440 : x5_1 < (l0.length : Int) := odt_
     obtain ⟨ad440, e440, hx440_0⟩ := Kd.at_int HR0.out x5_1 p440 q440
     cases e440
     replace p440 := eq_true p440
     replace q440 := eq_true q440
     go_wp2
     go_roundg k1
     case measure => have := HK1.out; omega
     case rel => exact ⟨(wrap64 (x1_1 + 1)), (wrap64 (x5_1 + 1)), z7_, z7_, H', ⟨z60_⟩, z19_⟩
    ·rw [if_neg c5] at H
     have c5b0 : ((rd l0 x5_1) == x1_1) = false := beq_eq_false_iff_ne.mpr c5
     have c5b1 : ((rd l0 x5_1) != x1_1) = true := bne_iff_ne.mpr c5
     obtain rfl := Option.some.inj H
     have p440 : 0 ≤ (x5_1 : Int) := odt_
     have q440 : x5_1 < (l0.length : Int) := odt_
     obtain ⟨ad440, e440, hx440_0⟩ := Kd.at_int HR0.out x5_1 p440 q440
     cases e440
     replace p440 := eq_true p440
     replace q440 := eq_true q440
     go_wp2
     go_ret
     exact ⟨z7_, z19_⟩
   ·rw [if_neg c3] at H
    have c3b0 : decide (x5_1 < (l0.length : Int)) = false := decide_eq_false c3
    clear c3
    obtain rfl := Option.some.inj H
    go_wp2
    go_ret
    exact ⟨z7_, z19_⟩

/-! ### laws_heldOpS: function 19 -/
def laws_heldOpS.l0 : Nat → List (S78) → Int → Int → Option (Int)
 | 0, _, _, _ => none
 | k + 1, x0, x1, x5 => if x5 < (x0.length : Int) then (if 0 ≤ x5 then (if ((rd_T78 x0 x5).f0) = x1 then ((laws_heldIntS.f k ((rd_T78 x0 x5).f1) (wrap64 (x1 + 1))).bind fun t443 => (if t443 < 0 then (some (-1)) else (if ((rd_T78 x0 x5).f2) = t443 then (if ((rd_T78 x0 x5).f3) = (wrap64 (t443 + 1)) then (if ((rd_T78 x0 x5).f4) = (wrap64 ((wrap64 (t443 + 1)) + 1)) then (laws_heldOpS.l0 k x0 (wrap64 ((wrap64 ((wrap64 (t443 + 1)) + 1)) + 1)) (wrap64 (x5 + 1))) else (some (-1))) else (some (-1))) else (some (-1))))) else (some (-1))) else (none)) else (some x1)
def laws_heldOpS.f (k : Nat) (l0 : List (S78)) (a1 : Int) : Option (Int) := laws_heldOpS.l0 k l0 a1 0
theorem laws_heldOpS.mono_l : ∀ k, (∀ y0 y1 y2, LeO (laws_heldOpS.l0 k y0 y1 y2) (laws_heldOpS.l0 (k + 1) y0 y1 y2))
 | 0 => fun _ _ _ r h => by simp [laws_heldOpS.l0] at h
 | k + 1 => by
  have ih0 := laws_heldOpS.mono_l k
  ·intro y0 y1 y2
   unfold laws_heldOpS.l0
   repeat' first | (with_reducible first | exact ih0 _ _ _ | exact laws_heldIntS.mono _ _ _ | exact LeO.refl _ | exact LeO.none _ | refine LeO.ite ?_ ?_ | refine LeO.bind ?_ (fun _ => ?_)) | exact ih0 _ _ _ | exact laws_heldIntS.mono _ _ _ | exact LeO.none _ | refine LeO.ite ?_ ?_ | refine LeO.bind ?_ (fun _ => ?_)
theorem laws_heldOpS.mono : ∀ a0 a1 k, LeO (laws_heldOpS.f k a0 a1) (laws_heldOpS.f (k + 1) a0 a1) := by
 intro a0 a1 k
 have ih0 := laws_heldOpS.mono_l k
 unfold laws_heldOpS.f
 repeat' first | (with_reducible first | exact ih0 _ _ _ | exact laws_heldIntS.mono _ _ _ | exact LeO.refl _ | exact LeO.none _ | refine LeO.ite ?_ ?_ | refine LeO.bind ?_ (fun _ => ?_)) | exact ih0 _ _ _ | exact laws_heldIntS.mono _ _ _ | exact LeO.none _ | refine LeO.ite ?_ ?_ | refine LeO.bind ?_ (fun _ => ?_)
set_option maxHeartbeats 8000000 in
set_option maxRecDepth 100000 in
theorem laws_heldOpS.calls (k : Nat) (A0 : Option Addr) (c0 : Nat) (l0 : List (S78)) (a1 : Int) (r : Int) (w : World) (hr0 : Kd.C k78 w A0 l0.length l0) (hc0 : l0.length ≤ c0) (h : laws_heldOpS.f k l0 a1 = some r) :
  Calls Try.prog 19 #[.slice A0 l0.length c0, .int .i64 a1] w fun e w' => e = .returned (.int .i64 r) ∧ Drawn0 w w' := by
 have HR0 := Aside0.mk hr0
 have HC0 := Aside0.mk hc0
 clear hr0 hc0
 have H : (laws_heldOpS.l0 k l0 a1 0) = some r := h
 clear h
 have H' := Aside0.mk H
 clear H
 go_enter Try.func19, Try.ntmps19
 go_wp2
 go_loopg [1, 5] k (fun kq v1 v5 w' => ∃ (x1_1 : Int) (x5_1 : Int), v1 = .int .i64 x1_1 ∧ v5 = .int .i64 x5_1 ∧ Aside0 (laws_heldOpS.l0 kq l0 x1_1 x5_1 = some r) ∧ Aside0 (kq ≤ k) ∧ Drawn0 w w')
 case atStart => exact ⟨(a1), (0), z7_, z7_, H', ⟨Nat.le_refl _⟩, z19_⟩
 case round =>
  clear H'
  try clear c1
  try clear p2
  obtain ⟨x1_1, x5_1, rfl, rfl, HA, HK1, ⟨m1, rfl⟩⟩ := hrel
  cases gk with
  | zero => exact absurd HA.out (by simp [laws_heldOpS.l0])
  | succ k1 =>
   have H := HA.out
   clear HA
   simp only [laws_heldOpS.l0] at H
   by_cases c3 : x5_1 < (l0.length : Int)
   ·rw [if_pos c3] at H
    have c3b0 : decide (x5_1 < (l0.length : Int)) = true := decide_eq_true c3
    clear c3
    obtain ⟨c4b0, H⟩ := ifd_ H
    by_cases c5 : ((rd_T78 l0 x5_1).f0) = x1_1
    ·rw [if_pos c5] at H
     have c5b0 : (((rd_T78 l0 x5_1).f0) == x1_1) = true := beq_iff_eq.mpr c5
     have c5b1 : (((rd_T78 l0 x5_1).f0) != x1_1) = false := bne_eq_false_iff_eq.mpr c5
     clear c5
     obtain ⟨t443, A6, H⟩ := bnd_ H
     by_cases c7 : t443 < 0
     ·rw [if_pos c7] at H
      have c7b0 : decide (t443 < 0) = true := decide_eq_true c7
      clear c7
      obtain rfl := Option.some.inj H
      have p441 : 0 ≤ (x5_1 : Int) := odt_
      have q441 : x5_1 < (l0.length : Int) := odt_
      obtain ⟨ad441, A441_1, c441_1, e441, hx441_0, hx441_1, hx441_2, hx441_3, hx441_4, hl441_1, hi441_1⟩ := at_T78 HR0.out x5_1 p441 q441
      cases e441
      have HR441_1 := Aside0.mk hi441_1
      have HC441_1 := Aside0.mk hl441_1
      clear hi441_1 hl441_1
      replace p441 := eq_true p441
      replace q441 := eq_true q441
      have p442 : 0 ≤ (x5_1 : Int) := odt_
      have q442 : x5_1 < (l0.length : Int) := odt_
      obtain ⟨ad442, A442_1, c442_1, e442, hx442_0, hx442_1, hx442_2, hx442_3, hx442_4, hl442_1, hi442_1⟩ := at_T78 HR0.out x5_1 p442 q442
      obtain rfl : ad441 = ad442 := (by injection e442)
      have HR442_1 := Aside0.mk hi442_1
      have HC442_1 := Aside0.mk hl442_1
      clear hi442_1 hl442_1
      replace p442 := eq_true p442
      replace q442 := eq_true q442
      have ea_ := Option.some.inj (hx441_1.symm.trans hx442_1)
      injection ea_ with ea_ en_ ec_
      subst ea_
      subst ec_
      clear en_
      go_wp2_with (first | ((with_reducible refine gate_callee (f := 57) rfl ?_); refine goesL_ (some 27) rfl rfl Try.func57 (by kernel_rfl) rfl #[.slice A441_1 ((rd_T78 l0 x5_1).f1).length c441_1, .int .i64 (wrap64 (x1_1 + 1))] rfl z1_ ?_; (with_reducible refine (laws_heldIntS.calls k1 _ _ ((rd_T78 l0 x5_1).f1) (wrap64 (x1_1 + 1)) t443 _ ?side1 ?side2 A6.out).mono ?_); (case side1 => exact z51_); (case side2 => exact HC442_1.out); rintro e w' ⟨rfl, ⟨nd, rfl⟩⟩; refine ⟨_, rfl, ?_⟩))
      go_ret
      exact ⟨z7_, z19_⟩
     ·rw [if_neg c7] at H
      have c7b0 : decide (t443 < 0) = false := decide_eq_false c7
      clear c7
      by_cases c8 : ((rd_T78 l0 x5_1).f2) = t443
      ·rw [if_pos c8] at H
       have c8b0 : (((rd_T78 l0 x5_1).f2) == t443) = true := beq_iff_eq.mpr c8
       have c8b1 : (((rd_T78 l0 x5_1).f2) != t443) = false := bne_eq_false_iff_eq.mpr c8
       clear c8
       by_cases c9 : ((rd_T78 l0 x5_1).f3) = (wrap64 (t443 + 1))
       ·rw [if_pos c9] at H
        have c9b0 : (((rd_T78 l0 x5_1).f3) == (wrap64 (t443 + 1))) = true := beq_iff_eq.mpr c9
        have c9b1 : (((rd_T78 l0 x5_1).f3) != (wrap64 (t443 + 1))) = false := bne_eq_false_iff_eq.mpr c9
        clear c9
        by_cases c10 : ((rd_T78 l0 x5_1).f4) = (wrap64 ((wrap64 (t443 + 1)) + 1))
        ·rw [if_pos c10] at H
         have c10b0 : (((rd_T78 l0 x5_1).f4) == (wrap64 ((wrap64 (t443 + 1)) + 1))) = true := beq_iff_eq.mpr c10
         have c10b1 : (((rd_T78 l0 x5_1).f4) != (wrap64 ((wrap64 (t443 + 1)) + 1))) = false := bne_eq_false_iff_eq.mpr c10
         clear c10
         have H' := Aside0.mk H
         clear H
         have p441 : 0 ≤ (x5_1 : Int) := odt_
         have q441 : x5_1 < (l0.length : Int) := odt_
         obtain ⟨ad441, A441_1, c441_1, e441, hx441_0, hx441_1, hx441_2, hx441_3, hx441_4, hl441_1, hi441_1⟩ := at_T78 HR0.out x5_1 p441 q441
         cases e441
         have HR441_1 := Aside0.mk hi441_1
         have HC441_1 := Aside0.mk hl441_1
         clear hi441_1 hl441_1
         replace p441 := eq_true p441
         replace q441 := eq_true q441
         have p442 : 0 ≤ (x5_1 : Int) := odt_
         have q442 : x5_1 < (l0.length : Int) := odt_
         obtain ⟨ad442, A442_1, c442_1, e442, hx442_0, hx442_1, hx442_2, hx442_3, hx442_4, hl442_1, hi442_1⟩ := at_T78 HR0.out x5_1 p442 q442
         obtain rfl : ad441 = ad442 := (by injection e442)
         have HR442_1 := Aside0.mk hi442_1
         have HC442_1 := Aside0.mk hl442_1
         clear hi442_1 hl442_1
         replace p442 := eq_true p442
         replace q442 := eq_true q442
         have ea_ := Option.some.inj (hx441_1.symm.trans hx442_1)
         injection ea_ with ea_ en_ ec_
         subst ea_
         subst ec_
         clear en_
         go_wp2_with (first | ((with_reducible refine gate_callee (f := 57) rfl ?_); refine goesL_ (some 27) rfl rfl Try.func57 (by kernel_rfl) rfl #[.slice A441_1 ((rd_T78 l0 x5_1).f1).length c441_1, .int .i64 (wrap64 (x1_1 + 1))] rfl z1_ ?_; (with_reducible refine (laws_heldIntS.calls k1 _ _ ((rd_T78 l0 x5_1).f1) (wrap64 (x1_1 + 1)) t443 _ ?side1 ?side2 A6.out).mono ?_); (case side1 => exact z51_); (case side2 => exact HC442_1.out); rintro e w' ⟨rfl, ⟨nd, rfl⟩⟩; refine ⟨_, rfl, ?_⟩; have p444 : 0 ≤ (x5_1 : Int) := odt_; have q444 : x5_1 < (l0.length : Int) := odt_; obtain ⟨ad444, A444_1, c444_1, e444, hx444_0, hx444_1, hx444_2, hx444_3, hx444_4, hl444_1, hi444_1⟩ := at_T78 HR0.out x5_1 p444 q444; obtain rfl : ad441 = ad444 := (by injection e444); have HR444_1 := Aside0.mk hi444_1; have HC444_1 := Aside0.mk hl444_1; clear hi444_1 hl444_1; replace p444 := eq_true p444; replace q444 := eq_true q444; have ea_ := Option.some.inj (hx441_1.symm.trans hx444_1); injection ea_ with ea_ en_ ec_; subst ea_; subst ec_; clear en_; have p445 : 0 ≤ (x5_1 : Int) := odt_; have q445 : x5_1 < (l0.length : Int) := odt_; obtain ⟨ad445, A445_1, c445_1, e445, hx445_0, hx445_1, hx445_2, hx445_3, hx445_4, hl445_1, hi445_1⟩ := at_T78 HR0.out x5_1 p445 q445; obtain rfl : ad441 = ad445 := (by injection e445); have HR445_1 := Aside0.mk hi445_1; have HC445_1 := Aside0.mk hl445_1; clear hi445_1 hl445_1; replace p445 := eq_true p445; replace q445 := eq_true q445; have ea_ := Option.some.inj (hx441_1.symm.trans hx445_1); injection ea_ with ea_ en_ ec_; subst ea_; subst ec_; clear en_; have p446 : 0 ≤ (x5_1 : Int) := odt_; have q446 : x5_1 < (l0.length : Int) := odt_; obtain ⟨ad446, A446_1, c446_1, e446, hx446_0, hx446_1, hx446_2, hx446_3, hx446_4, hl446_1, hi446_1⟩ := at_T78 HR0.out x5_1 p446 q446; obtain rfl : ad441 = ad446 := (by injection e446); have HR446_1 := Aside0.mk hi446_1; have HC446_1 := Aside0.mk hl446_1; clear hi446_1 hl446_1; replace p446 := eq_true p446; replace q446 := eq_true q446; have ea_ := Option.some.inj (hx441_1.symm.trans hx446_1); injection ea_ with ea_ en_ ec_; subst ea_; subst ec_; clear en_))
         go_roundg k1
         case measure => have := HK1.out; omega
         case rel => exact ⟨(wrap64 ((wrap64 ((wrap64 (t443 + 1)) + 1)) + 1)), (wrap64 (x5_1 + 1)), z7_, z7_, H', ⟨z60_⟩, z19_⟩
        ·rw [if_neg c10] at H
         have c10b0 : (((rd_T78 l0 x5_1).f4) == (wrap64 ((wrap64 (t443 + 1)) + 1))) = false := beq_eq_false_iff_ne.mpr c10
         have c10b1 : (((rd_T78 l0 x5_1).f4) != (wrap64 ((wrap64 (t443 + 1)) + 1))) = true := bne_iff_ne.mpr c10
         obtain rfl := Option.some.inj H
         have p441 : 0 ≤ (x5_1 : Int) := odt_
         have q441 : x5_1 < (l0.length : Int) := odt_
         obtain ⟨ad441, A441_1, c441_1, e441, hx441_0, hx441_1, hx441_2, hx441_3, hx441_4, hl441_1, hi441_1⟩ := at_T78 HR0.out x5_1 p441 q441
         cases e441
         have HR441_1 := Aside0.mk hi441_1
         have HC441_1 := Aside0.mk hl441_1
         clear hi441_1 hl441_1
         replace p441 := eq_true p441
         replace q441 := eq_true q441
         have p442 : 0 ≤ (x5_1 : Int) := odt_
         have q442 : x5_1 < (l0.length : Int) := odt_
         obtain ⟨ad442, A442_1, c442_1, e442, hx442_0, hx442_1, hx442_2, hx442_3, hx442_4, hl442_1, hi442_1⟩ := at_T78 HR0.out x5_1 p442 q442
         obtain rfl : ad441 = ad442 := (by injection e442)
         have HR442_1 := Aside0.mk hi442_1
         have HC442_1 := Aside0.mk hl442_1
         clear hi442_1 hl442_1
         replace p442 := eq_true p442
         replace q442 := eq_true q442
         have ea_ := Option.some.inj (hx441_1.symm.trans hx442_1)
         injection ea_ with ea_ en_ ec_
         subst ea_
         subst ec_
         clear en_
         go_wp2_with (first | ((with_reducible refine gate_callee (f := 57) rfl ?_); refine goesL_ (some 27) rfl rfl Try.func57 (by kernel_rfl) rfl #[.slice A441_1 ((rd_T78 l0 x5_1).f1).length c441_1, .int .i64 (wrap64 (x1_1 + 1))] rfl z1_ ?_; (with_reducible refine (laws_heldIntS.calls k1 _ _ ((rd_T78 l0 x5_1).f1) (wrap64 (x1_1 + 1)) t443 _ ?side1 ?side2 A6.out).mono ?_); (case side1 => exact z51_); (case side2 => exact HC442_1.out); rintro e w' ⟨rfl, ⟨nd, rfl⟩⟩; refine ⟨_, rfl, ?_⟩; have p444 : 0 ≤ (x5_1 : Int) := odt_; have q444 : x5_1 < (l0.length : Int) := odt_; obtain ⟨ad444, A444_1, c444_1, e444, hx444_0, hx444_1, hx444_2, hx444_3, hx444_4, hl444_1, hi444_1⟩ := at_T78 HR0.out x5_1 p444 q444; obtain rfl : ad441 = ad444 := (by injection e444); have HR444_1 := Aside0.mk hi444_1; have HC444_1 := Aside0.mk hl444_1; clear hi444_1 hl444_1; replace p444 := eq_true p444; replace q444 := eq_true q444; have ea_ := Option.some.inj (hx441_1.symm.trans hx444_1); injection ea_ with ea_ en_ ec_; subst ea_; subst ec_; clear en_; have p445 : 0 ≤ (x5_1 : Int) := odt_; have q445 : x5_1 < (l0.length : Int) := odt_; obtain ⟨ad445, A445_1, c445_1, e445, hx445_0, hx445_1, hx445_2, hx445_3, hx445_4, hl445_1, hi445_1⟩ := at_T78 HR0.out x5_1 p445 q445; obtain rfl : ad441 = ad445 := (by injection e445); have HR445_1 := Aside0.mk hi445_1; have HC445_1 := Aside0.mk hl445_1; clear hi445_1 hl445_1; replace p445 := eq_true p445; replace q445 := eq_true q445; have ea_ := Option.some.inj (hx441_1.symm.trans hx445_1); injection ea_ with ea_ en_ ec_; subst ea_; subst ec_; clear en_; have p446 : 0 ≤ (x5_1 : Int) := odt_; have q446 : x5_1 < (l0.length : Int) := odt_; obtain ⟨ad446, A446_1, c446_1, e446, hx446_0, hx446_1, hx446_2, hx446_3, hx446_4, hl446_1, hi446_1⟩ := at_T78 HR0.out x5_1 p446 q446; obtain rfl : ad441 = ad446 := (by injection e446); have HR446_1 := Aside0.mk hi446_1; have HC446_1 := Aside0.mk hl446_1; clear hi446_1 hl446_1; replace p446 := eq_true p446; replace q446 := eq_true q446; have ea_ := Option.some.inj (hx441_1.symm.trans hx446_1); injection ea_ with ea_ en_ ec_; subst ea_; subst ec_; clear en_))
         go_ret
         exact ⟨z7_, z19_⟩
       ·rw [if_neg c9] at H
        have c9b0 : (((rd_T78 l0 x5_1).f3) == (wrap64 (t443 + 1))) = false := beq_eq_false_iff_ne.mpr c9
        have c9b1 : (((rd_T78 l0 x5_1).f3) != (wrap64 (t443 + 1))) = true := bne_iff_ne.mpr c9
        obtain rfl := Option.some.inj H
        have p441 : 0 ≤ (x5_1 : Int) := odt_
        have q441 : x5_1 < (l0.length : Int) := odt_
        obtain ⟨ad441, A441_1, c441_1, e441, hx441_0, hx441_1, hx441_2, hx441_3, hx441_4, hl441_1, hi441_1⟩ := at_T78 HR0.out x5_1 p441 q441
        cases e441
        have HR441_1 := Aside0.mk hi441_1
        have HC441_1 := Aside0.mk hl441_1
        clear hi441_1 hl441_1
        replace p441 := eq_true p441
        replace q441 := eq_true q441
        have p442 : 0 ≤ (x5_1 : Int) := odt_
        have q442 : x5_1 < (l0.length : Int) := odt_
        obtain ⟨ad442, A442_1, c442_1, e442, hx442_0, hx442_1, hx442_2, hx442_3, hx442_4, hl442_1, hi442_1⟩ := at_T78 HR0.out x5_1 p442 q442
        obtain rfl : ad441 = ad442 := (by injection e442)
        have HR442_1 := Aside0.mk hi442_1
        have HC442_1 := Aside0.mk hl442_1
        clear hi442_1 hl442_1
        replace p442 := eq_true p442
        replace q442 := eq_true q442
        have ea_ := Option.some.inj (hx441_1.symm.trans hx442_1)
        injection ea_ with ea_ en_ ec_
        subst ea_
        subst ec_
        clear en_
        go_wp2_with (first | ((with_reducible refine gate_callee (f := 57) rfl ?_); refine goesL_ (some 27) rfl rfl Try.func57 (by kernel_rfl) rfl #[.slice A441_1 ((rd_T78 l0 x5_1).f1).length c441_1, .int .i64 (wrap64 (x1_1 + 1))] rfl z1_ ?_; (with_reducible refine (laws_heldIntS.calls k1 _ _ ((rd_T78 l0 x5_1).f1) (wrap64 (x1_1 + 1)) t443 _ ?side1 ?side2 A6.out).mono ?_); (case side1 => exact z51_); (case side2 => exact HC442_1.out); rintro e w' ⟨rfl, ⟨nd, rfl⟩⟩; refine ⟨_, rfl, ?_⟩; have p444 : 0 ≤ (x5_1 : Int) := odt_; have q444 : x5_1 < (l0.length : Int) := odt_; obtain ⟨ad444, A444_1, c444_1, e444, hx444_0, hx444_1, hx444_2, hx444_3, hx444_4, hl444_1, hi444_1⟩ := at_T78 HR0.out x5_1 p444 q444; obtain rfl : ad441 = ad444 := (by injection e444); have HR444_1 := Aside0.mk hi444_1; have HC444_1 := Aside0.mk hl444_1; clear hi444_1 hl444_1; replace p444 := eq_true p444; replace q444 := eq_true q444; have ea_ := Option.some.inj (hx441_1.symm.trans hx444_1); injection ea_ with ea_ en_ ec_; subst ea_; subst ec_; clear en_; have p445 : 0 ≤ (x5_1 : Int) := odt_; have q445 : x5_1 < (l0.length : Int) := odt_; obtain ⟨ad445, A445_1, c445_1, e445, hx445_0, hx445_1, hx445_2, hx445_3, hx445_4, hl445_1, hi445_1⟩ := at_T78 HR0.out x5_1 p445 q445; obtain rfl : ad441 = ad445 := (by injection e445); have HR445_1 := Aside0.mk hi445_1; have HC445_1 := Aside0.mk hl445_1; clear hi445_1 hl445_1; replace p445 := eq_true p445; replace q445 := eq_true q445; have ea_ := Option.some.inj (hx441_1.symm.trans hx445_1); injection ea_ with ea_ en_ ec_; subst ea_; subst ec_; clear en_))
        go_ret
        exact ⟨z7_, z19_⟩
      ·rw [if_neg c8] at H
       have c8b0 : (((rd_T78 l0 x5_1).f2) == t443) = false := beq_eq_false_iff_ne.mpr c8
       have c8b1 : (((rd_T78 l0 x5_1).f2) != t443) = true := bne_iff_ne.mpr c8
       obtain rfl := Option.some.inj H
       have p441 : 0 ≤ (x5_1 : Int) := odt_
       have q441 : x5_1 < (l0.length : Int) := odt_
       obtain ⟨ad441, A441_1, c441_1, e441, hx441_0, hx441_1, hx441_2, hx441_3, hx441_4, hl441_1, hi441_1⟩ := at_T78 HR0.out x5_1 p441 q441
       cases e441
       have HR441_1 := Aside0.mk hi441_1
       have HC441_1 := Aside0.mk hl441_1
       clear hi441_1 hl441_1
       replace p441 := eq_true p441
       replace q441 := eq_true q441
       have p442 : 0 ≤ (x5_1 : Int) := odt_
       have q442 : x5_1 < (l0.length : Int) := odt_
       obtain ⟨ad442, A442_1, c442_1, e442, hx442_0, hx442_1, hx442_2, hx442_3, hx442_4, hl442_1, hi442_1⟩ := at_T78 HR0.out x5_1 p442 q442
       obtain rfl : ad441 = ad442 := (by injection e442)
       have HR442_1 := Aside0.mk hi442_1
       have HC442_1 := Aside0.mk hl442_1
       clear hi442_1 hl442_1
       replace p442 := eq_true p442
       replace q442 := eq_true q442
       have ea_ := Option.some.inj (hx441_1.symm.trans hx442_1)
       injection ea_ with ea_ en_ ec_
       subst ea_
       subst ec_
       clear en_
       go_wp2_with (first | ((with_reducible refine gate_callee (f := 57) rfl ?_); refine goesL_ (some 27) rfl rfl Try.func57 (by kernel_rfl) rfl #[.slice A441_1 ((rd_T78 l0 x5_1).f1).length c441_1, .int .i64 (wrap64 (x1_1 + 1))] rfl z1_ ?_; (with_reducible refine (laws_heldIntS.calls k1 _ _ ((rd_T78 l0 x5_1).f1) (wrap64 (x1_1 + 1)) t443 _ ?side1 ?side2 A6.out).mono ?_); (case side1 => exact z51_); (case side2 => exact HC442_1.out); rintro e w' ⟨rfl, ⟨nd, rfl⟩⟩; refine ⟨_, rfl, ?_⟩; have p444 : 0 ≤ (x5_1 : Int) := odt_; have q444 : x5_1 < (l0.length : Int) := odt_; obtain ⟨ad444, A444_1, c444_1, e444, hx444_0, hx444_1, hx444_2, hx444_3, hx444_4, hl444_1, hi444_1⟩ := at_T78 HR0.out x5_1 p444 q444; obtain rfl : ad441 = ad444 := (by injection e444); have HR444_1 := Aside0.mk hi444_1; have HC444_1 := Aside0.mk hl444_1; clear hi444_1 hl444_1; replace p444 := eq_true p444; replace q444 := eq_true q444; have ea_ := Option.some.inj (hx441_1.symm.trans hx444_1); injection ea_ with ea_ en_ ec_; subst ea_; subst ec_; clear en_))
       go_ret
       exact ⟨z7_, z19_⟩
    ·rw [if_neg c5] at H
     have c5b0 : (((rd_T78 l0 x5_1).f0) == x1_1) = false := beq_eq_false_iff_ne.mpr c5
     have c5b1 : (((rd_T78 l0 x5_1).f0) != x1_1) = true := bne_iff_ne.mpr c5
     obtain rfl := Option.some.inj H
     have p441 : 0 ≤ (x5_1 : Int) := odt_
     have q441 : x5_1 < (l0.length : Int) := odt_
     obtain ⟨ad441, A441_1, c441_1, e441, hx441_0, hx441_1, hx441_2, hx441_3, hx441_4, hl441_1, hi441_1⟩ := at_T78 HR0.out x5_1 p441 q441
     cases e441
     have HR441_1 := Aside0.mk hi441_1
     have HC441_1 := Aside0.mk hl441_1
     clear hi441_1 hl441_1
     replace p441 := eq_true p441
     replace q441 := eq_true q441
     go_wp2
     go_ret
     exact ⟨z7_, z19_⟩
   ·rw [if_neg c3] at H
    have c3b0 : decide (x5_1 < (l0.length : Int)) = false := decide_eq_false c3
    clear c3
    obtain rfl := Option.some.inj H
    go_wp2
    go_ret
    exact ⟨z7_, z19_⟩

/-! ### laws_FnExactDropIdle: function 3 -/
theorem ivR {α : Type} {d : Kd α} {e base b hi0 : Nat} {ok : Nat → Prop} {w' : World} {v : Value} {l : List α} (h : d.R e w' b ok v l) (hbs : base ≤ b) (hz : hi0 ≤ b) (hs : b ≤ w'.heap.size) : ∃ hi, hi0 ≤ hi ∧ hi ≤ w'.heap.size ∧ d.R e w' base (fun k => hi0 ≤ k ∧ k < hi) v l :=
 ⟨w'.heap.size, Nat.le_trans hz hs, Nat.le_refl _, Kd.R_mono (Kd.R_lower (Kd.R_bound h) hbs) (fun k hk => ⟨Nat.le_trans hz hk.2.1, hk.2.2.1⟩)⟩
theorem ivS {α : Type} {d : Kd α} {e base b hi0 : Nat} {ok : Nat → Prop} {w' : World} {v : Value} {l : List α} (h : Kd.S d e w' b ok v l) (hbs : base ≤ b) (hz : hi0 ≤ b) (hs : b ≤ w'.heap.size) : ∃ hi, hi0 ≤ hi ∧ hi ≤ w'.heap.size ∧ Kd.S d e w' base (fun k => hi0 ≤ k ∧ k < hi) v l :=
 ⟨w'.heap.size, Nat.le_trans hz hs, Nat.le_refl _, Kd.S_mono (Kd.S_lower (Kd.S_bound h) hbs) (fun k hk => ⟨Nat.le_trans hz hk.2.1, hk.2.2.1⟩)⟩
theorem ivN {α : Type} {d : Kd α} {e base b hi0 : Nat} {ok : Nat → Prop} {w' : World} {v : Value} {l : List α} (h : Kd.N d e w' b ok v l) (hbs : base ≤ b) (hz : hi0 ≤ b) (hs : b ≤ w'.heap.size) (hok : ∀ k, ok k → b ≤ k) : ∃ hi, hi0 ≤ hi ∧ hi ≤ w'.heap.size ∧ Kd.N d e w' base (fun k => hi0 ≤ k ∧ k < hi) v l :=
 ⟨w'.heap.size, Nat.le_trans hz hs, Nat.le_refl _, Kd.N_mono (Kd.N_lower (Kd.N_bound h) hbs) (fun k hk => ⟨Nat.le_trans hz (hok k hk.1), hk.2⟩)⟩
theorem iv_apart {a b c d k : Nat} (h1 : a ≤ k ∧ k < b) (h2 : c ≤ k ∧ k < d) (h : b ≤ c ∨ d ≤ a) : False := by omega
def laws_FnExactDropIdle.f (k : Nat) (l0 : List (S82)) (l1 : List (S73)) : Option Bool := (laws_szNodeS.f l0 1048576).bind fun t1 => if t1 < 0 then some true else (laws_szOpS.f k l1 t1).bind fun t3 => if t3 < 0 then some true else (laws_toNodeS.f k l0).bind fun t5 => (laws_toOpS.f k l1).bind fun t11 => (spec_DropIdle.f k t5 t11).bind fun bt17 => (laws_toNodeS.f k l0).bind fun t24 => (laws_toOpS.f k l1).bind fun t30 => (impl_DropIdle.f k t24 t30).bind fun bt36 => (laws_eqOpS.f k bt36.1 bt17.1).bind fun t43 => if t43 = true then if bt36.2 = bt17.2 then (laws_toNodeS.f k l0).bind fun t45 => (laws_eqNodeS.f k t24 t45).bind fun t51 => if t51 = true then (laws_toOpS.f k l1).bind fun t53 => (laws_eqOpS.f k t30 t53).bind fun t59 => if t59 = true then (laws_markNodeS.f k t24 1).bind fun bt61 => (laws_markOpS.f k t30 bt61.1).bind fun bt65 => if bt65.1 < 0 then none else (laws_eqOpS.f k bt36.1 bt17.1).bind fun t69 => if t69 = true then (laws_markOpS.f k bt36.1 1).bind fun bt71 => (laws_heldOpS.f k bt71.2 1).bind fun t75 => if t75 < 0 then none else if t75 = bt71.1 then (laws_toNodeS.f k l0).bind fun t77 => (laws_toOpS.f k l1).bind fun t83 => (impl_DropIdle.f k t77 t83).bind fun bt89 => (laws_eqOpS.f k bt89.1 bt17.1).bind fun t96 => if t96 = true then if bt89.2 = bt17.2 then (laws_heldOpS.f k bt71.2 1).bind fun t98 => if t98 < 0 then none else if t98 = bt71.1 then some true else none else none else none else none else none else none else none else none else none
set_option maxHeartbeats 8000000 in
set_option maxRecDepth 100000 in
theorem laws_FnExactDropIdle.calls (k : Nat) (A0 : Option Addr) (c0 : Nat) (l0 : List (S82)) (A1 : Option Addr) (c1 : Nat) (l1 : List (S73)) (r : Bool) (w : World) (hr0 : Kd.C k82 w A0 l0.length l0) (hc0 : l0.length ≤ c0) (hr1 : Kd.C k73 w A1 l1.length l1) (hc1 : l1.length ≤ c1) (h : laws_FnExactDropIdle.f k l0 l1 = some r) :
  Calls Try.prog 3 #[.slice A0 l0.length c0, .slice A1 l1.length c1] w fun e w' => e = .returned (.bool r) ∧ Below w.heap.size w w' := by
 have HR0 := Aside0.mk hr0
 have HC0 := Aside0.mk hc0
 clear hr0 hc0
 have HR1 := Aside0.mk hr1
 have HC1 := Aside0.mk hc1
 clear hr1 hc1
 have HB := Aside0.mk (Below.refl w.heap.size w)
 obtain ⟨z0, hz0_⟩ : ∃ z0, z0 = w.heap.size := ⟨_, rfl⟩
 have HZ := Aside0.mk (show z0 ≤ w.heap.size from Nat.le_of_eq hz0_)
 clear hz0_
 have H : ((laws_szNodeS.f l0 1048576).bind fun t1 => if t1 < 0 then some true else (laws_szOpS.f k l1 t1).bind fun t3 => if t3 < 0 then some true else (laws_toNodeS.f k l0).bind fun t5 => (laws_toOpS.f k l1).bind fun t11 => (spec_DropIdle.f k t5 t11).bind fun bt17 => (laws_toNodeS.f k l0).bind fun t24 => (laws_toOpS.f k l1).bind fun t30 => (impl_DropIdle.f k t24 t30).bind fun bt36 => (laws_eqOpS.f k bt36.1 bt17.1).bind fun t43 => if t43 = true then if bt36.2 = bt17.2 then (laws_toNodeS.f k l0).bind fun t45 => (laws_eqNodeS.f k t24 t45).bind fun t51 => if t51 = true then (laws_toOpS.f k l1).bind fun t53 => (laws_eqOpS.f k t30 t53).bind fun t59 => if t59 = true then (laws_markNodeS.f k t24 1).bind fun bt61 => (laws_markOpS.f k t30 bt61.1).bind fun bt65 => if bt65.1 < 0 then none else (laws_eqOpS.f k bt36.1 bt17.1).bind fun t69 => if t69 = true then (laws_markOpS.f k bt36.1 1).bind fun bt71 => (laws_heldOpS.f k bt71.2 1).bind fun t75 => if t75 < 0 then none else if t75 = bt71.1 then (laws_toNodeS.f k l0).bind fun t77 => (laws_toOpS.f k l1).bind fun t83 => (impl_DropIdle.f k t77 t83).bind fun bt89 => (laws_eqOpS.f k bt89.1 bt17.1).bind fun t96 => if t96 = true then if bt89.2 = bt17.2 then (laws_heldOpS.f k bt71.2 1).bind fun t98 => if t98 < 0 then none else if t98 = bt71.1 then some true else none else none else none else none else none else none else none else none else none) = some r := h
 clear h
 replace H := Option.bind_eq_some_iff.mp H
 obtain ⟨t1, F20_, H⟩ := H
 have F2 := Aside0.mk F20_
 clear F20_
 by_cases q2 : t1 < 0
 ·rw [if_pos q2] at H
  obtain rfl := Option.some.inj H
  have qb2 : decide (t1 < 0) = true := decide_eq_true q2
  clear q2
  go_enter Try.func3, Try.ntmps3
  go_wp2_with (first | ((with_reducible refine gate_callee (f := 9) rfl ?_); refine goesL_ (some 19) rfl rfl Try.func9 (by kernel_rfl) rfl #[.slice A0 l0.length c0, .int .i64 1048576] rfl z1_ ?_; (refine (laws_szNodeS.calls _ _ l0 1048576 t1 _ ?side1 ?side2 F2.out).mono ?_); (case side1 => exact z2_); (case side2 => exact HC0.out); rintro e w' ⟨rfl, ⟨nd, rfl⟩⟩; refine ⟨_, rfl, ?_⟩))
  go_ret
  exact ⟨z4_, z0_⟩
 rw [if_neg q2] at H
 have qb2 : decide (t1 < 0) = false := decide_eq_false q2
 clear q2
 replace H := Option.bind_eq_some_iff.mp H
 obtain ⟨t3, F40_, H⟩ := H
 have F4 := Aside0.mk F40_
 clear F40_
 by_cases q4 : t3 < 0
 ·rw [if_pos q4] at H
  obtain rfl := Option.some.inj H
  have qb4 : decide (t3 < 0) = true := decide_eq_true q4
  clear q4
  go_enter Try.func3, Try.ntmps3
  go_wp2_with (first | ((with_reducible refine gate_callee (f := 9) rfl ?_); refine goesL_ (some 19) rfl rfl Try.func9 (by kernel_rfl) rfl #[.slice A0 l0.length c0, .int .i64 1048576] rfl z1_ ?_; (refine (laws_szNodeS.calls _ _ l0 1048576 t1 _ ?side1 ?side2 F2.out).mono ?_); (case side1 => exact z2_); (case side2 => exact HC0.out); rintro e w' ⟨rfl, ⟨nd, rfl⟩⟩; refine ⟨_, rfl, ?_⟩) | ((with_reducible refine gate_callee (f := 10) rfl ?_); refine goesL_ (some 24) rfl rfl Try.func10 (by kernel_rfl) rfl #[.slice A1 l1.length c1, .int .i64 t1] rfl z1_ ?_; (refine (laws_szOpS.calls k _ _ l1 t1 t3 _ ?side1 ?side2 F4.out).mono ?_); (case side1 => exact z34_); (case side2 => exact HC1.out); rintro e wx ⟨rfl, hb⟩; refine ⟨_, rfl, ?_⟩; replace HZ := Aside0.mk (Nat.le_trans HZ.out hb.size); replace HB := Aside0.mk (below_step z0_ hb); clear hb))
  go_ret
  exact ⟨z4_, z0_⟩
 rw [if_neg q4] at H
 have qb4 : decide (t3 < 0) = false := decide_eq_false q4
 clear q4
 replace H := Option.bind_eq_some_iff.mp H
 obtain ⟨t5, F60_, H⟩ := H
 have F6 := Aside0.mk F60_
 clear F60_
 replace H := Option.bind_eq_some_iff.mp H
 obtain ⟨t11, F120_, H⟩ := H
 have F12 := Aside0.mk F120_
 clear F120_
 replace H := Option.bind_eq_some_iff.mp H
 obtain ⟨⟨t17, t18⟩, F190_, H⟩ := H
 have F19 := Aside0.mk F190_
 clear F190_
 dsimp only at H
 replace H := Option.bind_eq_some_iff.mp H
 obtain ⟨t24, F250_, H⟩ := H
 have F25 := Aside0.mk F250_
 clear F250_
 replace H := Option.bind_eq_some_iff.mp H
 obtain ⟨t30, F310_, H⟩ := H
 have F31 := Aside0.mk F310_
 clear F310_
 replace H := Option.bind_eq_some_iff.mp H
 obtain ⟨⟨t36, t37⟩, F380_, H⟩ := H
 have F38 := Aside0.mk F380_
 clear F380_
 dsimp only at H
 replace H := Option.bind_eq_some_iff.mp H
 obtain ⟨t43, F440_, H⟩ := H
 have F44 := Aside0.mk F440_
 clear F440_
 by_cases q12 : t43 = true
 rotate_left
 ·rw [if_neg q12] at H; cases H
 rw [if_pos q12] at H
 subst q12
 by_cases q13 : t37 = t18
 rotate_left
 ·rw [if_neg q13] at H; cases H
 rw [if_pos q13] at H
 have qb13 : (t37 != t18) = false := bne_eq_false_iff_eq.mpr q13
 have qc13 : (t37 == t18) = true := beq_iff_eq.mpr q13
 clear q13
 replace H := Option.bind_eq_some_iff.mp H
 obtain ⟨t45, F460_, H⟩ := H
 have F46 := Aside0.mk F460_
 clear F460_
 replace H := Option.bind_eq_some_iff.mp H
 obtain ⟨t51, F520_, H⟩ := H
 have F52 := Aside0.mk F520_
 clear F520_
 by_cases q16 : t51 = true
 rotate_left
 ·rw [if_neg q16] at H; cases H
 rw [if_pos q16] at H
 subst q16
 replace H := Option.bind_eq_some_iff.mp H
 obtain ⟨t53, F540_, H⟩ := H
 have F54 := Aside0.mk F540_
 clear F540_
 replace H := Option.bind_eq_some_iff.mp H
 obtain ⟨t59, F600_, H⟩ := H
 have F60 := Aside0.mk F600_
 clear F600_
 by_cases q19 : t59 = true
 rotate_left
 ·rw [if_neg q19] at H; cases H
 rw [if_pos q19] at H
 subst q19
 replace H := Option.bind_eq_some_iff.mp H
 obtain ⟨⟨t61, t62⟩, F630_, H⟩ := H
 have F63 := Aside0.mk F630_
 clear F630_
 dsimp only at H
 replace H := Option.bind_eq_some_iff.mp H
 obtain ⟨⟨t65, t66⟩, F670_, H⟩ := H
 have F67 := Aside0.mk F670_
 clear F670_
 dsimp only at H
 by_cases q22 : t65 < 0
 ·rw [if_pos q22] at H; cases H
 rw [if_neg q22] at H
 have qb22 : decide (t65 < 0) = false := decide_eq_false q22
 clear q22
 replace H := Option.bind_eq_some_iff.mp H
 obtain ⟨t69, F700_, H⟩ := H
 have F70 := Aside0.mk F700_
 clear F700_
 by_cases q24 : t69 = true
 rotate_left
 ·rw [if_neg q24] at H; cases H
 rw [if_pos q24] at H
 subst q24
 replace H := Option.bind_eq_some_iff.mp H
 obtain ⟨⟨t71, t72⟩, F730_, H⟩ := H
 have F73 := Aside0.mk F730_
 clear F730_
 dsimp only at H
 replace H := Option.bind_eq_some_iff.mp H
 obtain ⟨t75, F760_, H⟩ := H
 have F76 := Aside0.mk F760_
 clear F760_
 by_cases q27 : t75 < 0
 ·rw [if_pos q27] at H; cases H
 rw [if_neg q27] at H
 have qb27 : decide (t75 < 0) = false := decide_eq_false q27
 clear q27
 by_cases q28 : t75 = t71
 rotate_left
 ·rw [if_neg q28] at H; cases H
 rw [if_pos q28] at H
 have qb28 : (t75 != t71) = false := bne_eq_false_iff_eq.mpr q28
 have qc28 : (t75 == t71) = true := beq_iff_eq.mpr q28
 clear q28
 replace H := Option.bind_eq_some_iff.mp H
 obtain ⟨t77, F780_, H⟩ := H
 have F78 := Aside0.mk F780_
 clear F780_
 replace H := Option.bind_eq_some_iff.mp H
 obtain ⟨t83, F840_, H⟩ := H
 have F84 := Aside0.mk F840_
 clear F840_
 replace H := Option.bind_eq_some_iff.mp H
 obtain ⟨⟨t89, t90⟩, F910_, H⟩ := H
 have F91 := Aside0.mk F910_
 clear F910_
 dsimp only at H
 replace H := Option.bind_eq_some_iff.mp H
 obtain ⟨t96, F970_, H⟩ := H
 have F97 := Aside0.mk F970_
 clear F970_
 by_cases q33 : t96 = true
 rotate_left
 ·rw [if_neg q33] at H; cases H
 rw [if_pos q33] at H
 subst q33
 by_cases q34 : t90 = t18
 rotate_left
 ·rw [if_neg q34] at H; cases H
 rw [if_pos q34] at H
 have qb34 : (t90 != t18) = false := bne_eq_false_iff_eq.mpr q34
 have qc34 : (t90 == t18) = true := beq_iff_eq.mpr q34
 clear q34
 replace H := Option.bind_eq_some_iff.mp H
 obtain ⟨t98, F990_, H⟩ := H
 have F99 := Aside0.mk F990_
 clear F990_
 by_cases q36 : t98 < 0
 ·rw [if_pos q36] at H; cases H
 rw [if_neg q36] at H
 have qb36 : decide (t98 < 0) = false := decide_eq_false q36
 clear q36
 by_cases q37 : t98 = t71
 rotate_left
 ·rw [if_neg q37] at H; cases H
 rw [if_pos q37] at H
 have qb37 : (t98 != t71) = false := bne_eq_false_iff_eq.mpr q37
 have qc37 : (t98 == t71) = true := beq_iff_eq.mpr q37
 clear q37
 obtain rfl := Option.some.inj H
 go_enter Try.func3, Try.ntmps3
 go_wp2_with (first | ((with_reducible refine gate_callee (f := 9) rfl ?_); refine goesL_ (some 19) rfl rfl Try.func9 (by kernel_rfl) rfl #[.slice A0 l0.length c0, .int .i64 1048576] rfl z1_ ?_; (refine (laws_szNodeS.calls _ _ l0 1048576 t1 _ ?side1 ?side2 F2.out).mono ?_); (case side1 => exact z2_); (case side2 => exact HC0.out); rintro e w' ⟨rfl, ⟨nd, rfl⟩⟩; refine ⟨_, rfl, ?_⟩) | ((with_reducible refine gate_callee (f := 10) rfl ?_); refine goesL_ (some 24) rfl rfl Try.func10 (by kernel_rfl) rfl #[.slice A1 l1.length c1, .int .i64 t1] rfl z1_ ?_; (refine (laws_szOpS.calls k _ _ l1 t1 t3 _ ?side1 ?side2 F4.out).mono ?_); (case side1 => exact z34_); (case side2 => exact HC1.out); rintro e wx ⟨rfl, hb⟩; refine ⟨_, rfl, ?_⟩; replace HZ := Aside0.mk (Nat.le_trans HZ.out hb.size); replace HB := Aside0.mk (below_step z0_ hb); clear hb) | ((with_reducible refine gate_callee (f := 12) rfl ?_); refine goesL_ (some 29) rfl rfl Try.func12 (by kernel_rfl) rfl #[.slice A0 l0.length c0] rfl z1_ ?_; (refine (laws_toNodeS.calls k _ _ l0 t5 _ ?side1 ?side2 F6.out).mono ?_); (case side1 => exact z2_); (case side2 => exact HC0.out); rintro e wx ⟨v7, rfl, ho0, hb⟩; refine ⟨_, rfl, ?_⟩; obtain ⟨z1, za1_, zb1_, hn0_⟩ := ivR ho0 (below_size z0_) HZ.out hb.size; have HZ1 := Aside0.mk za1_; replace HZ := Aside0.mk (zb1_); replace HB := Aside0.mk (below_step z0_ hb); have HO8 := Aside0.mk hn0_; obtain ⟨Ao9, co10, eo_⟩ := Kd.R_slice HO8.out; subst eo_; clear hn0_ ho0; clear hb; clear za1_ zb1_) | ((with_reducible refine gate_callee (f := 13) rfl ?_); refine goesL_ (some 31) rfl rfl Try.func13 (by kernel_rfl) rfl #[.slice A1 l1.length c1] rfl z1_ ?_; (refine (laws_toOpS.calls k _ _ l1 t11 _ ?side1 ?side2 F12.out).mono ?_); (case side1 => exact z34_); (case side2 => exact HC1.out); rintro e wx ⟨v13, rfl, ho0, hb⟩; refine ⟨_, rfl, ?_⟩; obtain ⟨z2, za2_, zb2_, hn0_⟩ := ivS ho0 (below_size z0_) HZ.out hb.size; have HZ2 := Aside0.mk za2_; replace HO8 := Aside0.mk (Kd.R_below z139_ hb); replace HZ := Aside0.mk (zb2_); replace HB := Aside0.mk (below_step z0_ hb); have HO14 := Aside0.mk hn0_; obtain ⟨Ao15, co16, eo_⟩ := Kd.S_slice HO14.out; subst eo_; clear hn0_ ho0; clear hb; clear za2_ zb2_) | ((with_reducible refine gate_callee (f := 11) rfl ?_); refine goesL_ (some 32) rfl rfl Try.func11 (by kernel_rfl) rfl #[.slice Ao9 t5.length co10, .slice Ao15 t11.length co16] rfl z1_ ?_; (refine (spec_DropIdle.calls k _ _ t5 _ _ t11 t17 t18 _ ?side1 ?side2 ?side3 ?side4 F19.out).mono ?_); (case side1 => repeat (first | exact (Kd.R_reads' HO8.out).2.2 | (with_reducible refine Kd.C_alloc ?_ _) | (with_reducible refine Kd.C_drewN ?_ _) | (with_reducible refine Kd.C_drew ?_))); (case side2 => exact (Kd.R_reads' HO8.out).2.1); (case side3 => repeat (first | exact (Kd.R_reads' (Kd.S_R HO14.out)).2.2 | (with_reducible refine Kd.C_alloc ?_ _) | (with_reducible refine Kd.C_drewN ?_ _) | (with_reducible refine Kd.C_drew ?_))); (case side4 => exact (Kd.R_reads' (Kd.S_R HO14.out)).2.1); rintro e wx ⟨v20, rfl, ho0, hb⟩; refine ⟨_, rfl, ?_⟩; obtain ⟨z3, za3_, zb3_, hn0_⟩ := ivN ho0 (below_size z0_) HZ.out hb.size (fun _ h_ => h_); have HZ3 := Aside0.mk za3_; replace HO8 := Aside0.mk (Kd.R_below z139_ hb); replace HO14 := Aside0.mk (Kd.S_below (by (with_reducible repeat (first | apply Kd.S_alloc | apply Kd.S_drewN | apply Kd.S_drew)); exact HO14.out) hb); replace HZ := Aside0.mk (zb3_); replace HB := Aside0.mk (below_step z0_ hb); have HO21 := Aside0.mk hn0_; obtain ⟨Ao22, co23, eo_⟩ := Kd.V_slice (Kd.N_V (base' := 0) HO21.out); subst eo_; clear hn0_ ho0; clear hb; clear za3_ zb3_; clear HO8; clear HO14) | ((with_reducible refine gate_callee (f := 12) rfl ?_); refine goesL_ (some 36) rfl rfl Try.func12 (by kernel_rfl) rfl #[.slice A0 l0.length c0] rfl z1_ ?_; (refine (laws_toNodeS.calls k _ _ l0 t24 _ ?side1 ?side2 F25.out).mono ?_); (case side1 => exact z2_); (case side2 => exact HC0.out); rintro e wx ⟨v26, rfl, ho0, hb⟩; refine ⟨_, rfl, ?_⟩; obtain ⟨z4, za4_, zb4_, hn0_⟩ := ivR ho0 (below_size z0_) HZ.out hb.size; have HZ4 := Aside0.mk za4_; replace HO21 := Aside0.mk (Kd.N_below z26_ hb); replace HZ := Aside0.mk (zb4_); replace HB := Aside0.mk (below_step z0_ hb); have HO27 := Aside0.mk hn0_; obtain ⟨Ao28, co29, eo_⟩ := Kd.R_slice HO27.out; subst eo_; clear hn0_ ho0; clear hb; clear za4_ zb4_) | ((with_reducible refine gate_callee (f := 13) rfl ?_); refine goesL_ (some 38) rfl rfl Try.func13 (by kernel_rfl) rfl #[.slice A1 l1.length c1] rfl z1_ ?_; (refine (laws_toOpS.calls k _ _ l1 t30 _ ?side1 ?side2 F31.out).mono ?_); (case side1 => exact z34_); (case side2 => exact HC1.out); rintro e wx ⟨v32, rfl, ho0, hb⟩; refine ⟨_, rfl, ?_⟩; obtain ⟨z5, za5_, zb5_, hn0_⟩ := ivS ho0 (below_size z0_) HZ.out hb.size; have HZ5 := Aside0.mk za5_; replace HO21 := Aside0.mk (Kd.N_below z26_ hb); replace HO27 := Aside0.mk (Kd.R_below z54_ hb); replace HZ := Aside0.mk (zb5_); replace HB := Aside0.mk (below_step z0_ hb); have HO33 := Aside0.mk hn0_; obtain ⟨Ao34, co35, eo_⟩ := Kd.S_slice HO33.out; subst eo_; clear hn0_ ho0; clear hb; clear za5_ zb5_) | ((with_reducible refine gate_callee (f := 14) rfl ?_); refine goesL_ (some 42) rfl rfl Try.func14 (by kernel_rfl) rfl #[.slice Ao28 t24.length co29, .slice Ao34 t30.length co35] rfl z1_ ?_; (refine (impl_DropIdle.calls k (fun _ => True) _ _ t24 _ _ t30 t36 t37 _ ?side1 ?side2 ?side3 F38.out).mono ?_); (case side1 => (with_reducible repeat (first | apply Kd.V_alloc | apply Kd.V_drewN | apply Kd.V_drew)); exact Kd.R_V (Kd.R_mono HO27.out (fun _ _ => trivial))); (case side2 => exact z95_); (case side3 => exact (Kd.R_reads' (Kd.S_R HO33.out)).2.1); rintro e wx ⟨v39, rfl, ho0, hb⟩; refine ⟨_, rfl, ?_⟩; obtain ⟨z6, za6_, zb6_, hn0_⟩ := ivS ho0 (below_size z0_) HZ.out hb.size; have HZ6 := Aside0.mk za6_; replace HO21 := Aside0.mk (Kd.N_below z26_ hb); replace HO27 := Aside0.mk (Kd.R_below z54_ hb); replace HO33 := Aside0.mk (Kd.S_below z55_ hb); replace HZ := Aside0.mk (zb6_); replace HB := Aside0.mk (below_step z0_ hb); have HO40 := Aside0.mk hn0_; obtain ⟨Ao41, co42, eo_⟩ := Kd.S_slice HO40.out; subst eo_; clear hn0_ ho0; clear hb; clear za6_ zb6_) | ((with_reducible refine gate_callee (f := 15) rfl ?_); refine goesL_ (some 47) rfl rfl Try.func15 (by kernel_rfl) rfl #[.slice Ao41 t36.length co42, .slice Ao22 t17.length co23] rfl z1_ ?_; (refine (laws_eqOpS.calls k _ _ t36 _ _ t17 true _ ?side1 ?side2 ?side3 ?side4 F44.out).mono ?_); (case side1 => exact z96_); (case side2 => exact (Kd.R_reads' (Kd.S_R HO40.out)).2.1); (case side3 => exact z71_); (case side4 => exact z144_); rintro e wx ⟨rfl, hb⟩; refine ⟨_, rfl, ?_⟩; replace HO21 := Aside0.mk (Kd.N_below z26_ hb); replace HO27 := Aside0.mk (Kd.R_below z54_ hb); replace HO33 := Aside0.mk (Kd.S_below z55_ hb); replace HO40 := Aside0.mk (Kd.S_below z50_ hb); replace HZ := Aside0.mk (Nat.le_trans HZ.out hb.size); replace HB := Aside0.mk (below_step z0_ hb); clear hb) | ((with_reducible refine gate_callee (f := 12) rfl ?_); refine goesL_ (some 56) rfl rfl Try.func12 (by kernel_rfl) rfl #[.slice A0 l0.length c0] rfl z1_ ?_; (refine (laws_toNodeS.calls k _ _ l0 t45 _ ?side1 ?side2 F46.out).mono ?_); (case side1 => exact z2_); (case side2 => exact HC0.out); rintro e wx ⟨v47, rfl, ho0, hb⟩; refine ⟨_, rfl, ?_⟩; obtain ⟨z7, za7_, zb7_, hn0_⟩ := ivR ho0 (below_size z0_) HZ.out hb.size; have HZ7 := Aside0.mk za7_; replace HO21 := Aside0.mk (Kd.N_below z26_ hb); replace HO27 := Aside0.mk (Kd.R_below z54_ hb); replace HO33 := Aside0.mk (Kd.S_below z55_ hb); replace HO40 := Aside0.mk (Kd.S_below z50_ hb); replace HZ := Aside0.mk (zb7_); replace HB := Aside0.mk (below_step z0_ hb); have HO48 := Aside0.mk hn0_; obtain ⟨Ao49, co50, eo_⟩ := Kd.R_slice HO48.out; subst eo_; clear hn0_ ho0; clear hb; clear za7_ zb7_) | ((with_reducible refine gate_callee (f := 16) rfl ?_); refine goesL_ (some 57) rfl rfl Try.func16 (by kernel_rfl) rfl #[.slice Ao28 t24.length co29, .slice Ao49 t45.length co50] rfl z1_ ?_; (refine (laws_eqNodeS.calls k _ _ t24 _ _ t45 true _ ?side1 ?side2 ?side3 ?side4 F52.out).mono ?_); (case side1 => repeat (first | exact (Kd.R_reads' HO27.out).2.2 | (with_reducible refine Kd.C_alloc ?_ _) | (with_reducible refine Kd.C_drewN ?_ _) | (with_reducible refine Kd.C_drew ?_))); (case side2 => exact (Kd.R_reads' HO27.out).2.1); (case side3 => repeat (first | exact (Kd.R_reads' HO48.out).2.2 | (with_reducible refine Kd.C_alloc ?_ _) | (with_reducible refine Kd.C_drewN ?_ _) | (with_reducible refine Kd.C_drew ?_))); (case side4 => exact (Kd.R_reads' HO48.out).2.1); rintro e wx ⟨rfl, hb⟩; refine ⟨_, rfl, ?_⟩; replace HO21 := Aside0.mk (Kd.N_below z26_ hb); replace HO27 := Aside0.mk (Kd.R_below z54_ hb); replace HO33 := Aside0.mk (Kd.S_below z55_ hb); replace HO40 := Aside0.mk (Kd.S_below z50_ hb); replace HO48 := Aside0.mk (Kd.R_below (by (with_reducible repeat (first | apply Kd.R_alloc | apply Kd.R_drewN | apply Kd.R_drew)); exact HO48.out) hb); replace HZ := Aside0.mk (Nat.le_trans HZ.out hb.size); replace HB := Aside0.mk (below_step z0_ hb); clear hb; clear HO48) | ((with_reducible refine gate_callee (f := 13) rfl ?_); refine goesL_ (some 61) rfl rfl Try.func13 (by kernel_rfl) rfl #[.slice A1 l1.length c1] rfl z1_ ?_; (refine (laws_toOpS.calls k _ _ l1 t53 _ ?side1 ?side2 F54.out).mono ?_); (case side1 => exact z34_); (case side2 => exact HC1.out); rintro e wx ⟨v55, rfl, ho0, hb⟩; refine ⟨_, rfl, ?_⟩; obtain ⟨z8, za8_, zb8_, hn0_⟩ := ivS ho0 (below_size z0_) HZ.out hb.size; have HZ8 := Aside0.mk za8_; replace HO21 := Aside0.mk (Kd.N_below z26_ hb); replace HO27 := Aside0.mk (Kd.R_below z54_ hb); replace HO33 := Aside0.mk (Kd.S_below z55_ hb); replace HO40 := Aside0.mk (Kd.S_below z50_ hb); replace HZ := Aside0.mk (zb8_); replace HB := Aside0.mk (below_step z0_ hb); have HO56 := Aside0.mk hn0_; obtain ⟨Ao57, co58, eo_⟩ := Kd.S_slice HO56.out; subst eo_; clear hn0_ ho0; clear hb; clear za8_ zb8_) | ((with_reducible refine gate_callee (f := 15) rfl ?_); refine goesL_ (some 62) rfl rfl Try.func15 (by kernel_rfl) rfl #[.slice Ao34 t30.length co35, .slice Ao57 t53.length co58] rfl z1_ ?_; (refine (laws_eqOpS.calls k _ _ t30 _ _ t53 true _ ?side1 ?side2 ?side3 ?side4 F60.out).mono ?_); (case side1 => exact z95_); (case side2 => exact (Kd.R_reads' (Kd.S_R HO33.out)).2.1); (case side3 => repeat (first | exact (Kd.R_reads' (Kd.S_R HO56.out)).2.2 | (with_reducible refine Kd.C_alloc ?_ _) | (with_reducible refine Kd.C_drewN ?_ _) | (with_reducible refine Kd.C_drew ?_))); (case side4 => exact (Kd.R_reads' (Kd.S_R HO56.out)).2.1); rintro e wx ⟨rfl, hb⟩; refine ⟨_, rfl, ?_⟩; replace HO21 := Aside0.mk (Kd.N_below z26_ hb); replace HO27 := Aside0.mk (Kd.R_below z54_ hb); replace HO33 := Aside0.mk (Kd.S_below z55_ hb); replace HO40 := Aside0.mk (Kd.S_below z50_ hb); replace HO56 := Aside0.mk (Kd.S_below (by (with_reducible repeat (first | apply Kd.S_alloc | apply Kd.S_drewN | apply Kd.S_drew)); exact HO56.out) hb); replace HZ := Aside0.mk (Nat.le_trans HZ.out hb.size); replace HB := Aside0.mk (below_step z0_ hb); clear hb; clear HO56) | ((with_reducible refine gate_callee (f := 17) rfl ?_); refine goesL_ (some 66) rfl rfl Try.func17 (by kernel_rfl) rfl #[.slice Ao28 t24.length co29, .int .i64 1] rfl z1_ ?_; (refine (laws_markNodeS.calls k (fun k_ => z3 ≤ k_ ∧ k_ < z4) (.slice Ao28 t24.length co29) t24 1 t61 t62 w _ ?side1 ?side2 F63.out).mono ?_); (case side1 => exact z23_); (case side2 => (with_reducible repeat (first | apply Kd.R_drewN | apply Kd.R_drew)); exact HO27.out); rintro e wx ⟨rfl, hy0, hb, hkp⟩; refine ⟨_, rfl, ?_⟩; replace HO21 := Aside0.mk (Kd.N_kept z26_ hkp (fun k_ h1_ h2_ => iv_apart h1_ h2_ z38_)); replace HO33 := Aside0.mk (Kd.S_kept z55_ hkp (fun k_ h1_ h2_ => iv_apart h1_ h2_ z38_)); replace HO40 := Aside0.mk (Kd.S_kept z50_ hkp (fun k_ h1_ h2_ => iv_apart h1_ h2_ z38_)); replace HZ := Aside0.mk (Nat.le_trans HZ.out hkp.1); have HO64 := Aside0.mk hy0; clear HO27; clear HB; have HB := Aside0.mk hb; clear hy0 hb hkp; clear HO64) | ((with_reducible refine gate_callee (f := 18) rfl ?_); refine goesL_ (some 69) rfl rfl Try.func18 (by kernel_rfl) rfl #[.slice Ao34 t30.length co35, .int .i64 t61] rfl z1_ ?_; (refine (laws_markOpS.calls k (fun k_ => z4 ≤ k_ ∧ k_ < z5) (.slice Ao34 t30.length co35) t30 t61 t65 t66 w _ ?side1 ?side2 F67.out).mono ?_); (case side1 => exact z23_); (case side2 => (with_reducible repeat (first | apply Kd.S_drewN | apply Kd.S_drew)); exact HO33.out); rintro e wx ⟨rfl, hy0, hb, hkp⟩; refine ⟨_, rfl, ?_⟩; replace HO21 := Aside0.mk (Kd.N_kept z26_ hkp (fun k_ h1_ h2_ => iv_apart h1_ h2_ z38_)); replace HO40 := Aside0.mk (Kd.S_kept z50_ hkp (fun k_ h1_ h2_ => iv_apart h1_ h2_ z38_)); replace HZ := Aside0.mk (Nat.le_trans HZ.out hkp.1); have HO68 := Aside0.mk hy0; clear HO33; clear HB; have HB := Aside0.mk hb; clear hy0 hb hkp; clear HO68) | (go_at_call 15; (refine (laws_eqOpS.calls k _ _ t36 _ _ t17 true _ ?side1 ?side2 ?side3 ?side4 F70.out).mono ?_); (case side1 => exact z96_); (case side2 => exact (Kd.R_reads' (Kd.S_R HO40.out)).2.1); (case side3 => exact z71_); (case side4 => exact z144_); rintro e wx ⟨rfl, hb⟩; replace HO21 := Aside0.mk (Kd.N_below z26_ hb); replace HO40 := Aside0.mk (Kd.S_below z50_ hb); replace HZ := Aside0.mk (Nat.le_trans HZ.out hb.size); replace HB := Aside0.mk (below_step z0_ hb); clear hb) | ((with_reducible refine gate_callee (f := 18) rfl ?_); refine goesL_ (some 85) rfl rfl Try.func18 (by kernel_rfl) rfl #[.slice Ao41 t36.length co42, .int .i64 1] rfl z1_ ?_; (refine (laws_markOpS.calls k (fun k_ => z5 ≤ k_ ∧ k_ < z6) (.slice Ao41 t36.length co42) t36 1 t71 t72 w _ ?side1 ?side2 F73.out).mono ?_); (case side1 => exact z23_); (case side2 => (with_reducible repeat (first | apply Kd.S_drewN | apply Kd.S_drew)); exact HO40.out); rintro e wx ⟨rfl, hy0, hb, hkp⟩; refine ⟨_, rfl, ?_⟩; replace HO21 := Aside0.mk (Kd.N_kept z26_ hkp (fun k_ h1_ h2_ => iv_apart h1_ h2_ z38_)); replace HZ := Aside0.mk (Nat.le_trans HZ.out hkp.1); have HO74 := Aside0.mk hy0; clear HO40; clear HB; have HB := Aside0.mk hb; clear hy0 hb hkp) | ((with_reducible refine gate_callee (f := 19) rfl ?_); refine goesL_ (some 88) rfl rfl Try.func19 (by kernel_rfl) rfl #[.slice Ao41 t72.length co42, .int .i64 1] rfl z85_ ?_; (refine (laws_heldOpS.calls k _ _ t72 1 t75 _ ?side1 ?side2 F76.out).mono ?_); (case side1 => exact z97_); (case side2 => exact z126_); rintro e w' ⟨rfl, ⟨nd, rfl⟩⟩; refine ⟨_, rfl, ?_⟩) | ((with_reducible refine gate_callee (f := 12) rfl ?_); refine goesL_ (some 96) rfl rfl Try.func12 (by kernel_rfl) rfl #[.slice A0 l0.length c0] rfl z1_ ?_; (refine (laws_toNodeS.calls k _ _ l0 t77 _ ?side1 ?side2 F78.out).mono ?_); (case side1 => exact z2_); (case side2 => exact HC0.out); rintro e wx ⟨v79, rfl, ho0, hb⟩; refine ⟨_, rfl, ?_⟩; obtain ⟨z9, za9_, zb9_, hn0_⟩ := ivR ho0 (below_size z0_) HZ.out hb.size; have HZ9 := Aside0.mk za9_; replace HO21 := Aside0.mk (Kd.N_below z26_ hb); replace HO74 := Aside0.mk (Kd.S_below z91_ hb); replace HZ := Aside0.mk (zb9_); replace HB := Aside0.mk (below_step z0_ hb); have HO80 := Aside0.mk hn0_; obtain ⟨Ao81, co82, eo_⟩ := Kd.R_slice HO80.out; subst eo_; clear hn0_ ho0; clear hb; clear za9_ zb9_) | ((with_reducible refine gate_callee (f := 13) rfl ?_); refine goesL_ (some 98) rfl rfl Try.func13 (by kernel_rfl) rfl #[.slice A1 l1.length c1] rfl z1_ ?_; (refine (laws_toOpS.calls k _ _ l1 t83 _ ?side1 ?side2 F84.out).mono ?_); (case side1 => exact z34_); (case side2 => exact HC1.out); rintro e wx ⟨v85, rfl, ho0, hb⟩; refine ⟨_, rfl, ?_⟩; obtain ⟨z10, za10_, zb10_, hn0_⟩ := ivS ho0 (below_size z0_) HZ.out hb.size; have HZ10 := Aside0.mk za10_; replace HO21 := Aside0.mk (Kd.N_below z26_ hb); replace HO74 := Aside0.mk (Kd.S_below z91_ hb); replace HO80 := Aside0.mk (Kd.R_below z136_ hb); replace HZ := Aside0.mk (zb10_); replace HB := Aside0.mk (below_step z0_ hb); have HO86 := Aside0.mk hn0_; obtain ⟨Ao87, co88, eo_⟩ := Kd.S_slice HO86.out; subst eo_; clear hn0_ ho0; clear hb; clear za10_ zb10_) | ((with_reducible refine gate_callee (f := 14) rfl ?_); refine goesL_ (some 99) rfl rfl Try.func14 (by kernel_rfl) rfl #[.slice Ao81 t77.length co82, .slice Ao87 t83.length co88] rfl z1_ ?_; (refine (impl_DropIdle.calls k (fun _ => True) _ _ t77 _ _ t83 t89 t90 _ ?side1 ?side2 ?side3 F91.out).mono ?_); (case side1 => (with_reducible repeat (first | apply Kd.V_alloc | apply Kd.V_drewN | apply Kd.V_drew)); exact Kd.R_V (Kd.R_mono HO80.out (fun _ _ => trivial))); (case side2 => repeat (first | exact (Kd.R_reads' (Kd.S_R HO86.out)).2.2 | (with_reducible refine Kd.C_alloc ?_ _) | (with_reducible refine Kd.C_drewN ?_ _) | (with_reducible refine Kd.C_drew ?_))); (case side3 => exact (Kd.R_reads' (Kd.S_R HO86.out)).2.1); rintro e wx ⟨v92, rfl, ho0, hb⟩; refine ⟨_, rfl, ?_⟩; obtain ⟨z11, za11_, zb11_, hn0_⟩ := ivS ho0 (below_size z0_) HZ.out hb.size; have HZ11 := Aside0.mk za11_; replace HO21 := Aside0.mk (Kd.N_below z26_ hb); replace HO74 := Aside0.mk (Kd.S_below z91_ hb); replace HO80 := Aside0.mk (Kd.R_below z136_ hb); replace HO86 := Aside0.mk (Kd.S_below (by (with_reducible repeat (first | apply Kd.S_alloc | apply Kd.S_drewN | apply Kd.S_drew)); exact HO86.out) hb); replace HZ := Aside0.mk (zb11_); replace HB := Aside0.mk (below_step z0_ hb); have HO93 := Aside0.mk hn0_; obtain ⟨Ao94, co95, eo_⟩ := Kd.S_slice HO93.out; subst eo_; clear hn0_ ho0; clear hb; clear za11_ zb11_; clear HO80; clear HO86) | ((with_reducible refine gate_callee (f := 15) rfl ?_); refine goesL_ (some 104) rfl rfl Try.func15 (by kernel_rfl) rfl #[.slice Ao94 t89.length co95, .slice Ao22 t17.length co23] rfl z1_ ?_; (refine (laws_eqOpS.calls k _ _ t89 _ _ t17 true _ ?side1 ?side2 ?side3 ?side4 F97.out).mono ?_); (case side1 => repeat (first | exact (Kd.R_reads' (Kd.S_R HO93.out)).2.2 | (with_reducible refine Kd.C_alloc ?_ _) | (with_reducible refine Kd.C_drewN ?_ _) | (with_reducible refine Kd.C_drew ?_))); (case side2 => exact (Kd.R_reads' (Kd.S_R HO93.out)).2.1); (case side3 => exact z71_); (case side4 => exact z144_); rintro e wx ⟨rfl, hb⟩; refine ⟨_, rfl, ?_⟩; replace HO21 := Aside0.mk (Kd.N_below z26_ hb); replace HO74 := Aside0.mk (Kd.S_below z91_ hb); replace HO93 := Aside0.mk (Kd.S_below (by (with_reducible repeat (first | apply Kd.S_alloc | apply Kd.S_drewN | apply Kd.S_drew)); exact HO93.out) hb); replace HZ := Aside0.mk (Nat.le_trans HZ.out hb.size); replace HB := Aside0.mk (below_step z0_ hb); clear hb; clear HO93) | ((with_reducible refine gate_callee (f := 19) rfl ?_); refine goesL_ (some 113) rfl rfl Try.func19 (by kernel_rfl) rfl #[.slice Ao41 t72.length co42, .int .i64 1] rfl z85_ ?_; (refine (laws_heldOpS.calls k _ _ t72 1 t98 _ ?side1 ?side2 F99.out).mono ?_); (case side1 => exact z97_); (case side2 => exact z126_); rintro e w' ⟨rfl, ⟨nd, rfl⟩⟩; refine ⟨_, rfl, ?_⟩))
 go_ret
 exact ⟨z4_, z0_⟩

end Go.Proofs.Ytdapeboajjidmaa.PFnExactDropIdle
