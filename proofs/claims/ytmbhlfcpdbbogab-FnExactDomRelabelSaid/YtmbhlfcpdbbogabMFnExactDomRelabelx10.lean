/- Laid by a program of this session out of the kit's print for the law FnExactDomRelabel: what it says of the machine is proved here, function by function; each contract under the conditions that it names. -/
import Derived.Test.YtmbhlfcpdbbogabMFnExactDomRelabelx0
namespace Go.Proofs.Ytmbhlfcpdbbogab.PFnExactDomRelabel
open Go.RowKit Go.Proofs.YtmbhlfcpdbbogabW.PrintWords Go.Proofs.YtmbhlfcpdbbogabW.PrintLast Go.Proofs.YtmbhlfcpdbbogabW.PrintMore
attribute [local go_sem] max2_int min2_int max_two min_two max_three min_three max_four min_four   -- for this text's walks alone
set_option linter.unusedVariables false
set_option linter.unusedSimpArgs false

/-! ### laws_markDomNodeS: function 61 -/
def laws_markDomNodeS.l0 : Nat → List (S90) → Int → Int → Option (Int × (List (S90)))
 | 0, _, _, _ => none
 | k + 1, x0, x1, x5 => if x5 < (x0.length : Int) then (if 0 ≤ x5 then ((some (x0.set (x5 : Int).toNat (⟨((Int.tmod x1 3) == 0), (rd_T90 x0 x5).f1, (rd_T90 x0 x5).f2, (rd_T90 x0 x5).f3, (rd_T90 x0 x5).f4, (rd_T90 x0 x5).f5, (rd_T90 x0 x5).f6⟩ : S90) : List (S90))).bind fun y305 => ((some (y305.set (x5 : Int).toNat (⟨(rd_T90 y305 x5).f0, wrap64 (x1 + 1), (rd_T90 y305 x5).f2, (rd_T90 y305 x5).f3, (rd_T90 y305 x5).f4, (rd_T90 y305 x5).f5, (rd_T90 y305 x5).f6⟩ : S90) : List (S90))).bind fun y306 => ((some (y306.set (x5 : Int).toNat (⟨(rd_T90 y306 x5).f0, (rd_T90 y306 x5).f1, wrap64 ((wrap64 (x1 + 1)) + 1), (rd_T90 y306 x5).f3, (rd_T90 y306 x5).f4, (rd_T90 y306 x5).f5, (rd_T90 y306 x5).f6⟩ : S90) : List (S90))).bind fun y307 => ((some (y307.set (x5 : Int).toNat (⟨(rd_T90 y307 x5).f0, (rd_T90 y307 x5).f1, (rd_T90 y307 x5).f2, wrap64 ((wrap64 ((wrap64 (x1 + 1)) + 1)) + 1), (rd_T90 y307 x5).f4, (rd_T90 y307 x5).f5, (rd_T90 y307 x5).f6⟩ : S90) : List (S90))).bind fun y308 => ((some (y308.set (x5 : Int).toNat (⟨(rd_T90 y308 x5).f0, (rd_T90 y308 x5).f1, (rd_T90 y308 x5).f2, (rd_T90 y308 x5).f3, wrap64 ((wrap64 ((wrap64 ((wrap64 (x1 + 1)) + 1)) + 1)) + 1), (rd_T90 y308 x5).f5, (rd_T90 y308 x5).f6⟩ : S90) : List (S90))).bind fun y309 => ((some (y309.set (x5 : Int).toNat (⟨(rd_T90 y309 x5).f0, (rd_T90 y309 x5).f1, (rd_T90 y309 x5).f2, (rd_T90 y309 x5).f3, (rd_T90 y309 x5).f4, wrap64 ((wrap64 ((wrap64 ((wrap64 ((wrap64 (x1 + 1)) + 1)) + 1)) + 1)) + 1), (rd_T90 y309 x5).f6⟩ : S90) : List (S90))).bind fun y310 => (laws_markDomNodeS.l0 k (y310.set (x5 : Int).toNat (⟨(rd_T90 y310 x5).f0, (rd_T90 y310 x5).f1, (rd_T90 y310 x5).f2, (rd_T90 y310 x5).f3, (rd_T90 y310 x5).f4, (rd_T90 y310 x5).f5, wrap64 ((wrap64 ((wrap64 ((wrap64 ((wrap64 ((wrap64 (x1 + 1)) + 1)) + 1)) + 1)) + 1)) + 1)⟩ : S90)) (wrap64 ((wrap64 ((wrap64 ((wrap64 ((wrap64 ((wrap64 ((wrap64 (x1 + 1)) + 1)) + 1)) + 1)) + 1)) + 1)) + 1)) (wrap64 (x5 + 1))))))))) else (none)) else (some (x1, x0))
def laws_markDomNodeS.f (k : Nat) (l0 : List (S90)) (a1 : Int) : Option (Int × (List (S90))) := laws_markDomNodeS.l0 k l0 a1 0
theorem laws_markDomNodeS.mono_l : ∀ k, (∀ y0 y1 y2, LeO (laws_markDomNodeS.l0 k y0 y1 y2) (laws_markDomNodeS.l0 (k + 1) y0 y1 y2))
 | 0 => fun _ _ _ r h => by simp [laws_markDomNodeS.l0] at h
 | k + 1 => by
  have ih0 := laws_markDomNodeS.mono_l k
  ·intro y0 y1 y2
   unfold laws_markDomNodeS.l0
   repeat' first | (with_reducible first | exact ih0 _ _ _ | exact LeO.refl _ | exact LeO.none _ | refine LeO.ite ?_ ?_ | refine LeO.bind ?_ (fun _ => ?_)) | exact ih0 _ _ _ | exact LeO.none _ | refine LeO.ite ?_ ?_ | refine LeO.bind ?_ (fun _ => ?_)
theorem laws_markDomNodeS.mono : ∀ a0 a1 k, LeO (laws_markDomNodeS.f k a0 a1) (laws_markDomNodeS.f (k + 1) a0 a1) := by
 intro a0 a1 k
 have ih0 := laws_markDomNodeS.mono_l k
 unfold laws_markDomNodeS.f
 repeat' first | (with_reducible first | exact ih0 _ _ _ | exact LeO.refl _ | exact LeO.none _ | refine LeO.ite ?_ ?_ | refine LeO.bind ?_ (fun _ => ?_)) | exact ih0 _ _ _ | exact LeO.none _ | refine LeO.ite ?_ ?_ | refine LeO.bind ?_ (fun _ => ?_)
set_option maxHeartbeats 8000000 in
set_option maxRecDepth 100000 in
theorem laws_markDomNodeS.calls (k : Nat) (P0_ : Nat → Prop) (u9000_ : Value) (l0 : List (S90)) (a1 : Int) (r1 : Int) (r2 : List (S90)) (w0 w : World) (hB : Below w0.heap.size w0 w) (ho0 : Kd.R k90 90 w w0.heap.size P0_ u9000_ l0) (h : laws_markDomNodeS.f k l0 a1 = some (r1, r2)) :
  Calls Try.prog 61 #[u9000_, .int .i64 a1] w fun e w' => e = .returned (.int .i64 r1) ∧ Kd.R k90 90 w' w0.heap.size (fun k_ => (P0_ k_ ∨ w.heap.size ≤ k_)) u9000_ r2 ∧ Below w0.heap.size w0 w' ∧ Kept w w' (fun k_ => P0_ k_) := by
 have HO0 := Aside0.mk (show Kd.R k90 90 w w0.heap.size (fun k_ => (P0_ k_ ∨ w.heap.size ≤ k_)) u9000_ l0 from Kd.R_mono ho0 (fun k_ hk => (.inl hk)))
 have HK := Aside0.mk (Kept.refl w (fun k_ => P0_ k_))
 have HW0 := Aside0.mk hB.size
 have HB := Aside0.mk hB
 clear hB
 have H : (laws_markDomNodeS.l0 k l0 a1 0) = some (r1, r2) := h
 clear h
 have H' := Aside0.mk H
 clear H
 go_enter Try.func61, Try.ntmps61
 go_wp2
 go_loopg [1, 5] k (fun kq v1 v5 w' => ∃ (x0_1 : List (S90)) (x1_1 : Int) (x5_1 : Int), v1 = .int .i64 x1_1 ∧ v5 = .int .i64 x5_1 ∧ Aside0 (laws_markDomNodeS.l0 kq x0_1 x1_1 x5_1 = some (r1, r2)) ∧ Aside0 (kq ≤ k) ∧ Aside0 (Kd.R k90 90 w' w0.heap.size (fun k_ => (P0_ k_ ∨ w.heap.size ≤ k_)) u9000_ x0_1) ∧ Aside0 (Kept w w' (fun k_ => P0_ k_)) ∧ Aside0 (Below w0.heap.size w0 w'))
 case atStart => exact ⟨(l0), (a1), (0), z22_, z22_, H', ⟨Nat.le_refl _⟩, ⟨by (with_reducible repeat (first | apply Kd.R_alloc | apply Kd.R_drewN | apply Kd.R_drew)); exact HO0.out⟩, ⟨z51_⟩, ⟨z0_⟩⟩
 case round =>
  clear H'
  try clear p2
  obtain ⟨x0_1, x1_1, x5_1, rfl, rfl, HA, HK1, HO_0, HK, HB⟩ := hrel
  cases gk with
  | zero => exact absurd HA.out (by simp [laws_markDomNodeS.l0])
  | succ k1 =>
   have H := HA.out
   clear HA
   simp only [laws_markDomNodeS.l0] at H
   by_cases c3 : x5_1 < (x0_1.length : Int)
   ·rw [if_pos c3] at H
    have c3b0 : decide (x5_1 < (x0_1.length : Int)) = true := decide_eq_true c3
    clear c3
    obtain ⟨c4b0, H⟩ := ifd_ H
    obtain ⟨y305, hy305⟩ : ∃ y_ : List (S90), y_ = (x0_1.set (x5_1 : Int).toNat (⟨((Int.tmod x1_1 3) == 0), (rd_T90 x0_1 x5_1).f1, (rd_T90 x0_1 x5_1).f2, (rd_T90 x0_1 x5_1).f3, (rd_T90 x0_1 x5_1).f4, (rd_T90 x0_1 x5_1).f5, (rd_T90 x0_1 x5_1).f6⟩ : S90)) := ⟨_, rfl⟩
    replace H : ((some (y305.set (x5_1 : Int).toNat (⟨(rd_T90 y305 x5_1).f0, wrap64 (x1_1 + 1), (rd_T90 y305 x5_1).f2, (rd_T90 y305 x5_1).f3, (rd_T90 y305 x5_1).f4, (rd_T90 y305 x5_1).f5, (rd_T90 y305 x5_1).f6⟩ : S90) : List (S90))).bind fun y306 => ((some (y306.set (x5_1 : Int).toNat (⟨(rd_T90 y306 x5_1).f0, (rd_T90 y306 x5_1).f1, wrap64 ((wrap64 (x1_1 + 1)) + 1), (rd_T90 y306 x5_1).f3, (rd_T90 y306 x5_1).f4, (rd_T90 y306 x5_1).f5, (rd_T90 y306 x5_1).f6⟩ : S90) : List (S90))).bind fun y307 => ((some (y307.set (x5_1 : Int).toNat (⟨(rd_T90 y307 x5_1).f0, (rd_T90 y307 x5_1).f1, (rd_T90 y307 x5_1).f2, wrap64 ((wrap64 ((wrap64 (x1_1 + 1)) + 1)) + 1), (rd_T90 y307 x5_1).f4, (rd_T90 y307 x5_1).f5, (rd_T90 y307 x5_1).f6⟩ : S90) : List (S90))).bind fun y308 => ((some (y308.set (x5_1 : Int).toNat (⟨(rd_T90 y308 x5_1).f0, (rd_T90 y308 x5_1).f1, (rd_T90 y308 x5_1).f2, (rd_T90 y308 x5_1).f3, wrap64 ((wrap64 ((wrap64 ((wrap64 (x1_1 + 1)) + 1)) + 1)) + 1), (rd_T90 y308 x5_1).f5, (rd_T90 y308 x5_1).f6⟩ : S90) : List (S90))).bind fun y309 => ((some (y309.set (x5_1 : Int).toNat (⟨(rd_T90 y309 x5_1).f0, (rd_T90 y309 x5_1).f1, (rd_T90 y309 x5_1).f2, (rd_T90 y309 x5_1).f3, (rd_T90 y309 x5_1).f4, wrap64 ((wrap64 ((wrap64 ((wrap64 ((wrap64 (x1_1 + 1)) + 1)) + 1)) + 1)) + 1), (rd_T90 y309 x5_1).f6⟩ : S90) : List (S90))).bind fun y310 => (laws_markDomNodeS.l0 k1 (y310.set (x5_1 : Int).toNat (⟨(rd_T90 y310 x5_1).f0, (rd_T90 y310 x5_1).f1, (rd_T90 y310 x5_1).f2, (rd_T90 y310 x5_1).f3, (rd_T90 y310 x5_1).f4, (rd_T90 y310 x5_1).f5, wrap64 ((wrap64 ((wrap64 ((wrap64 ((wrap64 ((wrap64 (x1_1 + 1)) + 1)) + 1)) + 1)) + 1)) + 1)⟩ : S90)) (wrap64 ((wrap64 ((wrap64 ((wrap64 ((wrap64 ((wrap64 ((wrap64 (x1_1 + 1)) + 1)) + 1)) + 1)) + 1)) + 1)) + 1)) (wrap64 (x5_1 + 1)))))))) = some (r1, r2) := by first | (rw [hy305]; with_reducible exact H) | (have H2_ := (Option.bind_some _ _).symm.trans H; rw [hy305]; with_reducible exact H2_) | (have H2_ := (Option.bind_some _ _).symm.trans H; with_reducible exact H2_) | with_reducible exact H | (rw [hy305]; exact H) | exact H
    have Ny305 := Aside0.mk hy305
    clear hy305
    obtain ⟨y306, hy306⟩ : ∃ y_ : List (S90), y_ = (y305.set (x5_1 : Int).toNat (⟨(rd_T90 y305 x5_1).f0, wrap64 (x1_1 + 1), (rd_T90 y305 x5_1).f2, (rd_T90 y305 x5_1).f3, (rd_T90 y305 x5_1).f4, (rd_T90 y305 x5_1).f5, (rd_T90 y305 x5_1).f6⟩ : S90)) := ⟨_, rfl⟩
    replace H : ((some (y306.set (x5_1 : Int).toNat (⟨(rd_T90 y306 x5_1).f0, (rd_T90 y306 x5_1).f1, wrap64 ((wrap64 (x1_1 + 1)) + 1), (rd_T90 y306 x5_1).f3, (rd_T90 y306 x5_1).f4, (rd_T90 y306 x5_1).f5, (rd_T90 y306 x5_1).f6⟩ : S90) : List (S90))).bind fun y307 => ((some (y307.set (x5_1 : Int).toNat (⟨(rd_T90 y307 x5_1).f0, (rd_T90 y307 x5_1).f1, (rd_T90 y307 x5_1).f2, wrap64 ((wrap64 ((wrap64 (x1_1 + 1)) + 1)) + 1), (rd_T90 y307 x5_1).f4, (rd_T90 y307 x5_1).f5, (rd_T90 y307 x5_1).f6⟩ : S90) : List (S90))).bind fun y308 => ((some (y308.set (x5_1 : Int).toNat (⟨(rd_T90 y308 x5_1).f0, (rd_T90 y308 x5_1).f1, (rd_T90 y308 x5_1).f2, (rd_T90 y308 x5_1).f3, wrap64 ((wrap64 ((wrap64 ((wrap64 (x1_1 + 1)) + 1)) + 1)) + 1), (rd_T90 y308 x5_1).f5, (rd_T90 y308 x5_1).f6⟩ : S90) : List (S90))).bind fun y309 => ((some (y309.set (x5_1 : Int).toNat (⟨(rd_T90 y309 x5_1).f0, (rd_T90 y309 x5_1).f1, (rd_T90 y309 x5_1).f2, (rd_T90 y309 x5_1).f3, (rd_T90 y309 x5_1).f4, wrap64 ((wrap64 ((wrap64 ((wrap64 ((wrap64 (x1_1 + 1)) + 1)) + 1)) + 1)) + 1), (rd_T90 y309 x5_1).f6⟩ : S90) : List (S90))).bind fun y310 => (laws_markDomNodeS.l0 k1 (y310.set (x5_1 : Int).toNat (⟨(rd_T90 y310 x5_1).f0, (rd_T90 y310 x5_1).f1, (rd_T90 y310 x5_1).f2, (rd_T90 y310 x5_1).f3, (rd_T90 y310 x5_1).f4, (rd_T90 y310 x5_1).f5, wrap64 ((wrap64 ((wrap64 ((wrap64 ((wrap64 ((wrap64 (x1_1 + 1)) + 1)) + 1)) + 1)) + 1)) + 1)⟩ : S90)) (wrap64 ((wrap64 ((wrap64 ((wrap64 ((wrap64 ((wrap64 ((wrap64 (x1_1 + 1)) + 1)) + 1)) + 1)) + 1)) + 1)) + 1)) (wrap64 (x5_1 + 1))))))) = some (r1, r2) := by first | (rw [hy306]; with_reducible exact H) | (have H2_ := (Option.bind_some _ _).symm.trans H; rw [hy306]; with_reducible exact H2_) | (have H2_ := (Option.bind_some _ _).symm.trans H; with_reducible exact H2_) | with_reducible exact H | (rw [hy306]; exact H) | exact H
    have Ny306 := Aside0.mk hy306
    clear hy306
    obtain ⟨y307, hy307⟩ : ∃ y_ : List (S90), y_ = (y306.set (x5_1 : Int).toNat (⟨(rd_T90 y306 x5_1).f0, (rd_T90 y306 x5_1).f1, wrap64 ((wrap64 (x1_1 + 1)) + 1), (rd_T90 y306 x5_1).f3, (rd_T90 y306 x5_1).f4, (rd_T90 y306 x5_1).f5, (rd_T90 y306 x5_1).f6⟩ : S90)) := ⟨_, rfl⟩
    replace H : ((some (y307.set (x5_1 : Int).toNat (⟨(rd_T90 y307 x5_1).f0, (rd_T90 y307 x5_1).f1, (rd_T90 y307 x5_1).f2, wrap64 ((wrap64 ((wrap64 (x1_1 + 1)) + 1)) + 1), (rd_T90 y307 x5_1).f4, (rd_T90 y307 x5_1).f5, (rd_T90 y307 x5_1).f6⟩ : S90) : List (S90))).bind fun y308 => ((some (y308.set (x5_1 : Int).toNat (⟨(rd_T90 y308 x5_1).f0, (rd_T90 y308 x5_1).f1, (rd_T90 y308 x5_1).f2, (rd_T90 y308 x5_1).f3, wrap64 ((wrap64 ((wrap64 ((wrap64 (x1_1 + 1)) + 1)) + 1)) + 1), (rd_T90 y308 x5_1).f5, (rd_T90 y308 x5_1).f6⟩ : S90) : List (S90))).bind fun y309 => ((some (y309.set (x5_1 : Int).toNat (⟨(rd_T90 y309 x5_1).f0, (rd_T90 y309 x5_1).f1, (rd_T90 y309 x5_1).f2, (rd_T90 y309 x5_1).f3, (rd_T90 y309 x5_1).f4, wrap64 ((wrap64 ((wrap64 ((wrap64 ((wrap64 (x1_1 + 1)) + 1)) + 1)) + 1)) + 1), (rd_T90 y309 x5_1).f6⟩ : S90) : List (S90))).bind fun y310 => (laws_markDomNodeS.l0 k1 (y310.set (x5_1 : Int).toNat (⟨(rd_T90 y310 x5_1).f0, (rd_T90 y310 x5_1).f1, (rd_T90 y310 x5_1).f2, (rd_T90 y310 x5_1).f3, (rd_T90 y310 x5_1).f4, (rd_T90 y310 x5_1).f5, wrap64 ((wrap64 ((wrap64 ((wrap64 ((wrap64 ((wrap64 (x1_1 + 1)) + 1)) + 1)) + 1)) + 1)) + 1)⟩ : S90)) (wrap64 ((wrap64 ((wrap64 ((wrap64 ((wrap64 ((wrap64 ((wrap64 (x1_1 + 1)) + 1)) + 1)) + 1)) + 1)) + 1)) + 1)) (wrap64 (x5_1 + 1)))))) = some (r1, r2) := by first | (rw [hy307]; with_reducible exact H) | (have H2_ := (Option.bind_some _ _).symm.trans H; rw [hy307]; with_reducible exact H2_) | (have H2_ := (Option.bind_some _ _).symm.trans H; with_reducible exact H2_) | with_reducible exact H | (rw [hy307]; exact H) | exact H
    have Ny307 := Aside0.mk hy307
    clear hy307
    obtain ⟨y308, hy308⟩ : ∃ y_ : List (S90), y_ = (y307.set (x5_1 : Int).toNat (⟨(rd_T90 y307 x5_1).f0, (rd_T90 y307 x5_1).f1, (rd_T90 y307 x5_1).f2, wrap64 ((wrap64 ((wrap64 (x1_1 + 1)) + 1)) + 1), (rd_T90 y307 x5_1).f4, (rd_T90 y307 x5_1).f5, (rd_T90 y307 x5_1).f6⟩ : S90)) := ⟨_, rfl⟩
    replace H : ((some (y308.set (x5_1 : Int).toNat (⟨(rd_T90 y308 x5_1).f0, (rd_T90 y308 x5_1).f1, (rd_T90 y308 x5_1).f2, (rd_T90 y308 x5_1).f3, wrap64 ((wrap64 ((wrap64 ((wrap64 (x1_1 + 1)) + 1)) + 1)) + 1), (rd_T90 y308 x5_1).f5, (rd_T90 y308 x5_1).f6⟩ : S90) : List (S90))).bind fun y309 => ((some (y309.set (x5_1 : Int).toNat (⟨(rd_T90 y309 x5_1).f0, (rd_T90 y309 x5_1).f1, (rd_T90 y309 x5_1).f2, (rd_T90 y309 x5_1).f3, (rd_T90 y309 x5_1).f4, wrap64 ((wrap64 ((wrap64 ((wrap64 ((wrap64 (x1_1 + 1)) + 1)) + 1)) + 1)) + 1), (rd_T90 y309 x5_1).f6⟩ : S90) : List (S90))).bind fun y310 => (laws_markDomNodeS.l0 k1 (y310.set (x5_1 : Int).toNat (⟨(rd_T90 y310 x5_1).f0, (rd_T90 y310 x5_1).f1, (rd_T90 y310 x5_1).f2, (rd_T90 y310 x5_1).f3, (rd_T90 y310 x5_1).f4, (rd_T90 y310 x5_1).f5, wrap64 ((wrap64 ((wrap64 ((wrap64 ((wrap64 ((wrap64 (x1_1 + 1)) + 1)) + 1)) + 1)) + 1)) + 1)⟩ : S90)) (wrap64 ((wrap64 ((wrap64 ((wrap64 ((wrap64 ((wrap64 ((wrap64 (x1_1 + 1)) + 1)) + 1)) + 1)) + 1)) + 1)) + 1)) (wrap64 (x5_1 + 1))))) = some (r1, r2) := by first | (rw [hy308]; with_reducible exact H) | (have H2_ := (Option.bind_some _ _).symm.trans H; rw [hy308]; with_reducible exact H2_) | (have H2_ := (Option.bind_some _ _).symm.trans H; with_reducible exact H2_) | with_reducible exact H | (rw [hy308]; exact H) | exact H
    have Ny308 := Aside0.mk hy308
    clear hy308
    obtain ⟨y309, hy309⟩ : ∃ y_ : List (S90), y_ = (y308.set (x5_1 : Int).toNat (⟨(rd_T90 y308 x5_1).f0, (rd_T90 y308 x5_1).f1, (rd_T90 y308 x5_1).f2, (rd_T90 y308 x5_1).f3, wrap64 ((wrap64 ((wrap64 ((wrap64 (x1_1 + 1)) + 1)) + 1)) + 1), (rd_T90 y308 x5_1).f5, (rd_T90 y308 x5_1).f6⟩ : S90)) := ⟨_, rfl⟩
    replace H : ((some (y309.set (x5_1 : Int).toNat (⟨(rd_T90 y309 x5_1).f0, (rd_T90 y309 x5_1).f1, (rd_T90 y309 x5_1).f2, (rd_T90 y309 x5_1).f3, (rd_T90 y309 x5_1).f4, wrap64 ((wrap64 ((wrap64 ((wrap64 ((wrap64 (x1_1 + 1)) + 1)) + 1)) + 1)) + 1), (rd_T90 y309 x5_1).f6⟩ : S90) : List (S90))).bind fun y310 => (laws_markDomNodeS.l0 k1 (y310.set (x5_1 : Int).toNat (⟨(rd_T90 y310 x5_1).f0, (rd_T90 y310 x5_1).f1, (rd_T90 y310 x5_1).f2, (rd_T90 y310 x5_1).f3, (rd_T90 y310 x5_1).f4, (rd_T90 y310 x5_1).f5, wrap64 ((wrap64 ((wrap64 ((wrap64 ((wrap64 ((wrap64 (x1_1 + 1)) + 1)) + 1)) + 1)) + 1)) + 1)⟩ : S90)) (wrap64 ((wrap64 ((wrap64 ((wrap64 ((wrap64 ((wrap64 ((wrap64 (x1_1 + 1)) + 1)) + 1)) + 1)) + 1)) + 1)) + 1)) (wrap64 (x5_1 + 1)))) = some (r1, r2) := by first | (rw [hy309]; with_reducible exact H) | (have H2_ := (Option.bind_some _ _).symm.trans H; rw [hy309]; with_reducible exact H2_) | (have H2_ := (Option.bind_some _ _).symm.trans H; with_reducible exact H2_) | with_reducible exact H | (rw [hy309]; exact H) | exact H
    have Ny309 := Aside0.mk hy309
    clear hy309
    obtain ⟨y310, hy310⟩ : ∃ y_ : List (S90), y_ = (y309.set (x5_1 : Int).toNat (⟨(rd_T90 y309 x5_1).f0, (rd_T90 y309 x5_1).f1, (rd_T90 y309 x5_1).f2, (rd_T90 y309 x5_1).f3, (rd_T90 y309 x5_1).f4, wrap64 ((wrap64 ((wrap64 ((wrap64 ((wrap64 (x1_1 + 1)) + 1)) + 1)) + 1)) + 1), (rd_T90 y309 x5_1).f6⟩ : S90)) := ⟨_, rfl⟩
    replace H : (laws_markDomNodeS.l0 k1 (y310.set (x5_1 : Int).toNat (⟨(rd_T90 y310 x5_1).f0, (rd_T90 y310 x5_1).f1, (rd_T90 y310 x5_1).f2, (rd_T90 y310 x5_1).f3, (rd_T90 y310 x5_1).f4, (rd_T90 y310 x5_1).f5, wrap64 ((wrap64 ((wrap64 ((wrap64 ((wrap64 ((wrap64 (x1_1 + 1)) + 1)) + 1)) + 1)) + 1)) + 1)⟩ : S90)) (wrap64 ((wrap64 ((wrap64 ((wrap64 ((wrap64 ((wrap64 ((wrap64 (x1_1 + 1)) + 1)) + 1)) + 1)) + 1)) + 1)) + 1)) (wrap64 (x5_1 + 1))) = some (r1, r2) := by first | (rw [hy310]; with_reducible exact H) | (have H2_ := (Option.bind_some _ _).symm.trans H; rw [hy310]; with_reducible exact H2_) | (have H2_ := (Option.bind_some _ _).symm.trans H; with_reducible exact H2_) | with_reducible exact H | (rw [hy310]; exact H) | exact H
    have Ny310 := Aside0.mk hy310
    clear hy310
    obtain ⟨y311, hy311⟩ : ∃ y_ : List (S90), y_ = (y310.set (x5_1 : Int).toNat (⟨(rd_T90 y310 x5_1).f0, (rd_T90 y310 x5_1).f1, (rd_T90 y310 x5_1).f2, (rd_T90 y310 x5_1).f3, (rd_T90 y310 x5_1).f4, (rd_T90 y310 x5_1).f5, wrap64 ((wrap64 ((wrap64 ((wrap64 ((wrap64 ((wrap64 (x1_1 + 1)) + 1)) + 1)) + 1)) + 1)) + 1)⟩ : S90)) := ⟨_, rfl⟩
    replace H : (laws_markDomNodeS.l0 k1 y311 (wrap64 ((wrap64 ((wrap64 ((wrap64 ((wrap64 ((wrap64 ((wrap64 (x1_1 + 1)) + 1)) + 1)) + 1)) + 1)) + 1)) + 1)) (wrap64 (x5_1 + 1))) = some (r1, r2) := by first | (rw [hy311]; with_reducible exact H) | (have H2_ := (Option.bind_some _ _).symm.trans H; rw [hy311]; with_reducible exact H2_) | (have H2_ := (Option.bind_some _ _).symm.trans H; with_reducible exact H2_) | with_reducible exact H | (rw [hy311]; exact H) | exact H
    have Ny311 := Aside0.mk hy311
    clear hy311
    have H' := Aside0.mk H
    clear H
    obtain ⟨Ao12, co12, eo12⟩ := Kd.R_slice HO_0.out
    subst eo12
    have p5 : 0 ≤ (x5_1 : Int) := odt_
    have q5 : (x5_1 : Int) < ((x0_1.length : Int) : Int) := odt_
    obtain ⟨go5, co5, eo5, gb5, gl5, cl5, HG5⟩ := Kd.R_form HO_0.out (by omega)
    (first | cases eo5 | (injection eo5 with ea_ en_ ec_; (first | subst ea_ | (injection ea_ with ea_; subst ea_)); subst ec_; clear en_))
    have GB5 := Aside0.mk gb5
    have GG5 := Aside0.mk HG5
    clear gb5 gl5 HG5
    have HMgo5 := Aside0.mk (show (P0_ go5 ∨ w.heap.size ≤ go5) from (HO_0.out.1 _ rfl))
    obtain ⟨ce5, hcl5, hM5, hcc5, hfr5⟩ := Kd.R_elem HO_0.out z90 (x5_1 : Int) p5 q5
    obtain rfl := k90_openM hM5
    have hx5_0 : wr.cell? ⟨go5, (x5_1 : Int).toNat * 7, none⟩ = some (.bool ((rd_T90 x0_1 x5_1).f0)) := hcc5 0 _ rfl
    have hx5_1 : wr.cell? ⟨go5, (x5_1 : Int).toNat * 7 + 1, none⟩ = some (.int .i64 ((rd_T90 x0_1 x5_1).f1)) := hcc5 1 _ rfl
    have hx5_2 : wr.cell? ⟨go5, (x5_1 : Int).toNat * 7 + 2, none⟩ = some (.int .i64 ((rd_T90 x0_1 x5_1).f2)) := hcc5 2 _ rfl
    have hx5_3 : wr.cell? ⟨go5, (x5_1 : Int).toNat * 7 + 3, none⟩ = some (.int .i64 ((rd_T90 x0_1 x5_1).f3)) := hcc5 3 _ rfl
    have hx5_4 : wr.cell? ⟨go5, (x5_1 : Int).toNat * 7 + 4, none⟩ = some (.int .i64 ((rd_T90 x0_1 x5_1).f4)) := hcc5 4 _ rfl
    have hx5_5 : wr.cell? ⟨go5, (x5_1 : Int).toNat * 7 + 5, none⟩ = some (.int .i64 ((rd_T90 x0_1 x5_1).f5)) := hcc5 5 _ rfl
    have hx5_6 : wr.cell? ⟨go5, (x5_1 : Int).toNat * 7 + 6, none⟩ = some (.int .i64 ((rd_T90 x0_1 x5_1).f6)) := hcc5 6 _ rfl
    have hf5_0 : wr.frozen? ⟨go5, (x5_1 : Int).toNat * 7, none⟩ = false := hfr5 0
    have hf5_1 : wr.frozen? ⟨go5, (x5_1 : Int).toNat * 7 + 1, none⟩ = false := hfr5 1
    have hf5_2 : wr.frozen? ⟨go5, (x5_1 : Int).toNat * 7 + 2, none⟩ = false := hfr5 2
    have hf5_3 : wr.frozen? ⟨go5, (x5_1 : Int).toNat * 7 + 3, none⟩ = false := hfr5 3
    have hf5_4 : wr.frozen? ⟨go5, (x5_1 : Int).toNat * 7 + 4, none⟩ = false := hfr5 4
    have hf5_5 : wr.frozen? ⟨go5, (x5_1 : Int).toNat * 7 + 5, none⟩ = false := hfr5 5
    have hf5_6 : wr.frozen? ⟨go5, (x5_1 : Int).toNat * 7 + 6, none⟩ = false := hfr5 6
    clear hcl5 hcc5 hfr5 hM5
    replace p5 := eq_true p5
    replace q5 := eq_true q5
    have HX13 := Aside0.mk (show Kd.R k90 90 wr w0.heap.size (fun k_ => (P0_ k_ ∨ w.heap.size ≤ k_)) (.slice (some ⟨go5, 0, none⟩) x0_1.length co12) x0_1 from z87_)
    obtain ⟨ce13, hcl13, hM13, hcc13, hfr13⟩ := Kd.R_elem HX13.out z90 (x5_1 : Int) (odt_) (by have h_ : (x5_1 : Int) < ((x0_1.length : Int) : Int) := odt_; first | exact h_ | (have e_ := (Kd.R_reads' HO_0.out).1; omega) | simpa using h_)
    obtain rfl := k90_openM hM13
    have HP13 := Kd.R_seg HX13.out (x5_1 : Int) (odt_) (by have h_ : (x5_1 : Int) < ((x0_1.length : Int) : Int) := odt_; first | exact h_ | (have e_ := (Kd.R_reads' HO_0.out).1; omega) | simpa using h_) (seg := [.bool ((Int.tmod x1_1 3) == 0)]) (j := 0) hcl13 hcc13 (show 1 ≤ 7 from by decide) (x' := (⟨((Int.tmod x1_1 3) == 0), (rd_T90 x0_1 x5_1).f1, (rd_T90 x0_1 x5_1).f2, (rd_T90 x0_1 x5_1).f3, (rd_T90 x0_1 x5_1).f4, (rd_T90 x0_1 x5_1).f5, (rd_T90 x0_1 x5_1).f6⟩ : S90)) (k90_mkM _ _ _ (⟨((Int.tmod x1_1 3) == 0), (rd_T90 x0_1 x5_1).f1, (rd_T90 x0_1 x5_1).f2, (rd_T90 x0_1 x5_1).f3, (rd_T90 x0_1 x5_1).f4, (rd_T90 x0_1 x5_1).f5, (rd_T90 x0_1 x5_1).f6⟩ : S90) ) (fun _ hk => hk)
    have hx13_0 := hcc13 0 _ rfl
    (try simp only [show (k90).sz = 7 from rfl, Nat.mul_one, Nat.add_zero] at hx13_0)
    have hf13_0 := hfr13 0
    (try simp only [show (k90).sz = 7 from rfl, Nat.mul_one, Nat.add_zero] at hf13_0)
    clear hcl13 hcc13 hfr13 hM13
    go_wp2_with (first | ((with_reducible refine gate_store (t := 4) (p := 18) rfl ?_); refine store_event (t := 4) (p := 18) (v := ?vo_w14) (w1 := (wr.setCell ⟨go5, (x5_1 : Int).toNat * 7, none⟩ (.bool ((Int.tmod x1_1 3) == 0)))) ?hg ?ho ?hn ?hr ?_; (case ho => rfl); (case hg => rfl); (case hn => rfl); (case hr => exact z20_); intro w14 hw; have hg : wr.grownBy w14 (some go5) := (by rw [hw]; exact HP13.2); have hp_ : Kd.R k90 90 w14 w0.heap.size (fun k_ => (P0_ k_ ∨ w.heap.size ≤ k_)) (.slice (some ⟨go5, 0, none⟩) x0_1.length co12) y305 := (by rw [hw, Ny305.out]; exact HP13.1); clear HP13; replace HB := Aside0.mk ((by rw [hw]; exact below_set (HB.out) GB5.out : Below w0.heap.size w0 w14)); replace HK := Aside0.mk (Kept.of_grown (S := (fun k_ => P0_ k_)) hg z51_ (fun k_ e_ => (HO_0.out.1 k_ e_))); replace HO_0 := Aside0.mk (hp_); clear hg hw hp_; have p6 : 0 ≤ (x5_1 : Int) := odt_; have q6 : (x5_1 : Int) < ((x0_1.length : Int) : Int) := odt_; obtain ⟨ce6, hcl6, hM6, hcc6, hfr6⟩ := Kd.R_elem HO_0.out z90 (x5_1 : Int) p6 q6; obtain rfl := k90_openM hM6; have hx6_0 : w14.cell? ⟨go5, (x5_1 : Int).toNat * 7, none⟩ = some (.bool ((rd_T90 y305 x5_1).f0)) := hcc6 0 _ rfl; have hx6_1 : w14.cell? ⟨go5, (x5_1 : Int).toNat * 7 + 1, none⟩ = some (.int .i64 ((rd_T90 y305 x5_1).f1)) := hcc6 1 _ rfl; have hx6_2 : w14.cell? ⟨go5, (x5_1 : Int).toNat * 7 + 2, none⟩ = some (.int .i64 ((rd_T90 y305 x5_1).f2)) := hcc6 2 _ rfl; have hx6_3 : w14.cell? ⟨go5, (x5_1 : Int).toNat * 7 + 3, none⟩ = some (.int .i64 ((rd_T90 y305 x5_1).f3)) := hcc6 3 _ rfl; have hx6_4 : w14.cell? ⟨go5, (x5_1 : Int).toNat * 7 + 4, none⟩ = some (.int .i64 ((rd_T90 y305 x5_1).f4)) := hcc6 4 _ rfl; have hx6_5 : w14.cell? ⟨go5, (x5_1 : Int).toNat * 7 + 5, none⟩ = some (.int .i64 ((rd_T90 y305 x5_1).f5)) := hcc6 5 _ rfl; have hx6_6 : w14.cell? ⟨go5, (x5_1 : Int).toNat * 7 + 6, none⟩ = some (.int .i64 ((rd_T90 y305 x5_1).f6)) := hcc6 6 _ rfl; have hf6_0 : w14.frozen? ⟨go5, (x5_1 : Int).toNat * 7, none⟩ = false := hfr6 0; have hf6_1 : w14.frozen? ⟨go5, (x5_1 : Int).toNat * 7 + 1, none⟩ = false := hfr6 1; have hf6_2 : w14.frozen? ⟨go5, (x5_1 : Int).toNat * 7 + 2, none⟩ = false := hfr6 2; have hf6_3 : w14.frozen? ⟨go5, (x5_1 : Int).toNat * 7 + 3, none⟩ = false := hfr6 3; have hf6_4 : w14.frozen? ⟨go5, (x5_1 : Int).toNat * 7 + 4, none⟩ = false := hfr6 4; have hf6_5 : w14.frozen? ⟨go5, (x5_1 : Int).toNat * 7 + 5, none⟩ = false := hfr6 5; have hf6_6 : w14.frozen? ⟨go5, (x5_1 : Int).toNat * 7 + 6, none⟩ = false := hfr6 6; clear hcl6 hcc6 hfr6 hM6; replace p6 := eq_true p6; replace q6 := eq_true q6; have HX15 := Aside0.mk (show Kd.R k90 90 w14 w0.heap.size (fun k_ => (P0_ k_ ∨ w.heap.size ≤ k_)) (.slice (some ⟨go5, 0, none⟩) x0_1.length co12) y305 from z87_); obtain ⟨ce15, hcl15, hM15, hcc15, hfr15⟩ := Kd.R_elem HX15.out z90 (x5_1 : Int) (odt_) (by have h_ : (x5_1 : Int) < ((x0_1.length : Int) : Int) := odt_; first | exact h_ | (have e_ := (Kd.R_reads' HO_0.out).1; omega) | simpa using h_); obtain rfl := k90_openM hM15; have HP15 := Kd.R_seg HX15.out (x5_1 : Int) (odt_) (by have h_ : (x5_1 : Int) < ((x0_1.length : Int) : Int) := odt_; first | exact h_ | (have e_ := (Kd.R_reads' HO_0.out).1; omega) | simpa using h_) (seg := [.int .i64 (wrap64 (x1_1 + 1))]) (j := 1) hcl15 hcc15 (show 2 ≤ 7 from by decide) (x' := (⟨(rd_T90 y305 x5_1).f0, wrap64 (x1_1 + 1), (rd_T90 y305 x5_1).f2, (rd_T90 y305 x5_1).f3, (rd_T90 y305 x5_1).f4, (rd_T90 y305 x5_1).f5, (rd_T90 y305 x5_1).f6⟩ : S90)) (k90_mkM _ _ _ (⟨(rd_T90 y305 x5_1).f0, wrap64 (x1_1 + 1), (rd_T90 y305 x5_1).f2, (rd_T90 y305 x5_1).f3, (rd_T90 y305 x5_1).f4, (rd_T90 y305 x5_1).f5, (rd_T90 y305 x5_1).f6⟩ : S90) ) (fun _ hk => hk); have hx15_1 := hcc15 1 _ rfl; (try simp only [show (k90).sz = 7 from rfl, Nat.mul_one, Nat.add_zero] at hx15_1); have hf15_1 := hfr15 1; (try simp only [show (k90).sz = 7 from rfl, Nat.mul_one, Nat.add_zero] at hf15_1); clear hcl15 hcc15 hfr15 hM15) | ((with_reducible refine gate_store (t := 3) (p := 25) rfl ?_); refine store_event (t := 3) (p := 25) (v := ?vo_w16) (w1 := (w14.setCell ⟨go5, (x5_1 : Int).toNat * 7 + 1, none⟩ (.int .i64 (wrap64 (x1_1 + 1))))) ?hg ?ho ?hn ?hr ?_; (case ho => rfl); (case hg => rfl); (case hn => rfl); (case hr => exact z20_); intro w16 hw; have hg : w14.grownBy w16 (some go5) := (by rw [hw]; exact HP15.2); have hp_ : Kd.R k90 90 w16 w0.heap.size (fun k_ => (P0_ k_ ∨ w.heap.size ≤ k_)) (.slice (some ⟨go5, 0, none⟩) x0_1.length co12) y306 := (by rw [hw, Ny306.out]; exact HP15.1); clear HP15; replace HB := Aside0.mk ((by rw [hw]; exact below_set (HB.out) GB5.out : Below w0.heap.size w0 w16)); replace HK := Aside0.mk (Kept.of_grown (S := (fun k_ => P0_ k_)) hg z51_ (fun k_ e_ => (HO_0.out.1 k_ e_))); replace HO_0 := Aside0.mk (hp_); clear hg hw hp_; have p7 : 0 ≤ (x5_1 : Int) := odt_; have q7 : (x5_1 : Int) < ((x0_1.length : Int) : Int) := odt_; obtain ⟨ce7, hcl7, hM7, hcc7, hfr7⟩ := Kd.R_elem HO_0.out z90 (x5_1 : Int) p7 q7; obtain rfl := k90_openM hM7; have hx7_0 : w16.cell? ⟨go5, (x5_1 : Int).toNat * 7, none⟩ = some (.bool ((rd_T90 y306 x5_1).f0)) := hcc7 0 _ rfl; have hx7_1 : w16.cell? ⟨go5, (x5_1 : Int).toNat * 7 + 1, none⟩ = some (.int .i64 ((rd_T90 y306 x5_1).f1)) := hcc7 1 _ rfl; have hx7_2 : w16.cell? ⟨go5, (x5_1 : Int).toNat * 7 + 2, none⟩ = some (.int .i64 ((rd_T90 y306 x5_1).f2)) := hcc7 2 _ rfl; have hx7_3 : w16.cell? ⟨go5, (x5_1 : Int).toNat * 7 + 3, none⟩ = some (.int .i64 ((rd_T90 y306 x5_1).f3)) := hcc7 3 _ rfl; have hx7_4 : w16.cell? ⟨go5, (x5_1 : Int).toNat * 7 + 4, none⟩ = some (.int .i64 ((rd_T90 y306 x5_1).f4)) := hcc7 4 _ rfl; have hx7_5 : w16.cell? ⟨go5, (x5_1 : Int).toNat * 7 + 5, none⟩ = some (.int .i64 ((rd_T90 y306 x5_1).f5)) := hcc7 5 _ rfl; have hx7_6 : w16.cell? ⟨go5, (x5_1 : Int).toNat * 7 + 6, none⟩ = some (.int .i64 ((rd_T90 y306 x5_1).f6)) := hcc7 6 _ rfl; have hf7_0 : w16.frozen? ⟨go5, (x5_1 : Int).toNat * 7, none⟩ = false := hfr7 0; have hf7_1 : w16.frozen? ⟨go5, (x5_1 : Int).toNat * 7 + 1, none⟩ = false := hfr7 1; have hf7_2 : w16.frozen? ⟨go5, (x5_1 : Int).toNat * 7 + 2, none⟩ = false := hfr7 2; have hf7_3 : w16.frozen? ⟨go5, (x5_1 : Int).toNat * 7 + 3, none⟩ = false := hfr7 3; have hf7_4 : w16.frozen? ⟨go5, (x5_1 : Int).toNat * 7 + 4, none⟩ = false := hfr7 4; have hf7_5 : w16.frozen? ⟨go5, (x5_1 : Int).toNat * 7 + 5, none⟩ = false := hfr7 5; have hf7_6 : w16.frozen? ⟨go5, (x5_1 : Int).toNat * 7 + 6, none⟩ = false := hfr7 6; clear hcl7 hcc7 hfr7 hM7; replace p7 := eq_true p7; replace q7 := eq_true q7; have HX17 := Aside0.mk (show Kd.R k90 90 w16 w0.heap.size (fun k_ => (P0_ k_ ∨ w.heap.size ≤ k_)) (.slice (some ⟨go5, 0, none⟩) x0_1.length co12) y306 from z87_); obtain ⟨ce17, hcl17, hM17, hcc17, hfr17⟩ := Kd.R_elem HX17.out z90 (x5_1 : Int) (odt_) (by have h_ : (x5_1 : Int) < ((x0_1.length : Int) : Int) := odt_; first | exact h_ | (have e_ := (Kd.R_reads' HO_0.out).1; omega) | simpa using h_); obtain rfl := k90_openM hM17; have HP17 := Kd.R_seg HX17.out (x5_1 : Int) (odt_) (by have h_ : (x5_1 : Int) < ((x0_1.length : Int) : Int) := odt_; first | exact h_ | (have e_ := (Kd.R_reads' HO_0.out).1; omega) | simpa using h_) (seg := [.int .i64 (wrap64 ((wrap64 (x1_1 + 1)) + 1))]) (j := 2) hcl17 hcc17 (show 3 ≤ 7 from by decide) (x' := (⟨(rd_T90 y306 x5_1).f0, (rd_T90 y306 x5_1).f1, wrap64 ((wrap64 (x1_1 + 1)) + 1), (rd_T90 y306 x5_1).f3, (rd_T90 y306 x5_1).f4, (rd_T90 y306 x5_1).f5, (rd_T90 y306 x5_1).f6⟩ : S90)) (k90_mkM _ _ _ (⟨(rd_T90 y306 x5_1).f0, (rd_T90 y306 x5_1).f1, wrap64 ((wrap64 (x1_1 + 1)) + 1), (rd_T90 y306 x5_1).f3, (rd_T90 y306 x5_1).f4, (rd_T90 y306 x5_1).f5, (rd_T90 y306 x5_1).f6⟩ : S90) ) (fun _ hk => hk); have hx17_2 := hcc17 2 _ rfl; (try simp only [show (k90).sz = 7 from rfl, Nat.mul_one, Nat.add_zero] at hx17_2); have hf17_2 := hfr17 2; (try simp only [show (k90).sz = 7 from rfl, Nat.mul_one, Nat.add_zero] at hf17_2); clear hcl17 hcc17 hfr17 hM17) | ((with_reducible refine gate_store (t := 3) (p := 32) rfl ?_); refine store_event (t := 3) (p := 32) (v := ?vo_w18) (w1 := (w16.setCell ⟨go5, (x5_1 : Int).toNat * 7 + 2, none⟩ (.int .i64 (wrap64 ((wrap64 (x1_1 + 1)) + 1))))) ?hg ?ho ?hn ?hr ?_; (case ho => rfl); (case hg => rfl); (case hn => rfl); (case hr => exact z20_); intro w18 hw; have hg : w16.grownBy w18 (some go5) := (by rw [hw]; exact HP17.2); have hp_ : Kd.R k90 90 w18 w0.heap.size (fun k_ => (P0_ k_ ∨ w.heap.size ≤ k_)) (.slice (some ⟨go5, 0, none⟩) x0_1.length co12) y307 := (by rw [hw, Ny307.out]; exact HP17.1); clear HP17; replace HB := Aside0.mk ((by rw [hw]; exact below_set (HB.out) GB5.out : Below w0.heap.size w0 w18)); replace HK := Aside0.mk (Kept.of_grown (S := (fun k_ => P0_ k_)) hg z51_ (fun k_ e_ => (HO_0.out.1 k_ e_))); replace HO_0 := Aside0.mk (hp_); clear hg hw hp_; have p8 : 0 ≤ (x5_1 : Int) := odt_; have q8 : (x5_1 : Int) < ((x0_1.length : Int) : Int) := odt_; obtain ⟨ce8, hcl8, hM8, hcc8, hfr8⟩ := Kd.R_elem HO_0.out z90 (x5_1 : Int) p8 q8; obtain rfl := k90_openM hM8; have hx8_0 : w18.cell? ⟨go5, (x5_1 : Int).toNat * 7, none⟩ = some (.bool ((rd_T90 y307 x5_1).f0)) := hcc8 0 _ rfl; have hx8_1 : w18.cell? ⟨go5, (x5_1 : Int).toNat * 7 + 1, none⟩ = some (.int .i64 ((rd_T90 y307 x5_1).f1)) := hcc8 1 _ rfl; have hx8_2 : w18.cell? ⟨go5, (x5_1 : Int).toNat * 7 + 2, none⟩ = some (.int .i64 ((rd_T90 y307 x5_1).f2)) := hcc8 2 _ rfl; have hx8_3 : w18.cell? ⟨go5, (x5_1 : Int).toNat * 7 + 3, none⟩ = some (.int .i64 ((rd_T90 y307 x5_1).f3)) := hcc8 3 _ rfl; have hx8_4 : w18.cell? ⟨go5, (x5_1 : Int).toNat * 7 + 4, none⟩ = some (.int .i64 ((rd_T90 y307 x5_1).f4)) := hcc8 4 _ rfl; have hx8_5 : w18.cell? ⟨go5, (x5_1 : Int).toNat * 7 + 5, none⟩ = some (.int .i64 ((rd_T90 y307 x5_1).f5)) := hcc8 5 _ rfl; have hx8_6 : w18.cell? ⟨go5, (x5_1 : Int).toNat * 7 + 6, none⟩ = some (.int .i64 ((rd_T90 y307 x5_1).f6)) := hcc8 6 _ rfl; have hf8_0 : w18.frozen? ⟨go5, (x5_1 : Int).toNat * 7, none⟩ = false := hfr8 0; have hf8_1 : w18.frozen? ⟨go5, (x5_1 : Int).toNat * 7 + 1, none⟩ = false := hfr8 1; have hf8_2 : w18.frozen? ⟨go5, (x5_1 : Int).toNat * 7 + 2, none⟩ = false := hfr8 2; have hf8_3 : w18.frozen? ⟨go5, (x5_1 : Int).toNat * 7 + 3, none⟩ = false := hfr8 3; have hf8_4 : w18.frozen? ⟨go5, (x5_1 : Int).toNat * 7 + 4, none⟩ = false := hfr8 4; have hf8_5 : w18.frozen? ⟨go5, (x5_1 : Int).toNat * 7 + 5, none⟩ = false := hfr8 5; have hf8_6 : w18.frozen? ⟨go5, (x5_1 : Int).toNat * 7 + 6, none⟩ = false := hfr8 6; clear hcl8 hcc8 hfr8 hM8; replace p8 := eq_true p8; replace q8 := eq_true q8; have HX19 := Aside0.mk (show Kd.R k90 90 w18 w0.heap.size (fun k_ => (P0_ k_ ∨ w.heap.size ≤ k_)) (.slice (some ⟨go5, 0, none⟩) x0_1.length co12) y307 from z87_); obtain ⟨ce19, hcl19, hM19, hcc19, hfr19⟩ := Kd.R_elem HX19.out z90 (x5_1 : Int) (odt_) (by have h_ : (x5_1 : Int) < ((x0_1.length : Int) : Int) := odt_; first | exact h_ | (have e_ := (Kd.R_reads' HO_0.out).1; omega) | simpa using h_); obtain rfl := k90_openM hM19; have HP19 := Kd.R_seg HX19.out (x5_1 : Int) (odt_) (by have h_ : (x5_1 : Int) < ((x0_1.length : Int) : Int) := odt_; first | exact h_ | (have e_ := (Kd.R_reads' HO_0.out).1; omega) | simpa using h_) (seg := [.int .i64 (wrap64 ((wrap64 ((wrap64 (x1_1 + 1)) + 1)) + 1))]) (j := 3) hcl19 hcc19 (show 4 ≤ 7 from by decide) (x' := (⟨(rd_T90 y307 x5_1).f0, (rd_T90 y307 x5_1).f1, (rd_T90 y307 x5_1).f2, wrap64 ((wrap64 ((wrap64 (x1_1 + 1)) + 1)) + 1), (rd_T90 y307 x5_1).f4, (rd_T90 y307 x5_1).f5, (rd_T90 y307 x5_1).f6⟩ : S90)) (k90_mkM _ _ _ (⟨(rd_T90 y307 x5_1).f0, (rd_T90 y307 x5_1).f1, (rd_T90 y307 x5_1).f2, wrap64 ((wrap64 ((wrap64 (x1_1 + 1)) + 1)) + 1), (rd_T90 y307 x5_1).f4, (rd_T90 y307 x5_1).f5, (rd_T90 y307 x5_1).f6⟩ : S90) ) (fun _ hk => hk); have hx19_3 := hcc19 3 _ rfl; (try simp only [show (k90).sz = 7 from rfl, Nat.mul_one, Nat.add_zero] at hx19_3); have hf19_3 := hfr19 3; (try simp only [show (k90).sz = 7 from rfl, Nat.mul_one, Nat.add_zero] at hf19_3); clear hcl19 hcc19 hfr19 hM19) | ((with_reducible refine gate_store (t := 3) (p := 39) rfl ?_); refine store_event (t := 3) (p := 39) (v := ?vo_w20) (w1 := (w18.setCell ⟨go5, (x5_1 : Int).toNat * 7 + 3, none⟩ (.int .i64 (wrap64 ((wrap64 ((wrap64 (x1_1 + 1)) + 1)) + 1))))) ?hg ?ho ?hn ?hr ?_; (case ho => rfl); (case hg => rfl); (case hn => rfl); (case hr => exact z20_); intro w20 hw; have hg : w18.grownBy w20 (some go5) := (by rw [hw]; exact HP19.2); have hp_ : Kd.R k90 90 w20 w0.heap.size (fun k_ => (P0_ k_ ∨ w.heap.size ≤ k_)) (.slice (some ⟨go5, 0, none⟩) x0_1.length co12) y308 := (by rw [hw, Ny308.out]; exact HP19.1); clear HP19; replace HB := Aside0.mk ((by rw [hw]; exact below_set (HB.out) GB5.out : Below w0.heap.size w0 w20)); replace HK := Aside0.mk (Kept.of_grown (S := (fun k_ => P0_ k_)) hg z51_ (fun k_ e_ => (HO_0.out.1 k_ e_))); replace HO_0 := Aside0.mk (hp_); clear hg hw hp_; have p9 : 0 ≤ (x5_1 : Int) := odt_; have q9 : (x5_1 : Int) < ((x0_1.length : Int) : Int) := odt_; obtain ⟨ce9, hcl9, hM9, hcc9, hfr9⟩ := Kd.R_elem HO_0.out z90 (x5_1 : Int) p9 q9; obtain rfl := k90_openM hM9; have hx9_0 : w20.cell? ⟨go5, (x5_1 : Int).toNat * 7, none⟩ = some (.bool ((rd_T90 y308 x5_1).f0)) := hcc9 0 _ rfl; have hx9_1 : w20.cell? ⟨go5, (x5_1 : Int).toNat * 7 + 1, none⟩ = some (.int .i64 ((rd_T90 y308 x5_1).f1)) := hcc9 1 _ rfl; have hx9_2 : w20.cell? ⟨go5, (x5_1 : Int).toNat * 7 + 2, none⟩ = some (.int .i64 ((rd_T90 y308 x5_1).f2)) := hcc9 2 _ rfl; have hx9_3 : w20.cell? ⟨go5, (x5_1 : Int).toNat * 7 + 3, none⟩ = some (.int .i64 ((rd_T90 y308 x5_1).f3)) := hcc9 3 _ rfl; have hx9_4 : w20.cell? ⟨go5, (x5_1 : Int).toNat * 7 + 4, none⟩ = some (.int .i64 ((rd_T90 y308 x5_1).f4)) := hcc9 4 _ rfl; have hx9_5 : w20.cell? ⟨go5, (x5_1 : Int).toNat * 7 + 5, none⟩ = some (.int .i64 ((rd_T90 y308 x5_1).f5)) := hcc9 5 _ rfl; have hx9_6 : w20.cell? ⟨go5, (x5_1 : Int).toNat * 7 + 6, none⟩ = some (.int .i64 ((rd_T90 y308 x5_1).f6)) := hcc9 6 _ rfl; have hf9_0 : w20.frozen? ⟨go5, (x5_1 : Int).toNat * 7, none⟩ = false := hfr9 0; have hf9_1 : w20.frozen? ⟨go5, (x5_1 : Int).toNat * 7 + 1, none⟩ = false := hfr9 1; have hf9_2 : w20.frozen? ⟨go5, (x5_1 : Int).toNat * 7 + 2, none⟩ = false := hfr9 2; have hf9_3 : w20.frozen? ⟨go5, (x5_1 : Int).toNat * 7 + 3, none⟩ = false := hfr9 3; have hf9_4 : w20.frozen? ⟨go5, (x5_1 : Int).toNat * 7 + 4, none⟩ = false := hfr9 4; have hf9_5 : w20.frozen? ⟨go5, (x5_1 : Int).toNat * 7 + 5, none⟩ = false := hfr9 5; have hf9_6 : w20.frozen? ⟨go5, (x5_1 : Int).toNat * 7 + 6, none⟩ = false := hfr9 6; clear hcl9 hcc9 hfr9 hM9; replace p9 := eq_true p9; replace q9 := eq_true q9; have HX21 := Aside0.mk (show Kd.R k90 90 w20 w0.heap.size (fun k_ => (P0_ k_ ∨ w.heap.size ≤ k_)) (.slice (some ⟨go5, 0, none⟩) x0_1.length co12) y308 from z87_); obtain ⟨ce21, hcl21, hM21, hcc21, hfr21⟩ := Kd.R_elem HX21.out z90 (x5_1 : Int) (odt_) (by have h_ : (x5_1 : Int) < ((x0_1.length : Int) : Int) := odt_; first | exact h_ | (have e_ := (Kd.R_reads' HO_0.out).1; omega) | simpa using h_); obtain rfl := k90_openM hM21; have HP21 := Kd.R_seg HX21.out (x5_1 : Int) (odt_) (by have h_ : (x5_1 : Int) < ((x0_1.length : Int) : Int) := odt_; first | exact h_ | (have e_ := (Kd.R_reads' HO_0.out).1; omega) | simpa using h_) (seg := [.int .i64 (wrap64 ((wrap64 ((wrap64 ((wrap64 (x1_1 + 1)) + 1)) + 1)) + 1))]) (j := 4) hcl21 hcc21 (show 5 ≤ 7 from by decide) (x' := (⟨(rd_T90 y308 x5_1).f0, (rd_T90 y308 x5_1).f1, (rd_T90 y308 x5_1).f2, (rd_T90 y308 x5_1).f3, wrap64 ((wrap64 ((wrap64 ((wrap64 (x1_1 + 1)) + 1)) + 1)) + 1), (rd_T90 y308 x5_1).f5, (rd_T90 y308 x5_1).f6⟩ : S90)) (k90_mkM _ _ _ (⟨(rd_T90 y308 x5_1).f0, (rd_T90 y308 x5_1).f1, (rd_T90 y308 x5_1).f2, (rd_T90 y308 x5_1).f3, wrap64 ((wrap64 ((wrap64 ((wrap64 (x1_1 + 1)) + 1)) + 1)) + 1), (rd_T90 y308 x5_1).f5, (rd_T90 y308 x5_1).f6⟩ : S90) ) (fun _ hk => hk); have hx21_4 := hcc21 4 _ rfl; (try simp only [show (k90).sz = 7 from rfl, Nat.mul_one, Nat.add_zero] at hx21_4); have hf21_4 := hfr21 4; (try simp only [show (k90).sz = 7 from rfl, Nat.mul_one, Nat.add_zero] at hf21_4); clear hcl21 hcc21 hfr21 hM21) | ((with_reducible refine gate_store (t := 3) (p := 46) rfl ?_); refine store_event (t := 3) (p := 46) (v := ?vo_w22) (w1 := (w20.setCell ⟨go5, (x5_1 : Int).toNat * 7 + 4, none⟩ (.int .i64 (wrap64 ((wrap64 ((wrap64 ((wrap64 (x1_1 + 1)) + 1)) + 1)) + 1))))) ?hg ?ho ?hn ?hr ?_; (case ho => rfl); (case hg => rfl); (case hn => rfl); (case hr => exact z20_); intro w22 hw; have hg : w20.grownBy w22 (some go5) := (by rw [hw]; exact HP21.2); have hp_ : Kd.R k90 90 w22 w0.heap.size (fun k_ => (P0_ k_ ∨ w.heap.size ≤ k_)) (.slice (some ⟨go5, 0, none⟩) x0_1.length co12) y309 := (by rw [hw, Ny309.out]; exact HP21.1); clear HP21; replace HB := Aside0.mk ((by rw [hw]; exact below_set (HB.out) GB5.out : Below w0.heap.size w0 w22)); replace HK := Aside0.mk (Kept.of_grown (S := (fun k_ => P0_ k_)) hg z51_ (fun k_ e_ => (HO_0.out.1 k_ e_))); replace HO_0 := Aside0.mk (hp_); clear hg hw hp_; have p10 : 0 ≤ (x5_1 : Int) := odt_; have q10 : (x5_1 : Int) < ((x0_1.length : Int) : Int) := odt_; obtain ⟨ce10, hcl10, hM10, hcc10, hfr10⟩ := Kd.R_elem HO_0.out z90 (x5_1 : Int) p10 q10; obtain rfl := k90_openM hM10; have hx10_0 : w22.cell? ⟨go5, (x5_1 : Int).toNat * 7, none⟩ = some (.bool ((rd_T90 y309 x5_1).f0)) := hcc10 0 _ rfl; have hx10_1 : w22.cell? ⟨go5, (x5_1 : Int).toNat * 7 + 1, none⟩ = some (.int .i64 ((rd_T90 y309 x5_1).f1)) := hcc10 1 _ rfl; have hx10_2 : w22.cell? ⟨go5, (x5_1 : Int).toNat * 7 + 2, none⟩ = some (.int .i64 ((rd_T90 y309 x5_1).f2)) := hcc10 2 _ rfl; have hx10_3 : w22.cell? ⟨go5, (x5_1 : Int).toNat * 7 + 3, none⟩ = some (.int .i64 ((rd_T90 y309 x5_1).f3)) := hcc10 3 _ rfl; have hx10_4 : w22.cell? ⟨go5, (x5_1 : Int).toNat * 7 + 4, none⟩ = some (.int .i64 ((rd_T90 y309 x5_1).f4)) := hcc10 4 _ rfl; have hx10_5 : w22.cell? ⟨go5, (x5_1 : Int).toNat * 7 + 5, none⟩ = some (.int .i64 ((rd_T90 y309 x5_1).f5)) := hcc10 5 _ rfl; have hx10_6 : w22.cell? ⟨go5, (x5_1 : Int).toNat * 7 + 6, none⟩ = some (.int .i64 ((rd_T90 y309 x5_1).f6)) := hcc10 6 _ rfl; have hf10_0 : w22.frozen? ⟨go5, (x5_1 : Int).toNat * 7, none⟩ = false := hfr10 0; have hf10_1 : w22.frozen? ⟨go5, (x5_1 : Int).toNat * 7 + 1, none⟩ = false := hfr10 1; have hf10_2 : w22.frozen? ⟨go5, (x5_1 : Int).toNat * 7 + 2, none⟩ = false := hfr10 2; have hf10_3 : w22.frozen? ⟨go5, (x5_1 : Int).toNat * 7 + 3, none⟩ = false := hfr10 3; have hf10_4 : w22.frozen? ⟨go5, (x5_1 : Int).toNat * 7 + 4, none⟩ = false := hfr10 4; have hf10_5 : w22.frozen? ⟨go5, (x5_1 : Int).toNat * 7 + 5, none⟩ = false := hfr10 5; have hf10_6 : w22.frozen? ⟨go5, (x5_1 : Int).toNat * 7 + 6, none⟩ = false := hfr10 6; clear hcl10 hcc10 hfr10 hM10; replace p10 := eq_true p10; replace q10 := eq_true q10; have HX23 := Aside0.mk (show Kd.R k90 90 w22 w0.heap.size (fun k_ => (P0_ k_ ∨ w.heap.size ≤ k_)) (.slice (some ⟨go5, 0, none⟩) x0_1.length co12) y309 from z87_); obtain ⟨ce23, hcl23, hM23, hcc23, hfr23⟩ := Kd.R_elem HX23.out z90 (x5_1 : Int) (odt_) (by have h_ : (x5_1 : Int) < ((x0_1.length : Int) : Int) := odt_; first | exact h_ | (have e_ := (Kd.R_reads' HO_0.out).1; omega) | simpa using h_); obtain rfl := k90_openM hM23; have HP23 := Kd.R_seg HX23.out (x5_1 : Int) (odt_) (by have h_ : (x5_1 : Int) < ((x0_1.length : Int) : Int) := odt_; first | exact h_ | (have e_ := (Kd.R_reads' HO_0.out).1; omega) | simpa using h_) (seg := [.int .i64 (wrap64 ((wrap64 ((wrap64 ((wrap64 ((wrap64 (x1_1 + 1)) + 1)) + 1)) + 1)) + 1))]) (j := 5) hcl23 hcc23 (show 6 ≤ 7 from by decide) (x' := (⟨(rd_T90 y309 x5_1).f0, (rd_T90 y309 x5_1).f1, (rd_T90 y309 x5_1).f2, (rd_T90 y309 x5_1).f3, (rd_T90 y309 x5_1).f4, wrap64 ((wrap64 ((wrap64 ((wrap64 ((wrap64 (x1_1 + 1)) + 1)) + 1)) + 1)) + 1), (rd_T90 y309 x5_1).f6⟩ : S90)) (k90_mkM _ _ _ (⟨(rd_T90 y309 x5_1).f0, (rd_T90 y309 x5_1).f1, (rd_T90 y309 x5_1).f2, (rd_T90 y309 x5_1).f3, (rd_T90 y309 x5_1).f4, wrap64 ((wrap64 ((wrap64 ((wrap64 ((wrap64 (x1_1 + 1)) + 1)) + 1)) + 1)) + 1), (rd_T90 y309 x5_1).f6⟩ : S90) ) (fun _ hk => hk); have hx23_5 := hcc23 5 _ rfl; (try simp only [show (k90).sz = 7 from rfl, Nat.mul_one, Nat.add_zero] at hx23_5); have hf23_5 := hfr23 5; (try simp only [show (k90).sz = 7 from rfl, Nat.mul_one, Nat.add_zero] at hf23_5); clear hcl23 hcc23 hfr23 hM23) | ((with_reducible refine gate_store (t := 3) (p := 53) rfl ?_); refine store_event (t := 3) (p := 53) (v := ?vo_w24) (w1 := (w22.setCell ⟨go5, (x5_1 : Int).toNat * 7 + 5, none⟩ (.int .i64 (wrap64 ((wrap64 ((wrap64 ((wrap64 ((wrap64 (x1_1 + 1)) + 1)) + 1)) + 1)) + 1))))) ?hg ?ho ?hn ?hr ?_; (case ho => rfl); (case hg => rfl); (case hn => rfl); (case hr => exact z20_); intro w24 hw; have hg : w22.grownBy w24 (some go5) := (by rw [hw]; exact HP23.2); have hp_ : Kd.R k90 90 w24 w0.heap.size (fun k_ => (P0_ k_ ∨ w.heap.size ≤ k_)) (.slice (some ⟨go5, 0, none⟩) x0_1.length co12) y310 := (by rw [hw, Ny310.out]; exact HP23.1); clear HP23; replace HB := Aside0.mk ((by rw [hw]; exact below_set (HB.out) GB5.out : Below w0.heap.size w0 w24)); replace HK := Aside0.mk (Kept.of_grown (S := (fun k_ => P0_ k_)) hg z51_ (fun k_ e_ => (HO_0.out.1 k_ e_))); replace HO_0 := Aside0.mk (hp_); clear hg hw hp_; have p11 : 0 ≤ (x5_1 : Int) := odt_; have q11 : (x5_1 : Int) < ((x0_1.length : Int) : Int) := odt_; obtain ⟨ce11, hcl11, hM11, hcc11, hfr11⟩ := Kd.R_elem HO_0.out z90 (x5_1 : Int) p11 q11; obtain rfl := k90_openM hM11; have hx11_0 : w24.cell? ⟨go5, (x5_1 : Int).toNat * 7, none⟩ = some (.bool ((rd_T90 y310 x5_1).f0)) := hcc11 0 _ rfl; have hx11_1 : w24.cell? ⟨go5, (x5_1 : Int).toNat * 7 + 1, none⟩ = some (.int .i64 ((rd_T90 y310 x5_1).f1)) := hcc11 1 _ rfl; have hx11_2 : w24.cell? ⟨go5, (x5_1 : Int).toNat * 7 + 2, none⟩ = some (.int .i64 ((rd_T90 y310 x5_1).f2)) := hcc11 2 _ rfl; have hx11_3 : w24.cell? ⟨go5, (x5_1 : Int).toNat * 7 + 3, none⟩ = some (.int .i64 ((rd_T90 y310 x5_1).f3)) := hcc11 3 _ rfl; have hx11_4 : w24.cell? ⟨go5, (x5_1 : Int).toNat * 7 + 4, none⟩ = some (.int .i64 ((rd_T90 y310 x5_1).f4)) := hcc11 4 _ rfl; have hx11_5 : w24.cell? ⟨go5, (x5_1 : Int).toNat * 7 + 5, none⟩ = some (.int .i64 ((rd_T90 y310 x5_1).f5)) := hcc11 5 _ rfl; have hx11_6 : w24.cell? ⟨go5, (x5_1 : Int).toNat * 7 + 6, none⟩ = some (.int .i64 ((rd_T90 y310 x5_1).f6)) := hcc11 6 _ rfl; have hf11_0 : w24.frozen? ⟨go5, (x5_1 : Int).toNat * 7, none⟩ = false := hfr11 0; have hf11_1 : w24.frozen? ⟨go5, (x5_1 : Int).toNat * 7 + 1, none⟩ = false := hfr11 1; have hf11_2 : w24.frozen? ⟨go5, (x5_1 : Int).toNat * 7 + 2, none⟩ = false := hfr11 2; have hf11_3 : w24.frozen? ⟨go5, (x5_1 : Int).toNat * 7 + 3, none⟩ = false := hfr11 3; have hf11_4 : w24.frozen? ⟨go5, (x5_1 : Int).toNat * 7 + 4, none⟩ = false := hfr11 4; have hf11_5 : w24.frozen? ⟨go5, (x5_1 : Int).toNat * 7 + 5, none⟩ = false := hfr11 5; have hf11_6 : w24.frozen? ⟨go5, (x5_1 : Int).toNat * 7 + 6, none⟩ = false := hfr11 6; clear hcl11 hcc11 hfr11 hM11; replace p11 := eq_true p11; replace q11 := eq_true q11; have HX25 := Aside0.mk (show Kd.R k90 90 w24 w0.heap.size (fun k_ => (P0_ k_ ∨ w.heap.size ≤ k_)) (.slice (some ⟨go5, 0, none⟩) x0_1.length co12) y310 from z87_); obtain ⟨ce25, hcl25, hM25, hcc25, hfr25⟩ := Kd.R_elem HX25.out z90 (x5_1 : Int) (odt_) (by have h_ : (x5_1 : Int) < ((x0_1.length : Int) : Int) := odt_; first | exact h_ | (have e_ := (Kd.R_reads' HO_0.out).1; omega) | simpa using h_); obtain rfl := k90_openM hM25; have HP25 := Kd.R_seg HX25.out (x5_1 : Int) (odt_) (by have h_ : (x5_1 : Int) < ((x0_1.length : Int) : Int) := odt_; first | exact h_ | (have e_ := (Kd.R_reads' HO_0.out).1; omega) | simpa using h_) (seg := [.int .i64 (wrap64 ((wrap64 ((wrap64 ((wrap64 ((wrap64 ((wrap64 (x1_1 + 1)) + 1)) + 1)) + 1)) + 1)) + 1))]) (j := 6) hcl25 hcc25 (show 7 ≤ 7 from by decide) (x' := (⟨(rd_T90 y310 x5_1).f0, (rd_T90 y310 x5_1).f1, (rd_T90 y310 x5_1).f2, (rd_T90 y310 x5_1).f3, (rd_T90 y310 x5_1).f4, (rd_T90 y310 x5_1).f5, wrap64 ((wrap64 ((wrap64 ((wrap64 ((wrap64 ((wrap64 (x1_1 + 1)) + 1)) + 1)) + 1)) + 1)) + 1)⟩ : S90)) (k90_mkM _ _ _ (⟨(rd_T90 y310 x5_1).f0, (rd_T90 y310 x5_1).f1, (rd_T90 y310 x5_1).f2, (rd_T90 y310 x5_1).f3, (rd_T90 y310 x5_1).f4, (rd_T90 y310 x5_1).f5, wrap64 ((wrap64 ((wrap64 ((wrap64 ((wrap64 ((wrap64 (x1_1 + 1)) + 1)) + 1)) + 1)) + 1)) + 1)⟩ : S90) ) (fun _ hk => hk); have hx25_6 := hcc25 6 _ rfl; (try simp only [show (k90).sz = 7 from rfl, Nat.mul_one, Nat.add_zero] at hx25_6); have hf25_6 := hfr25 6; (try simp only [show (k90).sz = 7 from rfl, Nat.mul_one, Nat.add_zero] at hf25_6); clear hcl25 hcc25 hfr25 hM25) | ((with_reducible refine gate_store (t := 3) (p := 60) rfl ?_); refine store_event (t := 3) (p := 60) (v := ?vo_w26) (w1 := (w24.setCell ⟨go5, (x5_1 : Int).toNat * 7 + 6, none⟩ (.int .i64 (wrap64 ((wrap64 ((wrap64 ((wrap64 ((wrap64 ((wrap64 (x1_1 + 1)) + 1)) + 1)) + 1)) + 1)) + 1))))) ?hg ?ho ?hn ?hr ?_; (case ho => rfl); (case hg => rfl); (case hn => rfl); (case hr => exact z20_); intro w26 hw; have hg : w24.grownBy w26 (some go5) := (by rw [hw]; exact HP25.2); have hp_ : Kd.R k90 90 w26 w0.heap.size (fun k_ => (P0_ k_ ∨ w.heap.size ≤ k_)) (.slice (some ⟨go5, 0, none⟩) x0_1.length co12) y311 := (by rw [hw, Ny311.out]; exact HP25.1); clear HP25; replace HB := Aside0.mk ((by rw [hw]; exact below_set (HB.out) GB5.out : Below w0.heap.size w0 w26)); replace HK := Aside0.mk (Kept.of_grown (S := (fun k_ => P0_ k_)) hg z51_ (fun k_ e_ => (HO_0.out.1 k_ e_))); replace HO_0 := Aside0.mk (hp_); clear hg hw hp_))
    go_roundg k1
    case measure => have := HK1.out; omega
    case rel => exact ⟨(y311), (wrap64 ((wrap64 ((wrap64 ((wrap64 ((wrap64 ((wrap64 ((wrap64 (x1_1 + 1)) + 1)) + 1)) + 1)) + 1)) + 1)) + 1)), (wrap64 (x5_1 + 1)), z22_, z22_, H', ⟨z236_⟩, ⟨z87_⟩, ⟨z51_⟩, ⟨z0_⟩⟩
   ·rw [if_neg c3] at H
    have c3b0 : decide (x5_1 < (x0_1.length : Int)) = false := decide_eq_false c3
    clear c3
    simp only [Option.some.injEq, Prod.mk.injEq] at H
    obtain ⟨rfl, rfl⟩ := H
    obtain ⟨Ao27, co27, eo27⟩ := Kd.R_slice HO_0.out
    subst eo27
    go_wp2
    go_ret
    exact ⟨z4_, z87_, z0_, z51_⟩

/-! ### laws_markDom: function 14 -/
def laws_markDom.f (k : Nat) (l0_0 : List (S90)) (a1 : Int) : Option (Int × (List (S90))) := (laws_markDomNodeS.f k l0_0 a1).bind fun bt313 => (some (bt313.1, bt313.2))
theorem laws_markDom.mono : ∀ a0 a1 k, LeO (laws_markDom.f k a0 a1) (laws_markDom.f (k + 1) a0 a1) := by
 intro a0 a1 k
 unfold laws_markDom.f
 repeat' first | (with_reducible first | exact laws_markDomNodeS.mono _ _ _ | exact LeO.refl _ | exact LeO.none _ | refine LeO.ite ?_ ?_ | refine LeO.bind ?_ (fun _ => ?_)) | exact laws_markDomNodeS.mono _ _ _ | exact LeO.none _ | refine LeO.ite ?_ ?_ | refine LeO.bind ?_ (fun _ => ?_)
set_option maxHeartbeats 8000000 in
set_option maxRecDepth 100000 in
theorem laws_markDom.calls (k : Nat) (P0_0_ : Nat → Prop) (u9000_ : Value) (l0_0 : List (S90)) (a1 : Int) (r1 : Int) (r2 : List (S90)) (w0 w : World) (hB : Below w0.heap.size w0 w) (ho0_0 : Kd.R k90 90 w w0.heap.size P0_0_ u9000_ l0_0) (h : laws_markDom.f k l0_0 a1 = some (r1, r2)) :
  Calls Try.prog 14 #[.agg #[u9000_], .int .i64 a1] w fun e w' => e = .returned (.int .i64 r1) ∧ Kd.R k90 90 w' w0.heap.size (fun k_ => (P0_0_ k_ ∨ w.heap.size ≤ k_)) u9000_ r2 ∧ Below w0.heap.size w0 w' ∧ Kept w w' (fun k_ => P0_0_ k_) := by
 have hu28 := Try.underlying28
 have HO0_0 := Aside0.mk (show Kd.R k90 90 w w0.heap.size (fun k_ => (P0_0_ k_ ∨ w.heap.size ≤ k_)) u9000_ l0_0 from Kd.R_mono ho0_0 (fun k_ hk => (.inl hk)))
 have HK := Aside0.mk (Kept.refl w (fun k_ => P0_0_ k_))
 have HW0 := Aside0.mk hB.size
 have HB := Aside0.mk hB
 clear hB
 have H : ((laws_markDomNodeS.f k l0_0 a1).bind fun bt313 => (some (bt313.1, bt313.2))) = some (r1, r2) := h
 clear h
 replace H := Option.bind_eq_some_iff.mp H
 obtain ⟨⟨t313, t314⟩, A30, H⟩ := H
 replace H : (some (t313, t314)) = some (r1, r2) := H
 have A3 := Aside0.mk A30
 clear A30
 simp only [Option.some.injEq, Prod.mk.injEq] at H
 obtain ⟨rfl, rfl⟩ := H
 obtain ⟨Ao4, co4, eo4⟩ := Kd.R_slice HO0_0.out
 subst eo4
 go_enter Try.func14, Try.ntmps14
 go_wp2_with (first | ((with_reducible refine gate_dst (N := 2) rfl ?_); refine box_event ?hg (N := 2) ?hd (cs := #[.slice Ao4 l0_0.length co4]) (t := 28) ?hr ?_; (case hd => rfl); (case hg => rfl); (case hr => exact z20_); intro gb312 hg w5 hbox hb; replace HO0_0 := Aside0.mk (Kd.R_below z223_ hb); have BK312 := Aside0.mk (hbox); have GW312 := Aside0.mk ((by rw [hg]; exact (by first | exact HK.out.1 | exact (show Kept w _ (fun k_ => P0_0_ k_) from by repeat (first | (with_reducible first | exact HK.out | apply Kept.alloc | apply Kept.drewN | apply Kept.drew) | exact HK.out)).1) : w.heap.size ≤ gb312)); replace HK := Aside0.mk (Kept.below (S := (fun k_ => P0_0_ k_)) z51_ hb); have GE312 := Aside0.mk ((by rw [hg]; exact (below_size z0_) : w0.heap.size ≤ gb312)); replace HB := Aside0.mk (below_step z0_ hb); clear hb hbox hg; have hcz6_0 : w5.cell? ⟨gb312, 0, none⟩ = some (.slice Ao4 l0_0.length co4) := (blk_cell BK312.out 0).trans rfl; have hfz6_0 := blk_frozen BK312.out 0) | ((with_reducible refine gate_callee (f := 61) rfl ?_); refine goesL_ (some 8) rfl rfl Try.func61 (by kernel_rfl) rfl #[.slice Ao4 l0_0.length co4, .int .i64 a1] rfl z1_ ?_; (with_reducible refine (laws_markDomNodeS.calls k (fun k_ => some k_ = (.slice Ao4 l0_0.length co4 : Value).ownBlock) (.slice Ao4 l0_0.length co4) l0_0 a1 t313 t314 w0 _ ?side1 ?side2 A3.out).mono ?_); (case side1 => exact z187_); (case side2 => exact Kd.R_tight rfl HO0_0.out); rintro e w7 ⟨rfl, hy0, hb, hkp⟩; refine ⟨_, rfl, ?_⟩; replace BK312 := Aside0.mk (blk_kept (by (with_reducible repeat (first | refine blk_drewN ?_ _ | refine blk_drew ?_ | refine blk_alloc ?_ _)); exact BK312.out) hkp (fun hs_ => (fun e_ => (Kd.R_ne HO0_0.out BK312.out (by decide)) e_) hs_)); replace HK := Aside0.mk (Kept.then_ (S := (fun k_ => P0_0_ k_)) z181_ hkp (fun k_ hs_ => (fun e_ => (HO0_0.out.1 k_ e_.symm)) hs_)); replace HO0_0 := Aside0.mk (Kd.R_reok rfl hy0 (fun k_ e_ => HO0_0.out.1 k_ e_)); replace HB := Aside0.mk (hb); (try clear hb hkp hy0)))
 go_ret
 exact ⟨z4_, z223_, z187_, z181_⟩

/-! ### laws_heldDomNodeS: function 62 -/
def laws_heldDomNodeS.l0 : Nat → List (S90) → Int → Int → Option (Int)
 | 0, _, _, _ => none
 | k + 1, x0, x1, x5 => if x5 < (x0.length : Int) then (if 0 ≤ x5 then (if (((rd_T90 x0 x5).f0) != ((Int.tmod x1 3) == 0)) = true then (some (-1)) else (if ((rd_T90 x0 x5).f1) = (wrap64 (x1 + 1)) then (if ((rd_T90 x0 x5).f2) = (wrap64 ((wrap64 (x1 + 1)) + 1)) then (if ((rd_T90 x0 x5).f3) = (wrap64 ((wrap64 ((wrap64 (x1 + 1)) + 1)) + 1)) then (if ((rd_T90 x0 x5).f4) = (wrap64 ((wrap64 ((wrap64 ((wrap64 (x1 + 1)) + 1)) + 1)) + 1)) then (if ((rd_T90 x0 x5).f5) = (wrap64 ((wrap64 ((wrap64 ((wrap64 ((wrap64 (x1 + 1)) + 1)) + 1)) + 1)) + 1)) then (if ((rd_T90 x0 x5).f6) = (wrap64 ((wrap64 ((wrap64 ((wrap64 ((wrap64 ((wrap64 (x1 + 1)) + 1)) + 1)) + 1)) + 1)) + 1)) then (laws_heldDomNodeS.l0 k x0 (wrap64 ((wrap64 ((wrap64 ((wrap64 ((wrap64 ((wrap64 ((wrap64 (x1 + 1)) + 1)) + 1)) + 1)) + 1)) + 1)) + 1)) (wrap64 (x5 + 1))) else (some (-1))) else (some (-1))) else (some (-1))) else (some (-1))) else (some (-1))) else (some (-1)))) else (none)) else (some x1)
def laws_heldDomNodeS.f (k : Nat) (l0 : List (S90)) (a1 : Int) : Option (Int) := laws_heldDomNodeS.l0 k l0 a1 0
theorem laws_heldDomNodeS.mono_l : ∀ k, (∀ y0 y1 y2, LeO (laws_heldDomNodeS.l0 k y0 y1 y2) (laws_heldDomNodeS.l0 (k + 1) y0 y1 y2))
 | 0 => fun _ _ _ r h => by simp [laws_heldDomNodeS.l0] at h
 | k + 1 => by
  have ih0 := laws_heldDomNodeS.mono_l k
  ·intro y0 y1 y2
   unfold laws_heldDomNodeS.l0
   repeat' first | (with_reducible first | exact ih0 _ _ _ | exact LeO.refl _ | exact LeO.none _ | refine LeO.ite ?_ ?_ | refine LeO.bind ?_ (fun _ => ?_)) | exact ih0 _ _ _ | exact LeO.none _ | refine LeO.ite ?_ ?_ | refine LeO.bind ?_ (fun _ => ?_)
theorem laws_heldDomNodeS.mono : ∀ a0 a1 k, LeO (laws_heldDomNodeS.f k a0 a1) (laws_heldDomNodeS.f (k + 1) a0 a1) := by
 intro a0 a1 k
 have ih0 := laws_heldDomNodeS.mono_l k
 unfold laws_heldDomNodeS.f
 repeat' first | (with_reducible first | exact ih0 _ _ _ | exact LeO.refl _ | exact LeO.none _ | refine LeO.ite ?_ ?_ | refine LeO.bind ?_ (fun _ => ?_)) | exact ih0 _ _ _ | exact LeO.none _ | refine LeO.ite ?_ ?_ | refine LeO.bind ?_ (fun _ => ?_)
set_option maxHeartbeats 8000000 in
set_option maxRecDepth 100000 in
theorem laws_heldDomNodeS.calls (k : Nat) (A0 : Option Addr) (c0 : Nat) (l0 : List (S90)) (a1 : Int) (r : Int) (w : World) (hr0 : Kd.C k90 w A0 l0.length l0) (hc0 : l0.length ≤ c0) (h : laws_heldDomNodeS.f k l0 a1 = some r) :
  Calls Try.prog 62 #[.slice A0 l0.length c0, .int .i64 a1] w fun e w' => e = .returned (.int .i64 r) ∧ Drawn0 w w' := by
 have HR0 := Aside0.mk hr0
 have HC0 := Aside0.mk hc0
 clear hr0 hc0
 have H : (laws_heldDomNodeS.l0 k l0 a1 0) = some r := h
 clear h
 have H' := Aside0.mk H
 clear H
 go_enter Try.func62, Try.ntmps62
 go_wp2
 go_loopg [1, 5] k (fun kq v1 v5 w' => ∃ (x1_1 : Int) (x5_1 : Int), v1 = .int .i64 x1_1 ∧ v5 = .int .i64 x5_1 ∧ Aside0 (laws_heldDomNodeS.l0 kq l0 x1_1 x5_1 = some r) ∧ Aside0 (kq ≤ k) ∧ Drawn0 w w')
 case atStart => exact ⟨(a1), (0), z22_, z22_, H', ⟨Nat.le_refl _⟩, z64_⟩
 case round =>
  clear H'
  try clear p2
  obtain ⟨x1_1, x5_1, rfl, rfl, HA, HK1, ⟨m1, rfl⟩⟩ := hrel
  cases gk with
  | zero => exact absurd HA.out (by simp [laws_heldDomNodeS.l0])
  | succ k1 =>
   have H := HA.out
   clear HA
   simp only [laws_heldDomNodeS.l0] at H
   by_cases c3 : x5_1 < (l0.length : Int)
   ·rw [if_pos c3] at H
    have c3b0 : decide (x5_1 < (l0.length : Int)) = true := decide_eq_true c3
    clear c3
    obtain ⟨c4b0, H⟩ := ifd_ H
    by_cases c5 : (((rd_T90 l0 x5_1).f0) != ((Int.tmod x1_1 3) == 0)) = true
    ·rw [if_pos c5] at H
     have c5b0 : (((rd_T90 l0 x5_1).f0) != ((Int.tmod x1_1 3) == 0)) = true := c5
     (try (have c5b1 : decide (((rd_T90 l0 x5_1).f0) = ((Int.tmod x1_1 3) == 0)) = false := by simpa using c5))
     (try (have c5b2 : (((rd_T90 l0 x5_1).f0) == ((Int.tmod x1_1 3) == 0)) = false := by simpa using c5))
     (try (have c5b3 : ¬ (((rd_T90 l0 x5_1).f0) = ((Int.tmod x1_1 3) == 0)) := by simpa using c5))
     clear c5
     obtain rfl := Option.some.inj H
     obtain ⟨p315, q315, ad315, e315, hx315_0, hx315_1, hx315_2, hx315_3, hx315_4, hx315_5, hx315_6⟩ := ato90_ HR0 x5_1
     cases e315
     go_wp2
     go_ret
     exact ⟨z22_, z64_⟩
    ·rw [if_neg c5] at H
     have c5b0 : (((rd_T90 l0 x5_1).f0) != ((Int.tmod x1_1 3) == 0)) = false := by simpa using c5
     (try (have c5b1 : decide (((rd_T90 l0 x5_1).f0) = ((Int.tmod x1_1 3) == 0)) = true := by simpa using c5))
     (try (have c5b2 : (((rd_T90 l0 x5_1).f0) == ((Int.tmod x1_1 3) == 0)) = true := by simpa using c5))
     clear c5
     by_cases c6 : ((rd_T90 l0 x5_1).f1) = (wrap64 (x1_1 + 1))
     ·rw [if_pos c6] at H
      have c6b0 : (((rd_T90 l0 x5_1).f1) == (wrap64 (x1_1 + 1))) = true := beq_iff_eq.mpr c6
      have c6b1 : (((rd_T90 l0 x5_1).f1) != (wrap64 (x1_1 + 1))) = false := bne_eq_false_iff_eq.mpr c6
      clear c6
      by_cases c7 : ((rd_T90 l0 x5_1).f2) = (wrap64 ((wrap64 (x1_1 + 1)) + 1))
      ·rw [if_pos c7] at H
       have c7b0 : (((rd_T90 l0 x5_1).f2) == (wrap64 ((wrap64 (x1_1 + 1)) + 1))) = true := beq_iff_eq.mpr c7
       have c7b1 : (((rd_T90 l0 x5_1).f2) != (wrap64 ((wrap64 (x1_1 + 1)) + 1))) = false := bne_eq_false_iff_eq.mpr c7
       clear c7
       by_cases c8 : ((rd_T90 l0 x5_1).f3) = (wrap64 ((wrap64 ((wrap64 (x1_1 + 1)) + 1)) + 1))
       ·rw [if_pos c8] at H
        have c8b0 : (((rd_T90 l0 x5_1).f3) == (wrap64 ((wrap64 ((wrap64 (x1_1 + 1)) + 1)) + 1))) = true := beq_iff_eq.mpr c8
        have c8b1 : (((rd_T90 l0 x5_1).f3) != (wrap64 ((wrap64 ((wrap64 (x1_1 + 1)) + 1)) + 1))) = false := bne_eq_false_iff_eq.mpr c8
        clear c8
        by_cases c9 : ((rd_T90 l0 x5_1).f4) = (wrap64 ((wrap64 ((wrap64 ((wrap64 (x1_1 + 1)) + 1)) + 1)) + 1))
        ·rw [if_pos c9] at H
         have c9b0 : (((rd_T90 l0 x5_1).f4) == (wrap64 ((wrap64 ((wrap64 ((wrap64 (x1_1 + 1)) + 1)) + 1)) + 1))) = true := beq_iff_eq.mpr c9
         have c9b1 : (((rd_T90 l0 x5_1).f4) != (wrap64 ((wrap64 ((wrap64 ((wrap64 (x1_1 + 1)) + 1)) + 1)) + 1))) = false := bne_eq_false_iff_eq.mpr c9
         clear c9
         by_cases c10 : ((rd_T90 l0 x5_1).f5) = (wrap64 ((wrap64 ((wrap64 ((wrap64 ((wrap64 (x1_1 + 1)) + 1)) + 1)) + 1)) + 1))
         ·rw [if_pos c10] at H
          have c10b0 : (((rd_T90 l0 x5_1).f5) == (wrap64 ((wrap64 ((wrap64 ((wrap64 ((wrap64 (x1_1 + 1)) + 1)) + 1)) + 1)) + 1))) = true := beq_iff_eq.mpr c10
          have c10b1 : (((rd_T90 l0 x5_1).f5) != (wrap64 ((wrap64 ((wrap64 ((wrap64 ((wrap64 (x1_1 + 1)) + 1)) + 1)) + 1)) + 1))) = false := bne_eq_false_iff_eq.mpr c10
          clear c10
          by_cases c11 : ((rd_T90 l0 x5_1).f6) = (wrap64 ((wrap64 ((wrap64 ((wrap64 ((wrap64 ((wrap64 (x1_1 + 1)) + 1)) + 1)) + 1)) + 1)) + 1))
          ·rw [if_pos c11] at H
           have c11b0 : (((rd_T90 l0 x5_1).f6) == (wrap64 ((wrap64 ((wrap64 ((wrap64 ((wrap64 ((wrap64 (x1_1 + 1)) + 1)) + 1)) + 1)) + 1)) + 1))) = true := beq_iff_eq.mpr c11
           have c11b1 : (((rd_T90 l0 x5_1).f6) != (wrap64 ((wrap64 ((wrap64 ((wrap64 ((wrap64 ((wrap64 (x1_1 + 1)) + 1)) + 1)) + 1)) + 1)) + 1))) = false := bne_eq_false_iff_eq.mpr c11
           clear c11
           have H' := Aside0.mk H
           clear H
           obtain ⟨p315, q315, ad315, e315, hx315_0, hx315_1, hx315_2, hx315_3, hx315_4, hx315_5, hx315_6⟩ := ato90_ HR0 x5_1
           cases e315
           obtain ⟨p316, q316, ad316, e316, hx316_0, hx316_1, hx316_2, hx316_3, hx316_4, hx316_5, hx316_6⟩ := ato90_ HR0 x5_1
           obtain rfl : ad315 = ad316 := (by injection e316)
           obtain ⟨p317, q317, ad317, e317, hx317_0, hx317_1, hx317_2, hx317_3, hx317_4, hx317_5, hx317_6⟩ := ato90_ HR0 x5_1
           obtain rfl : ad315 = ad317 := (by injection e317)
           obtain ⟨p318, q318, ad318, e318, hx318_0, hx318_1, hx318_2, hx318_3, hx318_4, hx318_5, hx318_6⟩ := ato90_ HR0 x5_1
           obtain rfl : ad315 = ad318 := (by injection e318)
           obtain ⟨p319, q319, ad319, e319, hx319_0, hx319_1, hx319_2, hx319_3, hx319_4, hx319_5, hx319_6⟩ := ato90_ HR0 x5_1
           obtain rfl : ad315 = ad319 := (by injection e319)
           obtain ⟨p320, q320, ad320, e320, hx320_0, hx320_1, hx320_2, hx320_3, hx320_4, hx320_5, hx320_6⟩ := ato90_ HR0 x5_1
           obtain rfl : ad315 = ad320 := (by injection e320)
           obtain ⟨p321, q321, ad321, e321, hx321_0, hx321_1, hx321_2, hx321_3, hx321_4, hx321_5, hx321_6⟩ := ato90_ HR0 x5_1
           obtain rfl : ad315 = ad321 := (by injection e321)
           go_wp2
           go_roundg k1
           case measure => have := HK1.out; omega
           case rel => exact ⟨(wrap64 ((wrap64 ((wrap64 ((wrap64 ((wrap64 ((wrap64 ((wrap64 (x1_1 + 1)) + 1)) + 1)) + 1)) + 1)) + 1)) + 1)), (wrap64 (x5_1 + 1)), z22_, z22_, H', ⟨z236_⟩, z64_⟩
          ·rw [if_neg c11] at H
           have c11b0 : (((rd_T90 l0 x5_1).f6) == (wrap64 ((wrap64 ((wrap64 ((wrap64 ((wrap64 ((wrap64 (x1_1 + 1)) + 1)) + 1)) + 1)) + 1)) + 1))) = false := beq_eq_false_iff_ne.mpr c11
           have c11b1 : (((rd_T90 l0 x5_1).f6) != (wrap64 ((wrap64 ((wrap64 ((wrap64 ((wrap64 ((wrap64 (x1_1 + 1)) + 1)) + 1)) + 1)) + 1)) + 1))) = true := bne_iff_ne.mpr c11
           obtain rfl := Option.some.inj H
           obtain ⟨p315, q315, ad315, e315, hx315_0, hx315_1, hx315_2, hx315_3, hx315_4, hx315_5, hx315_6⟩ := ato90_ HR0 x5_1
           cases e315
           obtain ⟨p316, q316, ad316, e316, hx316_0, hx316_1, hx316_2, hx316_3, hx316_4, hx316_5, hx316_6⟩ := ato90_ HR0 x5_1
           obtain rfl : ad315 = ad316 := (by injection e316)
           obtain ⟨p317, q317, ad317, e317, hx317_0, hx317_1, hx317_2, hx317_3, hx317_4, hx317_5, hx317_6⟩ := ato90_ HR0 x5_1
           obtain rfl : ad315 = ad317 := (by injection e317)
           obtain ⟨p318, q318, ad318, e318, hx318_0, hx318_1, hx318_2, hx318_3, hx318_4, hx318_5, hx318_6⟩ := ato90_ HR0 x5_1
           obtain rfl : ad315 = ad318 := (by injection e318)
           obtain ⟨p319, q319, ad319, e319, hx319_0, hx319_1, hx319_2, hx319_3, hx319_4, hx319_5, hx319_6⟩ := ato90_ HR0 x5_1
           obtain rfl : ad315 = ad319 := (by injection e319)
           obtain ⟨p320, q320, ad320, e320, hx320_0, hx320_1, hx320_2, hx320_3, hx320_4, hx320_5, hx320_6⟩ := ato90_ HR0 x5_1
           obtain rfl : ad315 = ad320 := (by injection e320)
           obtain ⟨p321, q321, ad321, e321, hx321_0, hx321_1, hx321_2, hx321_3, hx321_4, hx321_5, hx321_6⟩ := ato90_ HR0 x5_1
           obtain rfl : ad315 = ad321 := (by injection e321)
           go_wp2
           go_ret
           exact ⟨z22_, z64_⟩
         ·rw [if_neg c10] at H
          have c10b0 : (((rd_T90 l0 x5_1).f5) == (wrap64 ((wrap64 ((wrap64 ((wrap64 ((wrap64 (x1_1 + 1)) + 1)) + 1)) + 1)) + 1))) = false := beq_eq_false_iff_ne.mpr c10
          have c10b1 : (((rd_T90 l0 x5_1).f5) != (wrap64 ((wrap64 ((wrap64 ((wrap64 ((wrap64 (x1_1 + 1)) + 1)) + 1)) + 1)) + 1))) = true := bne_iff_ne.mpr c10
          obtain rfl := Option.some.inj H
          obtain ⟨p315, q315, ad315, e315, hx315_0, hx315_1, hx315_2, hx315_3, hx315_4, hx315_5, hx315_6⟩ := ato90_ HR0 x5_1
          cases e315
          obtain ⟨p316, q316, ad316, e316, hx316_0, hx316_1, hx316_2, hx316_3, hx316_4, hx316_5, hx316_6⟩ := ato90_ HR0 x5_1
          obtain rfl : ad315 = ad316 := (by injection e316)
          obtain ⟨p317, q317, ad317, e317, hx317_0, hx317_1, hx317_2, hx317_3, hx317_4, hx317_5, hx317_6⟩ := ato90_ HR0 x5_1
          obtain rfl : ad315 = ad317 := (by injection e317)
          obtain ⟨p318, q318, ad318, e318, hx318_0, hx318_1, hx318_2, hx318_3, hx318_4, hx318_5, hx318_6⟩ := ato90_ HR0 x5_1
          obtain rfl : ad315 = ad318 := (by injection e318)
          obtain ⟨p319, q319, ad319, e319, hx319_0, hx319_1, hx319_2, hx319_3, hx319_4, hx319_5, hx319_6⟩ := ato90_ HR0 x5_1
          obtain rfl : ad315 = ad319 := (by injection e319)
          obtain ⟨p320, q320, ad320, e320, hx320_0, hx320_1, hx320_2, hx320_3, hx320_4, hx320_5, hx320_6⟩ := ato90_ HR0 x5_1
          obtain rfl : ad315 = ad320 := (by injection e320)
          go_wp2
          go_ret
          exact ⟨z22_, z64_⟩
        ·rw [if_neg c9] at H
         have c9b0 : (((rd_T90 l0 x5_1).f4) == (wrap64 ((wrap64 ((wrap64 ((wrap64 (x1_1 + 1)) + 1)) + 1)) + 1))) = false := beq_eq_false_iff_ne.mpr c9
         have c9b1 : (((rd_T90 l0 x5_1).f4) != (wrap64 ((wrap64 ((wrap64 ((wrap64 (x1_1 + 1)) + 1)) + 1)) + 1))) = true := bne_iff_ne.mpr c9
         obtain rfl := Option.some.inj H
         obtain ⟨p315, q315, ad315, e315, hx315_0, hx315_1, hx315_2, hx315_3, hx315_4, hx315_5, hx315_6⟩ := ato90_ HR0 x5_1
         cases e315
         obtain ⟨p316, q316, ad316, e316, hx316_0, hx316_1, hx316_2, hx316_3, hx316_4, hx316_5, hx316_6⟩ := ato90_ HR0 x5_1
         obtain rfl : ad315 = ad316 := (by injection e316)
         obtain ⟨p317, q317, ad317, e317, hx317_0, hx317_1, hx317_2, hx317_3, hx317_4, hx317_5, hx317_6⟩ := ato90_ HR0 x5_1
         obtain rfl : ad315 = ad317 := (by injection e317)
         obtain ⟨p318, q318, ad318, e318, hx318_0, hx318_1, hx318_2, hx318_3, hx318_4, hx318_5, hx318_6⟩ := ato90_ HR0 x5_1
         obtain rfl : ad315 = ad318 := (by injection e318)
         obtain ⟨p319, q319, ad319, e319, hx319_0, hx319_1, hx319_2, hx319_3, hx319_4, hx319_5, hx319_6⟩ := ato90_ HR0 x5_1
         obtain rfl : ad315 = ad319 := (by injection e319)
         go_wp2
         go_ret
         exact ⟨z22_, z64_⟩
       ·rw [if_neg c8] at H
        have c8b0 : (((rd_T90 l0 x5_1).f3) == (wrap64 ((wrap64 ((wrap64 (x1_1 + 1)) + 1)) + 1))) = false := beq_eq_false_iff_ne.mpr c8
        have c8b1 : (((rd_T90 l0 x5_1).f3) != (wrap64 ((wrap64 ((wrap64 (x1_1 + 1)) + 1)) + 1))) = true := bne_iff_ne.mpr c8
        obtain rfl := Option.some.inj H
        obtain ⟨p315, q315, ad315, e315, hx315_0, hx315_1, hx315_2, hx315_3, hx315_4, hx315_5, hx315_6⟩ := ato90_ HR0 x5_1
        cases e315
        obtain ⟨p316, q316, ad316, e316, hx316_0, hx316_1, hx316_2, hx316_3, hx316_4, hx316_5, hx316_6⟩ := ato90_ HR0 x5_1
        obtain rfl : ad315 = ad316 := (by injection e316)
        obtain ⟨p317, q317, ad317, e317, hx317_0, hx317_1, hx317_2, hx317_3, hx317_4, hx317_5, hx317_6⟩ := ato90_ HR0 x5_1
        obtain rfl : ad315 = ad317 := (by injection e317)
        obtain ⟨p318, q318, ad318, e318, hx318_0, hx318_1, hx318_2, hx318_3, hx318_4, hx318_5, hx318_6⟩ := ato90_ HR0 x5_1
        obtain rfl : ad315 = ad318 := (by injection e318)
        go_wp2
        go_ret
        exact ⟨z22_, z64_⟩
      ·rw [if_neg c7] at H
       have c7b0 : (((rd_T90 l0 x5_1).f2) == (wrap64 ((wrap64 (x1_1 + 1)) + 1))) = false := beq_eq_false_iff_ne.mpr c7
       have c7b1 : (((rd_T90 l0 x5_1).f2) != (wrap64 ((wrap64 (x1_1 + 1)) + 1))) = true := bne_iff_ne.mpr c7
       obtain rfl := Option.some.inj H
       obtain ⟨p315, q315, ad315, e315, hx315_0, hx315_1, hx315_2, hx315_3, hx315_4, hx315_5, hx315_6⟩ := ato90_ HR0 x5_1
       cases e315
       obtain ⟨p316, q316, ad316, e316, hx316_0, hx316_1, hx316_2, hx316_3, hx316_4, hx316_5, hx316_6⟩ := ato90_ HR0 x5_1
       obtain rfl : ad315 = ad316 := (by injection e316)
       obtain ⟨p317, q317, ad317, e317, hx317_0, hx317_1, hx317_2, hx317_3, hx317_4, hx317_5, hx317_6⟩ := ato90_ HR0 x5_1
       obtain rfl : ad315 = ad317 := (by injection e317)
       go_wp2
       go_ret
       exact ⟨z22_, z64_⟩
     ·rw [if_neg c6] at H
      have c6b0 : (((rd_T90 l0 x5_1).f1) == (wrap64 (x1_1 + 1))) = false := beq_eq_false_iff_ne.mpr c6
      have c6b1 : (((rd_T90 l0 x5_1).f1) != (wrap64 (x1_1 + 1))) = true := bne_iff_ne.mpr c6
      obtain rfl := Option.some.inj H
      obtain ⟨p315, q315, ad315, e315, hx315_0, hx315_1, hx315_2, hx315_3, hx315_4, hx315_5, hx315_6⟩ := ato90_ HR0 x5_1
      cases e315
      obtain ⟨p316, q316, ad316, e316, hx316_0, hx316_1, hx316_2, hx316_3, hx316_4, hx316_5, hx316_6⟩ := ato90_ HR0 x5_1
      obtain rfl : ad315 = ad316 := (by injection e316)
      go_wp2
      go_ret
      exact ⟨z22_, z64_⟩
   ·rw [if_neg c3] at H
    have c3b0 : decide (x5_1 < (l0.length : Int)) = false := decide_eq_false c3
    clear c3
    obtain rfl := Option.some.inj H
    go_wp2
    go_ret
    exact ⟨z22_, z64_⟩

/-! ### laws_heldDom: function 15 -/
def laws_heldDom.f (k : Nat) (l0_0 : List (S90)) (a1 : Int) : Option (Int) := (laws_heldDomNodeS.f k l0_0 a1).bind fun t323 => (if t323 < 0 then (some (-1)) else (some t323))
theorem laws_heldDom.mono : ∀ a0 a1 k, LeO (laws_heldDom.f k a0 a1) (laws_heldDom.f (k + 1) a0 a1) := by
 intro a0 a1 k
 unfold laws_heldDom.f
 repeat' first | (with_reducible first | exact laws_heldDomNodeS.mono _ _ _ | exact LeO.refl _ | exact LeO.none _ | refine LeO.ite ?_ ?_ | refine LeO.bind ?_ (fun _ => ?_)) | exact laws_heldDomNodeS.mono _ _ _ | exact LeO.none _ | refine LeO.ite ?_ ?_ | refine LeO.bind ?_ (fun _ => ?_)
set_option maxHeartbeats 8000000 in
set_option maxRecDepth 100000 in
theorem laws_heldDom.calls (k : Nat) (A0_0 : Option Addr) (c0_0 : Nat) (l0_0 : List (S90)) (a1 : Int) (r : Int) (w : World) (hr0_0 : Kd.C k90 w A0_0 l0_0.length l0_0) (hc0_0 : l0_0.length ≤ c0_0) (h : laws_heldDom.f k l0_0 a1 = some r) :
  Calls Try.prog 15 #[.agg #[.slice A0_0 l0_0.length c0_0], .int .i64 a1] w fun e w' => e = .returned (.int .i64 r) ∧ Below w.heap.size w w' := by
 have hu28 := Try.underlying28
 have HR0_0 := Aside0.mk hr0_0
 have HC0_0 := Aside0.mk hc0_0
 clear hr0_0 hc0_0
 have HB := Aside0.mk (Below.refl w.heap.size w)
 have H : ((laws_heldDomNodeS.f k l0_0 a1).bind fun t323 => (if t323 < 0 then (some (-1)) else (some t323))) = some r := h
 clear h
 obtain ⟨t323, A3, H⟩ := bnd_ H
 by_cases c4 : t323 < 0
 ·rw [if_pos c4] at H
  have c4b0 : decide (t323 < 0) = true := decide_eq_true c4
  clear c4
  obtain rfl := Option.some.inj H
  go_enter Try.func15, Try.ntmps15
  go_wp2_with (first | ((with_reducible refine gate_dst (N := 2) rfl ?_); refine box_event ?hg (N := 2) ?hd (cs := #[.slice A0_0 l0_0.length c0_0]) (t := 28) ?hr ?_; (case hd => rfl); (case hg => rfl); (case hr => exact z20_); intro gb322 hg w5 hbox hb; have BK322 := Aside0.mk (hbox); have GW322 := Aside0.mk ((by rw [hg]; exact (below_size z0_) : w.heap.size ≤ gb322)); have GE322 := Aside0.mk ((by rw [hg]; exact (below_size z0_) : w.heap.size ≤ gb322)); replace HB := Aside0.mk (below_step z0_ hb); clear hb hbox hg; have hcz6_0 : w5.cell? ⟨gb322, 0, none⟩ = some (.slice A0_0 l0_0.length c0_0) := (blk_cell BK322.out 0).trans rfl; have hfz6_0 := blk_frozen BK322.out 0) | ((with_reducible refine gate_callee (f := 62) rfl ?_); refine goesL_ (some 8) rfl rfl Try.func62 (by kernel_rfl) rfl #[.slice A0_0 l0_0.length c0_0, .int .i64 a1] rfl z1_ ?_; (with_reducible refine (laws_heldDomNodeS.calls k _ _ l0_0 a1 t323 _ ?side1 ?side2 A3.out).mono ?_); (case side1 => exact z10_); (case side2 => exact HC0_0.out); rintro e w' ⟨rfl, ⟨nd, rfl⟩⟩; refine ⟨_, rfl, ?_⟩))
  go_ret
  exact ⟨z4_, z188_⟩
 ·rw [if_neg c4] at H
  have c4b0 : decide (t323 < 0) = false := decide_eq_false c4
  clear c4
  obtain rfl := Option.some.inj H
  go_enter Try.func15, Try.ntmps15
  go_wp2_with (first | ((with_reducible refine gate_dst (N := 2) rfl ?_); refine box_event ?hg (N := 2) ?hd (cs := #[.slice A0_0 l0_0.length c0_0]) (t := 28) ?hr ?_; (case hd => rfl); (case hg => rfl); (case hr => exact z20_); intro gb322 hg w7 hbox hb; have BK322 := Aside0.mk (hbox); have GW322 := Aside0.mk ((by rw [hg]; exact (below_size z0_) : w.heap.size ≤ gb322)); have GE322 := Aside0.mk ((by rw [hg]; exact (below_size z0_) : w.heap.size ≤ gb322)); replace HB := Aside0.mk (below_step z0_ hb); clear hb hbox hg; have hcz8_0 : w7.cell? ⟨gb322, 0, none⟩ = some (.slice A0_0 l0_0.length c0_0) := (blk_cell BK322.out 0).trans rfl; have hfz8_0 := blk_frozen BK322.out 0) | ((with_reducible refine gate_callee (f := 62) rfl ?_); refine goesL_ (some 8) rfl rfl Try.func62 (by kernel_rfl) rfl #[.slice A0_0 l0_0.length c0_0, .int .i64 a1] rfl z1_ ?_; (with_reducible refine (laws_heldDomNodeS.calls k _ _ l0_0 a1 t323 _ ?side1 ?side2 A3.out).mono ?_); (case side1 => exact z10_); (case side2 => exact HC0_0.out); rintro e w' ⟨rfl, ⟨nd, rfl⟩⟩; refine ⟨_, rfl, ?_⟩))
  go_ret
  exact ⟨z4_, z188_⟩

end Go.Proofs.Ytmbhlfcpdbbogab.PFnExactDomRelabel
