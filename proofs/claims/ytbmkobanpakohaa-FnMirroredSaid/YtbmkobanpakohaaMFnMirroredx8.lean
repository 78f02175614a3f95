/- Laid by a program of this session out of the kit's print for the law FnMirrored: what it says of the machine is proved here, function by function; each contract under the conditions that it names. -/
import Derived.Test.YtbmkobanpakohaaMFnMirroredx0
import Derived.Test.YtbmkobanpakohaaMFnMirroredx1
namespace Go.Proofs.Ytbmkobanpakohaa.PFnMirrored
open Go.RowKit Go.Proofs.YtbmkobanpakohaaW.PrintWords Go.Proofs.YtbmkobanpakohaaW.PrintLast Go.Proofs.YtbmkobanpakohaaW.PrintMore
attribute [local go_sem] max2_int min2_int max_two min_two max_three min_three max_four min_four   -- for this text's walks alone
set_option linter.unusedVariables false
set_option linter.unusedSimpArgs false

attribute [local go_sem high] eqA61
/-! ### spec_SameTree: function 29 -/
def spec_SameTree.l0 : Nat → List (S61) → List (S61) → Int → Option (Bool)
 | 0, _, _, _ => none
 | k + 1, x0, x1, x5 => if x5 < (x0.length : Int) then (if 0 ≤ x5 then (if x5 < (x1.length : Int) then (if (!(((rd_T61 x0 x5).f0) == ((rd_T61 x1 x5).f0)) || (!(((rd_T61 x0 x5).f1) == ((rd_T61 x1 x5).f1)))) = true then (some false) else (spec_SameTree.l0 k x0 x1 (wrap64 (x5 + 1)))) else (none)) else (none)) else (some true)
def spec_SameTree.f (k : Nat) (l0 : List (S61)) (l1 : List (S61)) : Option (Bool) := if (l0.length : Int) = (l1.length : Int) then (spec_SameTree.l0 k l0 l1 0) else (some false)
set_option maxHeartbeats 8000000 in
set_option maxRecDepth 100000 in
theorem spec_SameTree.calls (k : Nat) (A0 : Option Addr) (c0 : Nat) (l0 : List (S61)) (A1 : Option Addr) (c1 : Nat) (l1 : List (S61)) (r : Bool) (w : World) (hr0 : Kd.C k61 w A0 l0.length l0) (hc0 : l0.length ≤ c0) (hr1 : Kd.C k61 w A1 l1.length l1) (hc1 : l1.length ≤ c1) (h : spec_SameTree.f k l0 l1 = some r) :
  Calls Try.prog 29 #[.slice A0 l0.length c0, .slice A1 l1.length c1] w fun e w' => e = .returned (.bool r) ∧ Drawn0 w w' := by
 have hu61 := Try.underlying61
 have HR0 := Aside0.mk hr0
 have HC0 := Aside0.mk hc0
 clear hr0 hc0
 have HR1 := Aside0.mk hr1
 have HC1 := Aside0.mk hc1
 clear hr1 hc1
 have H : (if (l0.length : Int) = (l1.length : Int) then (spec_SameTree.l0 k l0 l1 0) else (some false)) = some r := h
 clear h
 by_cases c3 : (l0.length : Int) = (l1.length : Int)
 ·rw [if_pos c3] at H
  have c3b0 : ((l0.length : Int) == (l1.length : Int)) = true := beq_iff_eq.mpr c3
  have c3b1 : ((l0.length : Int) != (l1.length : Int)) = false := bne_eq_false_iff_eq.mpr c3
  have c3b2 : (l0.length == l1.length) = true := by (simp at c3 ⊢; omega)
  clear c3
  have H' := Aside0.mk H
  clear H
  go_enter Try.func29, Try.ntmps29
  go_wp2
  go_loopg [5] k (fun kq v5 w' => ∃ (x5_1 : Int), v5 = .int .i64 x5_1 ∧ Aside0 (spec_SameTree.l0 kq l0 l1 x5_1 = some r) ∧ Aside0 (kq ≤ k) ∧ Drawn0 w w')
  case atStart => exact ⟨(0), z10_, H', ⟨Nat.le_refl _⟩, z51_⟩
  case round =>
   clear H'
   obtain ⟨x5_1, rfl, HA, HK1, ⟨m1, rfl⟩⟩ := hrel
   cases gk with
   | zero => exact absurd HA.out (by simp [spec_SameTree.l0])
   | succ k1 =>
    have H := HA.out
    clear HA
    simp only [spec_SameTree.l0] at H
    by_cases c4 : x5_1 < (l0.length : Int)
    ·rw [if_pos c4] at H
     have c4b0 := decide_eq_true c4
     clear c4
     obtain ⟨c5b0, H⟩ := ifd_ H
     obtain ⟨c6b0, H⟩ := ifd_ H
     by_cases c7 : (!(((rd_T61 l0 x5_1).f0) == ((rd_T61 l1 x5_1).f0)) || (!(((rd_T61 l0 x5_1).f1) == ((rd_T61 l1 x5_1).f1)))) = true
     ·rw [if_pos c7] at H
      have c7b0 : (!(((rd_T61 l0 x5_1).f0) == ((rd_T61 l1 x5_1).f0)) || (!(((rd_T61 l0 x5_1).f1) == ((rd_T61 l1 x5_1).f1)))) = true := c7
      clear c7
      obtain rfl := Option.some.inj H
      obtain ⟨p244, q244, ad244, e244, hx244_0, hx244_1⟩ := ato61_ HR0 x5_1
      cases e244
      obtain ⟨p245, q245, ad245, e245, hx245_0, hx245_1⟩ := ato61_ HR1 x5_1
      cases e245
      go_wp2
      repeat (go_quiet (fail); try go_wp2)
      go_ret
      exact ⟨z10_, z51_⟩
     ·rw [if_neg c7] at H
      have c7b0 : (!(((rd_T61 l0 x5_1).f0) == ((rd_T61 l1 x5_1).f0)) || (!(((rd_T61 l0 x5_1).f1) == ((rd_T61 l1 x5_1).f1)))) = false := by simpa using c7
      clear c7
      have H' := Aside0.mk H
      clear H
      obtain ⟨p244, q244, ad244, e244, hx244_0, hx244_1⟩ := ato61_ HR0 x5_1
      cases e244
      obtain ⟨p245, q245, ad245, e245, hx245_0, hx245_1⟩ := ato61_ HR1 x5_1
      cases e245
      go_wp2
      repeat (go_quiet (fail); try go_wp2)
      go_roundg k1
      case measure => have := HK1.out; omega
      case rel => exact ⟨(wrap64 (x5_1 + 1)), z10_, H', ⟨z143_⟩, z51_⟩
    ·rw [if_neg c4] at H
     have c4b0 := decide_eq_false c4
     clear c4
     obtain rfl := Option.some.inj H
     go_wp2
     go_ret
     exact ⟨z10_, z51_⟩
 ·rw [if_neg c3] at H
  have c3b0 : ((l0.length : Int) == (l1.length : Int)) = false := beq_eq_false_iff_ne.mpr c3
  have c3b1 : ((l0.length : Int) != (l1.length : Int)) = true := bne_iff_ne.mpr c3
  have c3b2 : (l0.length == l1.length) = false := by (simp at c3 ⊢; omega)
  obtain rfl := Option.some.inj H
  go_enter Try.func29, Try.ntmps29
  go_wp2
  go_ret
  exact ⟨z10_, z51_⟩

/-- A state of type 86 at block g of W; what its slices lead to came in by w0. -/
def IsS86 (w0 W : World) (g : Nat) (f0 : List Int) (f1 : Int) (f2 : Int) : Prop := ∃ A0 c0, W.heap[g]? = some (.cells #[.slice A0 f0.length c0, .int .i64 f1, .int .i64 f2] 86 (0, 0)) ∧ w0.heap.size ≤ g ∧ Kd.C (Kd.int .u8) w0 A0 f0.length f0
theorem IsS86.grown {w0 W : World} {g : Nat} {f0 : List Int} {f1 : Int} {f2 : Int} {W1 : World} {row : Option Nat} (h : IsS86 w0 W g f0 f1 f2) (hw : W.grownBy W1 row) (hne : some g ≠ row) : IsS86 w0 W1 g f0 f1 f2 := by
 obtain ⟨A0, c0, hb, hg, hr0⟩ := h
 exact ⟨A0, c0, blk_grown hb hw hne, hg, hr0⟩
theorem IsS86.own_neN {w0 W : World} {g : Nat} {f0 : List Int} {f1 : Int} {f2 : Int} {α : Type} {d : Kd α} {e : Nat} {base : Nat} {ok : Nat → Prop} {v : Value} {xs : List α} (h : IsS86 w0 W g f0 f1 f2) (ho : Kd.N d e W base ok v xs) (ht : e ≠ 86) : some g ≠ v.ownBlock := by
 obtain ⟨A0, c0, hb, hg, hr0⟩ := h
 exact Kd.N_ne ho hb ht
theorem IsS86.fresh {w0 W : World} {g : Nat} {f0 : List Int} {f1 : Int} {f2 : Int} (h : IsS86 w0 W g f0 f1 f2) : ∀ k, W.heap.size ≤ k → k ≠ g := by
 obtain ⟨A0, c0, hb, hg, hr0⟩ := h
 exact Kd.freshB hb
theorem IsS86.kept {w0 W : World} {g : Nat} {f0 : List Int} {f1 : Int} {f2 : Int} {W1 : World} {S : Nat → Prop} (h : IsS86 w0 W g f0 f1 f2) (hk : Kept W W1 S) (hne : ¬ S g) : IsS86 w0 W1 g f0 f1 f2 := by
 obtain ⟨A0, c0, hb, hg, hr0⟩ := h
 exact ⟨A0, c0, blk_kept hb hk hne, hg, hr0⟩
theorem IsS86.below {w0 W : World} {g : Nat} {f0 : List Int} {f1 : Int} {f2 : Int} {W1 : World} (h : IsS86 w0 W g f0 f1 f2) (hw : Below W.heap.size W W1) : IsS86 w0 W1 g f0 f1 f2 := h.grown (grown_of_below hw none) (by simp)
theorem IsS86.alloc {w0 W : World} {g : Nat} {f0 : List Int} {f1 : Int} {f2 : Int} (h : IsS86 w0 W g f0 f1 f2) (o : Obj) : IsS86 w0 (W.alloc o) g f0 f1 f2 := h.below (below_alloc (Below.refl _ _) o)
theorem IsS86.drewN {w0 W : World} {g : Nat} {f0 : List Int} {f1 : Int} {f2 : Int} (h : IsS86 w0 W g f0 f1 f2) (m : Nat) : IsS86 w0 (W.drewN m) g f0 f1 f2 := h
theorem IsS86.drew {w0 W : World} {g : Nat} {f0 : List Int} {f1 : Int} {f2 : Int} (h : IsS86 w0 W g f0 f1 f2) : IsS86 w0 W.drew g f0 f1 f2 := h
theorem IsS86.at_ {w0 W : World} {g : Nat} {f0 : List Int} {f1 : Int} {f2 : Int} {w' : World} {m : Nat} (hq : W.drewN m = w') (h : IsS86 w0 W g f0 f1 f2) : IsS86 w0 w' g f0 f1 f2 := by subst hq; exact IsS86.drewN h m
theorem IsS86.apart {w0 W : World} {g : Nat} {f0 : List Int} {f1 : Int} {f2 : Int} {α : Type} {d : Kd α} {e : Nat} {base : Nat} {ok : Nat → Prop} {v : Value} {xs : List α} (h : IsS86 w0 W g f0 f1 f2) (ho : d.R e W base ok v xs) (ht : ∀ q, q ∈ e :: d.E → q ≠ 86) : d.R e W base (fun k => ok k ∧ k ≠ g) v xs := by
 obtain ⟨A0, c0, hb, hg, hr0⟩ := h
 exact Kd.R_types ho hb ht
theorem IsS86.own_ne {w0 W : World} {g : Nat} {f0 : List Int} {f1 : Int} {f2 : Int} {α : Type} {d : Kd α} {e : Nat} {base : Nat} {ok : Nat → Prop} {v : Value} {xs : List α} (h : IsS86 w0 W g f0 f1 f2) (ho : d.R e W base ok v xs) (ht : e ≠ 86) : some g ≠ v.ownBlock := by
 obtain ⟨A0, c0, hb, hg, hr0⟩ := h
 exact Kd.R_ne ho hb ht
theorem IsS86.apartQ {w0 W : World} {g : Nat} {f0 : List Int} {f1 : Int} {f2 : Int} {α : Type} {d : Kd α} {e : Nat} {base : Nat} {ok : Nat → Prop} {v : Value} {xs : List α} (h : IsS86 w0 W g f0 f1 f2) (ho : d.Q e W base ok v xs) (ht : ∀ q, q ∈ e :: d.E → q ≠ 86) : d.Q e W base (fun k => ok k ∧ k ≠ g) v xs := by
 obtain ⟨A0, c0, hb, hg, hr0⟩ := h
 exact Kd.Q_types ho hb ht
theorem IsS86.own_neQ {w0 W : World} {g : Nat} {f0 : List Int} {f1 : Int} {f2 : Int} {α : Type} {d : Kd α} {e : Nat} {base : Nat} {ok : Nat → Prop} {v : Value} {xs : List α} (h : IsS86 w0 W g f0 f1 f2) (ho : d.Q e W base ok v xs) (ht : e ≠ 86) : some g ≠ v.ownBlock := by
 obtain ⟨A0, c0, hb, hg, hr0⟩ := h
 exact Kd.Q_ne ho hb ht
theorem IsS86.apartS {w0 W : World} {g : Nat} {f0 : List Int} {f1 : Int} {f2 : Int} {α : Type} {d : Kd α} {e : Nat} {base : Nat} {ok : Nat → Prop} {v : Value} {xs : List α} (h : IsS86 w0 W g f0 f1 f2) (ho : d.S e W base ok v xs) (ht : ∀ q, q ∈ e :: d.E → q ≠ 86) : d.S e W base (fun k => ok k ∧ k ≠ g) v xs := by
 obtain ⟨A0, c0, hb, hg, hr0⟩ := h
 exact Kd.S_types ho hb ht
theorem IsS86.own_neS {w0 W : World} {g : Nat} {f0 : List Int} {f1 : Int} {f2 : Int} {α : Type} {d : Kd α} {e : Nat} {base : Nat} {ok : Nat → Prop} {v : Value} {xs : List α} (h : IsS86 w0 W g f0 f1 f2) (ho : d.S e W base ok v xs) (ht : e ≠ 86) : some g ≠ v.ownBlock := by
 obtain ⟨A0, c0, hb, hg, hr0⟩ := h
 exact Kd.S_ne ho hb ht
theorem IsS86.lt {w0 W : World} {g : Nat} {f0 : List Int} {f1 : Int} {f2 : Int} (h : IsS86 w0 W g f0 f1 f2) : g < W.heap.size := by
 obtain ⟨A0, c0, hb, hg, hr0⟩ := h
 exact blk_lt hb
theorem IsS86.ge {w0 W : World} {g : Nat} {f0 : List Int} {f1 : Int} {f2 : Int} (h : IsS86 w0 W g f0 f1 f2) : w0.heap.size ≤ g := by
 obtain ⟨A0, c0, hb, hg, hr0⟩ := h
 exact hg
theorem IsS86.ne_blk {w0 W : World} {g : Nat} {f0 : List Int} {f1 : Int} {f2 : Int} {a : Nat} {cs : Array Value} {t : TypeId} {fr : Nat × Nat} (h : IsS86 w0 W g f0 f1 f2) (hb2 : W.heap[a]? = some (.cells cs t fr)) (ht : t ≠ 86) : g ≠ a := by
 obtain ⟨A0, c0, hb, hg, hr0⟩ := h
 rintro rfl
 rw [hb] at hb2
 injection hb2 with hb2
 injection hb2 with _ ht2
 exact ht ht2.symm
theorem IsS86.far {w0 W : World} {g : Nat} {f0 : List Int} {f1 : Int} {f2 : Int} {p : Addr} (h : IsS86 w0 W g f0 f1 f2) (hne : g ≠ p.block) (u : Value) : IsS86 w0 (W.setCell p u) g f0 f1 f2 := by
 obtain ⟨A0, c0, hb, hg, hr0⟩ := h
 exact ⟨A0, c0, blk_far hb hne u, hg, hr0⟩
theorem cellS86_0 {W : World} {g : Nat} {A0 : Option Addr} {c0 : Nat} {f0 : List Int} {f1 : Int} {f2 : Int} (h : W.heap[g]? = some (.cells #[.slice A0 f0.length c0, .int .i64 f1, .int .i64 f2] 86 (0, 0))) : W.cell? ⟨g, 0, none⟩ = some (.slice A0 f0.length c0) := (blk_cell h 0).trans rfl
theorem cellS86_1 {W : World} {g : Nat} {A0 : Option Addr} {c0 : Nat} {f0 : List Int} {f1 : Int} {f2 : Int} (h : W.heap[g]? = some (.cells #[.slice A0 f0.length c0, .int .i64 f1, .int .i64 f2] 86 (0, 0))) : W.cell? ⟨g, 1, none⟩ = some (.int .i64 f1) := (blk_cell h 1).trans rfl
theorem IsS86.set_1 {w0 W : World} {g : Nat} {f0 : List Int} {f1 : Int} {f2 : Int} (h : IsS86 w0 W g f0 f1 f2) (x : Int) : IsS86 w0 (W.setCell ⟨g, 1, none⟩ (.int .i64 x)) g f0 x f2 := by
 obtain ⟨A0, c0, hb, hg, hr0⟩ := h
 exact ⟨A0, c0, by simpa using blk_set hb 1 (.int .i64 x), hg, hr0⟩
theorem cellS86_2 {W : World} {g : Nat} {A0 : Option Addr} {c0 : Nat} {f0 : List Int} {f1 : Int} {f2 : Int} (h : W.heap[g]? = some (.cells #[.slice A0 f0.length c0, .int .i64 f1, .int .i64 f2] 86 (0, 0))) : W.cell? ⟨g, 2, none⟩ = some (.int .i64 f2) := (blk_cell h 2).trans rfl
theorem IsS86.set_2 {w0 W : World} {g : Nat} {f0 : List Int} {f1 : Int} {f2 : Int} (h : IsS86 w0 W g f0 f1 f2) (x : Int) : IsS86 w0 (W.setCell ⟨g, 2, none⟩ (.int .i64 x)) g f0 f1 x := by
 obtain ⟨A0, c0, hb, hg, hr0⟩ := h
 exact ⟨A0, c0, by simpa using blk_set hb 2 (.int .i64 x), hg, hr0⟩
theorem IsS86.new (w0 W : World) (A0 : Option Addr) (c0 : Nat) (f0 : List Int) (f1 : Int) (f2 : Int) (hB : Below w0.heap.size w0 W) (hr0 : Kd.C (Kd.int .u8) w0 A0 f0.length f0) : IsS86 w0 (W.alloc (.cells #[.slice A0 f0.length c0, .int .i64 f1, .int .i64 f2] 86)) W.heap.size f0 f1 f2 := ⟨A0, c0, by simpa using heap_alloc_new W _, hB.size, hr0⟩

/-! ### spec_l1New: function 45 -/
def spec_l1New.l0 : Nat → List Int → Int → Int → Option (List Int × Int × Int)
 | 0, _, _, _ => none
 | k + 1, x0, x3, x4 => if x4 < (x0.length : Int) then (if x4 < 4000 then (if 0 ≤ x4 then (spec_l1New.l0 k x0 (Go.bits .and .i64 (wrap64 ((wrap64 ((wrap64 (x3 * 131)) + (wrap64 (rd x0 x4)))) + 7)) 1073741823) (wrap64 (x4 + 1))) else (none)) else (some (x0, 0, x3))) else (some (x0, 0, x3))
def spec_l1New.f (k : Nat) (l0 : List Int) : Option (List Int × Int × Int) := spec_l1New.l0 k l0 (wrap64 (10101 + (l0.length : Int))) 0
set_option maxHeartbeats 8000000 in
set_option maxRecDepth 100000 in
theorem spec_l1New.calls (k : Nat) (A0 : Option Addr) (c0 : Nat) (l0 : List Int) (r1 : List Int) (r2 : Int) (r3 : Int) (w0 w : World) (hB : Below w0.heap.size w0 w) (hr0 : Kd.C (Kd.int .u8) w0 A0 l0.length l0) (hc0 : l0.length ≤ c0) (h : spec_l1New.f k l0 = some (r1, r2, r3)) :
  Calls Try.prog 45 #[.slice A0 l0.length c0] w fun e w' => ∃ g_ : Nat, e = .returned (.pointer (some ⟨g_, 0, none⟩)) ∧ IsS86 w0 w' g_ r1 r2 r3 ∧ Below w0.heap.size w0 w' ∧ Below w.heap.size w w' := by
 have hu86 := Try.underlying86
 have HR0 := Aside0.mk hr0
 have HC0 := Aside0.mk hc0
 clear hr0 hc0
 have HBW := Aside0.mk (Below.refl w.heap.size w)
 have HW0 := Aside0.mk hB.size
 have HB := Aside0.mk hB
 clear hB
 have H : (spec_l1New.l0 k l0 (wrap64 (10101 + (l0.length : Int))) 0) = some (r1, r2, r3) := h
 clear h
 have H' := Aside0.mk H
 clear H
 go_enter Try.func45, Try.ntmps45
 go_wp2
 go_loopg [3, 4] k (fun kq v3 v4 w' => ∃ (x3_1 : Int) (x4_1 : Int), v3 = .int .i64 x3_1 ∧ v4 = .int .i64 x4_1 ∧ Aside0 (spec_l1New.l0 kq l0 x3_1 x4_1 = some (r1, r2, r3)) ∧ Aside0 (kq ≤ k) ∧ Aside0 (Below w0.heap.size w0 w') ∧ Aside0 (Below w.heap.size w w'))
 case atStart => exact ⟨(wrap64 (10101 + (l0.length : Int))), (0), z10_, z10_, H', ⟨Nat.le_refl _⟩, ⟨z0_⟩, ⟨z106_⟩⟩
 case round =>
  clear H'
  obtain ⟨x3_1, x4_1, rfl, rfl, HA, HK1, HB, HBW2⟩ := hrel
  clear HBW
  have HBW := HBW2
  clear HBW2
  cases gk with
  | zero => exact absurd HA.out (by simp [spec_l1New.l0])
  | succ k1 =>
   have H := HA.out
   clear HA
   simp only [spec_l1New.l0] at H
   by_cases c2 : x4_1 < (l0.length : Int)
   ·rw [if_pos c2] at H
    have c2b0 := decide_eq_true c2
    clear c2
    by_cases c3 : x4_1 < 4000
    ·rw [if_pos c3] at H
     have c3b0 := decide_eq_true c3
     clear c3
     obtain ⟨c4b0, H⟩ := ifd_ H
     have H' := Aside0.mk H
     clear H
     have p246 : 0 ≤ (x4_1 : Int) := odt_
     have q246 : x4_1 < (l0.length : Int) := odt_
     obtain ⟨ad246, e246, hx246_0⟩ := Kd.at_int HR0.out x4_1 p246 q246
     cases e246
     replace hx246_0 := pw_cell_below HB.out hx246_0
     replace p246 := eq_true p246
     replace q246 := eq_true q246
     go_wp2
     go_roundg k1
     case measure => have := HK1.out; omega
     case rel => exact ⟨(Go.bits .and .i64 (wrap64 ((wrap64 ((wrap64 (x3_1 * 131)) + (wrap64 (rd l0 x4_1)))) + 7)) 1073741823), (wrap64 (x4_1 + 1)), z10_, z10_, H', ⟨z143_⟩, ⟨z0_⟩, ⟨z106_⟩⟩
    ·rw [if_neg c3] at H
     have c3b0 := decide_eq_false c3
     clear c3
     simp only [Option.some.injEq, Prod.mk.injEq] at H
     obtain ⟨rfl, rfl, rfl⟩ := H
     go_wp2_with (((with_reducible refine gate_dst (N := 31) rfl ?_); refine box_event ?hg (N := 31) ?hd (cs := #[.slice A0 l0.length c0, .int .i64 0, .int .i64 x3_1]) (t := 86) ?hr ?_; (case hd => rfl); (case hg => rfl); (case hr => exact z19_); intro gb247 hg w5 hbox hb; replace HB := Aside0.mk (below_step z0_ hb); have BK247 := Aside0.mk (hbox); have GW247 := Aside0.mk ((by rw [hg]; exact (below_size z106_) : w.heap.size ≤ gb247)); have GE247 := Aside0.mk ((Nat.le_trans HW0.out (by rw [hg]; exact (below_size z106_) : w.heap.size ≤ gb247) : w0.heap.size ≤ gb247)); replace HBW := Aside0.mk (below_step HBW.out hb); clear hb hbox hg))
     go_ret
     exact ⟨_, rfl, (show IsS86 w0 _ gb247 l0 0 x3_1 from ⟨_, _, by exact BK247.out, GE247.out, HR0.out⟩), by repeat ((with_reducible exact HB.out)), by repeat ((with_reducible exact HBW.out))⟩
   ·rw [if_neg c2] at H
    have c2b0 := decide_eq_false c2
    clear c2
    simp only [Option.some.injEq, Prod.mk.injEq] at H
    obtain ⟨rfl, rfl, rfl⟩ := H
    go_wp2_with (((with_reducible refine gate_dst (N := 31) rfl ?_); refine box_event ?hg (N := 31) ?hd (cs := #[.slice A0 l0.length c0, .int .i64 0, .int .i64 x3_1]) (t := 86) ?hr ?_; (case hd => rfl); (case hg => rfl); (case hr => exact z19_); intro gb248 hg w6 hbox hb; replace HB := Aside0.mk (below_step z0_ hb); have BK248 := Aside0.mk (hbox); have GW248 := Aside0.mk ((by rw [hg]; exact (below_size z106_) : w.heap.size ≤ gb248)); have GE248 := Aside0.mk ((Nat.le_trans HW0.out (by rw [hg]; exact (below_size z106_) : w.heap.size ≤ gb248) : w0.heap.size ≤ gb248)); replace HBW := Aside0.mk (below_step HBW.out hb); clear hb hbox hg))
    go_ret
    exact ⟨_, rfl, (show IsS86 w0 _ gb248 l0 0 x3_1 from ⟨_, _, by exact BK248.out, GE248.out, HR0.out⟩), by repeat ((with_reducible exact HB.out)), by repeat ((with_reducible exact HBW.out))⟩

/-! ### spec_l1Byte: function 84 -/
def spec_l1Byte.f (s0_0 : List Int) (s0_1 : Int) (s0_2 : Int) : Option (Int × Int × Int) := if s0_1 < (s0_0.length : Int) then (if 0 ≤ s0_1 then (some (Go.bits .and .i64 (wrap64 ((Go.bits .and .i64 (Go.bits .xor .i64 ((wrap64 ((wrap64 (s0_2 * 6364136223846793005)) + 1442695040888963407)) / 8589934592) ((wrap64 ((wrap64 (s0_2 * 6364136223846793005)) + 1442695040888963407)) / 35184372088832)) 255) + (wrap64 (rd s0_0 s0_1)))) 255, wrap64 (s0_1 + 1), wrap64 ((wrap64 (s0_2 * 6364136223846793005)) + 1442695040888963407))) else (none)) else (some (Go.bits .and .i64 (Go.bits .xor .i64 ((wrap64 ((wrap64 (s0_2 * 6364136223846793005)) + 1442695040888963407)) / 8589934592) ((wrap64 ((wrap64 (s0_2 * 6364136223846793005)) + 1442695040888963407)) / 35184372088832)) 255, s0_1, wrap64 ((wrap64 (s0_2 * 6364136223846793005)) + 1442695040888963407)))
set_option maxHeartbeats 8000000 in
set_option maxRecDepth 100000 in
theorem spec_l1Byte.calls (g : Nat) (s0_0 : List Int) (s0_1 : Int) (s0_2 : Int) (r1 : Int) (r2 : Int) (r3 : Int) (w0 w : World) (hI : IsS86 w0 w g s0_0 s0_1 s0_2) (hB : Below w0.heap.size w0 w) (h : spec_l1Byte.f s0_0 s0_1 s0_2 = some (r1, r2, r3)) :
  Calls Try.prog 84 #[.pointer (some ⟨g, 0, none⟩)] w fun e w' => e = .returned (.int .i64 r1) ∧ IsS86 w0 w' g s0_0 r2 r3 ∧ Below w0.heap.size w0 w' ∧ KeepBut w w' g none := by
 have HI0 := Aside0.mk hI
 have HK := Aside0.mk (KeepBut.refl w g none)
 have HL := Aside0.mk hB.size
 clear hI
 have HW0 := Aside0.mk hB.size
 have HB := Aside0.mk hB
 clear hB
 have H : (if s0_1 < (s0_0.length : Int) then (if 0 ≤ s0_1 then (some (Go.bits .and .i64 (wrap64 ((Go.bits .and .i64 (Go.bits .xor .i64 ((wrap64 ((wrap64 (s0_2 * 6364136223846793005)) + 1442695040888963407)) / 8589934592) ((wrap64 ((wrap64 (s0_2 * 6364136223846793005)) + 1442695040888963407)) / 35184372088832)) 255) + (wrap64 (rd s0_0 s0_1)))) 255, wrap64 (s0_1 + 1), wrap64 ((wrap64 (s0_2 * 6364136223846793005)) + 1442695040888963407))) else (none)) else (some (Go.bits .and .i64 (Go.bits .xor .i64 ((wrap64 ((wrap64 (s0_2 * 6364136223846793005)) + 1442695040888963407)) / 8589934592) ((wrap64 ((wrap64 (s0_2 * 6364136223846793005)) + 1442695040888963407)) / 35184372088832)) 255, s0_1, wrap64 ((wrap64 (s0_2 * 6364136223846793005)) + 1442695040888963407)))) = some (r1, r2, r3) := h
 clear h
 by_cases c2 : s0_1 < (s0_0.length : Int)
 ·rw [if_pos c2] at H
  have c2b0 := decide_eq_true c2
  clear c2
  obtain ⟨c3b0, H⟩ := ifd_ H
  simp only [Option.some.injEq, Prod.mk.injEq] at H
  obtain ⟨rfl, rfl, rfl⟩ := H
  obtain ⟨ASz4_0, cSz4_0, HGz4, hgz4, HSz4_0⟩ := HI0.out
  have hcz4_0 := cellS86_0 HGz4
  have hcz4_1 := cellS86_1 HGz4
  have hcz4_2 := cellS86_2 HGz4
  have hfz4_1 := blk_frozen HGz4 1
  have hfz4_2 := blk_frozen HGz4 2
  clear HGz4 hgz4
  have p249 : 0 ≤ (s0_1 : Int) := odt_
  have q249 : s0_1 < (s0_0.length : Int) := odt_
  obtain ⟨ad249, e249, hx249_0⟩ := Kd.at_int HSz4_0 s0_1 p249 q249
  cases e249
  have hn249_0 : ad249.block ≠ g := Nat.ne_of_lt (Nat.lt_of_lt_of_le (by have := World.block_lt_of_cell? _ _ hx249_0; rwa [add_block] at this) (IsS86.ge HI0.out))
  replace hx249_0 := pw_cell_below HB.out hx249_0
  replace hx249_0 := (cell_far (p := ⟨g, 2, none⟩) (by (rw [add_block]; exact hn249_0)) (.int .i64 (wrap64 ((wrap64 (s0_2 * 6364136223846793005)) + 1442695040888963407)))).trans hx249_0
  (try have hy249_0 := fun (n_ : Nat) => (show (((w.drewN n_).setCell ⟨g, 2, none⟩ (.int .i64 (wrap64 ((wrap64 (s0_2 * 6364136223846793005)) + 1442695040888963407))))).cell? _ = some _ from hx249_0))
  clear hn249_0
  replace p249 := eq_true p249
  replace q249 := eq_true q249
  go_enter Try.func84, Try.ntmps84
  go_wp2
  repeat (go_quiet (fail); try go_wp2)
  go_ret
  exact ⟨z6_, z3_, z4_, z2_⟩
 ·rw [if_neg c2] at H
  have c2b0 := decide_eq_false c2
  clear c2
  simp only [Option.some.injEq, Prod.mk.injEq] at H
  obtain ⟨rfl, rfl, rfl⟩ := H
  obtain ⟨ASz5_0, cSz5_0, HGz5, hgz5, HSz5_0⟩ := HI0.out
  have hcz5_0 := cellS86_0 HGz5
  have hcz5_1 := cellS86_1 HGz5
  have hcz5_2 := cellS86_2 HGz5
  have hfz5_1 := blk_frozen HGz5 1
  have hfz5_2 := blk_frozen HGz5 2
  clear HGz5 hgz5
  go_enter Try.func84, Try.ntmps84
  go_wp2
  repeat (go_quiet (fail); try go_wp2)
  go_ret
  exact ⟨z6_, z3_, z4_, z2_⟩

/-! ### spec_l1Below: function 64 -/
def spec_l1Below.f (s0_0 : List Int) (s0_1 : Int) (s0_2 : Int) (a1 : Int) : Option (Int × Int × Int) := if a1 ≤ 0 then (some (0, s0_1, s0_2)) else (if a1 ≤ 256 then ((spec_l1Byte.f s0_0 s0_1 s0_2).bind fun bt250 => (if a1 = 0 then (none) else (some (Int.tmod bt250.1 a1, bt250.2.1, bt250.2.2)))) else ((spec_l1Byte.f s0_0 s0_1 s0_2).bind fun bt253 => ((spec_l1Byte.f s0_0 bt253.2.1 bt253.2.2).bind fun bt256 => ((spec_l1Byte.f s0_0 bt256.2.1 bt256.2.2).bind fun bt259 => ((spec_l1Byte.f s0_0 bt259.2.1 bt259.2.2).bind fun bt262 => (if a1 = 0 then (none) else (some (Int.tmod (wrap64 ((wrap64 ((wrap64 ((wrap64 (bt253.1 * 16777216)) + (wrap64 (bt256.1 * 65536)))) + (wrap64 (bt259.1 * 256)))) + bt262.1)) a1, bt262.2.1, bt262.2.2))))))))
set_option maxHeartbeats 8000000 in
set_option maxRecDepth 100000 in
theorem spec_l1Below.calls (g : Nat) (s0_0 : List Int) (s0_1 : Int) (s0_2 : Int) (a1 : Int) (r1 : Int) (r2 : Int) (r3 : Int) (w0 w : World) (hI : IsS86 w0 w g s0_0 s0_1 s0_2) (hB : Below w0.heap.size w0 w) (h : spec_l1Below.f s0_0 s0_1 s0_2 a1 = some (r1, r2, r3)) :
  Calls Try.prog 64 #[.pointer (some ⟨g, 0, none⟩), .int .i64 a1] w fun e w' => e = .returned (.int .i64 r1) ∧ IsS86 w0 w' g s0_0 r2 r3 ∧ Below w0.heap.size w0 w' ∧ KeepBut w w' g none := by
 have HI0 := Aside0.mk hI
 have HK := Aside0.mk (KeepBut.refl w g none)
 have HL := Aside0.mk hB.size
 clear hI
 have HW0 := Aside0.mk hB.size
 have HB := Aside0.mk hB
 clear hB
 have H : (if a1 ≤ 0 then (some (0, s0_1, s0_2)) else (if a1 ≤ 256 then ((spec_l1Byte.f s0_0 s0_1 s0_2).bind fun bt250 => (if a1 = 0 then (none) else (some (Int.tmod bt250.1 a1, bt250.2.1, bt250.2.2)))) else ((spec_l1Byte.f s0_0 s0_1 s0_2).bind fun bt253 => ((spec_l1Byte.f s0_0 bt253.2.1 bt253.2.2).bind fun bt256 => ((spec_l1Byte.f s0_0 bt256.2.1 bt256.2.2).bind fun bt259 => ((spec_l1Byte.f s0_0 bt259.2.1 bt259.2.2).bind fun bt262 => (if a1 = 0 then (none) else (some (Int.tmod (wrap64 ((wrap64 ((wrap64 ((wrap64 (bt253.1 * 16777216)) + (wrap64 (bt256.1 * 65536)))) + (wrap64 (bt259.1 * 256)))) + bt262.1)) a1, bt262.2.1, bt262.2.2))))))))) = some (r1, r2, r3) := h
 clear h
 by_cases c3 : a1 ≤ 0
 ·rw [if_pos c3] at H
  have c3b0 := decide_eq_true c3
  clear c3
  simp only [Option.some.injEq, Prod.mk.injEq] at H
  obtain ⟨rfl, rfl, rfl⟩ := H
  go_enter Try.func64, Try.ntmps64
  go_wp2
  go_ret
  exact ⟨z6_, z3_, z4_, z2_⟩
 ·rw [if_neg c3] at H
  have c3b0 := decide_eq_false c3
  clear c3
  by_cases c4 : a1 ≤ 256
  ·rw [if_pos c4] at H
   have c4b0 := decide_eq_true c4
   clear c4
   replace H := Option.bind_eq_some_iff.mp H
   obtain ⟨⟨t250, t251, t252⟩, A50, H⟩ := H
   try dsimp only at H
   have A5 := Aside0.mk A50
   clear A50
   by_cases c6 : a1 = 0
   ·rw [if_pos c6] at H
    exact absurd H (by simp)
   ·rw [if_neg c6] at H
    have c6b0 : (a1 == 0) = false := beq_eq_false_iff_ne.mpr c6
    have c6b1 : (a1 != 0) = true := bne_iff_ne.mpr c6
    simp only [Option.some.injEq, Prod.mk.injEq] at H
    obtain ⟨rfl, rfl, rfl⟩ := H
    go_enter Try.func64, Try.ntmps64
    go_wp2_with (((with_reducible refine gate_callee (f := 84) rfl ?_); refine goesL_ (some 14) rfl rfl Try.func84 (by kernel_rfl) rfl #[.pointer (some ⟨g, 0, none⟩)] rfl z1_ ?_; (with_reducible refine (spec_l1Byte.calls g s0_0 s0_1 s0_2 t250 t251 t252 w0 _ ?side1 ?side2 A5.out).mono ?_); (case side1 => exact z3_); (case side2 => exact z4_); rintro e w7 ⟨rfl, hi, hb, hk⟩; refine ⟨_, rfl, ?_⟩; replace HK := Aside0.mk (KeepBut.trans z2_ hk (.inl rfl)); replace HB := Aside0.mk (hb); replace HI0 := Aside0.mk (hi); (try clear hb hk hi)))
    go_ret
    exact ⟨z6_, z3_, z4_, z2_⟩
  ·rw [if_neg c4] at H
   have c4b0 := decide_eq_false c4
   clear c4
   replace H := Option.bind_eq_some_iff.mp H
   obtain ⟨⟨t253, t254, t255⟩, A80, H⟩ := H
   try dsimp only at H
   have A8 := Aside0.mk A80
   clear A80
   replace H := Option.bind_eq_some_iff.mp H
   obtain ⟨⟨t256, t257, t258⟩, A90, H⟩ := H
   try dsimp only at H
   have A9 := Aside0.mk A90
   clear A90
   replace H := Option.bind_eq_some_iff.mp H
   obtain ⟨⟨t259, t260, t261⟩, A100, H⟩ := H
   try dsimp only at H
   have A10 := Aside0.mk A100
   clear A100
   replace H := Option.bind_eq_some_iff.mp H
   obtain ⟨⟨t262, t263, t264⟩, A110, H⟩ := H
   try dsimp only at H
   have A11 := Aside0.mk A110
   clear A110
   by_cases c12 : a1 = 0
   ·rw [if_pos c12] at H
    exact absurd H (by simp)
   ·rw [if_neg c12] at H
    have c12b0 : (a1 == 0) = false := beq_eq_false_iff_ne.mpr c12
    have c12b1 : (a1 != 0) = true := bne_iff_ne.mpr c12
    simp only [Option.some.injEq, Prod.mk.injEq] at H
    obtain ⟨rfl, rfl, rfl⟩ := H
    go_enter Try.func64, Try.ntmps64
    go_wp2_with (first | ((with_reducible refine gate_callee (f := 84) rfl ?_); refine goesL_ (some 18) rfl rfl Try.func84 (by kernel_rfl) rfl #[.pointer (some ⟨g, 0, none⟩)] rfl z1_ ?_; (with_reducible refine (spec_l1Byte.calls g s0_0 s0_1 s0_2 t253 t254 t255 w0 _ ?side1 ?side2 A8.out).mono ?_); (case side1 => exact z3_); (case side2 => exact z4_); rintro e w13 ⟨rfl, hi, hb, hk⟩; refine ⟨_, rfl, ?_⟩; replace HK := Aside0.mk (KeepBut.trans z2_ hk (.inl rfl)); replace HB := Aside0.mk (hb); replace HI0 := Aside0.mk (hi); (try clear hb hk hi)) | ((with_reducible refine gate_callee (f := 84) rfl ?_); refine goesL_ (some 20) rfl rfl Try.func84 (by kernel_rfl) rfl #[.pointer (some ⟨g, 0, none⟩)] rfl z1_ ?_; (with_reducible refine (spec_l1Byte.calls g s0_0 t254 t255 t256 t257 t258 w0 _ ?side1 ?side2 A9.out).mono ?_); (case side1 => exact z3_); (case side2 => exact z4_); rintro e w14 ⟨rfl, hi, hb, hk⟩; refine ⟨_, rfl, ?_⟩; replace HK := Aside0.mk (KeepBut.trans z2_ hk (.inl rfl)); replace HB := Aside0.mk (hb); replace HI0 := Aside0.mk (hi); (try clear hb hk hi)) | ((with_reducible refine gate_callee (f := 84) rfl ?_); refine goesL_ (some 22) rfl rfl Try.func84 (by kernel_rfl) rfl #[.pointer (some ⟨g, 0, none⟩)] rfl z1_ ?_; (with_reducible refine (spec_l1Byte.calls g s0_0 t257 t258 t259 t260 t261 w0 _ ?side1 ?side2 A10.out).mono ?_); (case side1 => exact z3_); (case side2 => exact z4_); rintro e w15 ⟨rfl, hi, hb, hk⟩; refine ⟨_, rfl, ?_⟩; replace HK := Aside0.mk (KeepBut.trans z2_ hk (.inl rfl)); replace HB := Aside0.mk (hb); replace HI0 := Aside0.mk (hi); (try clear hb hk hi)) | ((with_reducible refine gate_callee (f := 84) rfl ?_); refine goesL_ (some 24) rfl rfl Try.func84 (by kernel_rfl) rfl #[.pointer (some ⟨g, 0, none⟩)] rfl z1_ ?_; (with_reducible refine (spec_l1Byte.calls g s0_0 t260 t261 t262 t263 t264 w0 _ ?side1 ?side2 A11.out).mono ?_); (case side1 => exact z3_); (case side2 => exact z4_); rintro e w16 ⟨rfl, hi, hb, hk⟩; refine ⟨_, rfl, ?_⟩; replace HK := Aside0.mk (KeepBut.trans z2_ hk (.inl rfl)); replace HB := Aside0.mk (hb); replace HI0 := Aside0.mk (hi); (try clear hb hk hi)))
    go_ret
    exact ⟨z6_, z3_, z4_, z2_⟩

/-! ### spec_UnitCost: function 38 -/
mutual
def spec_UnitCost.l0 : Nat → Int → List Int → List Int → List Int → Option (List Int × List Int × List Int)
 | 0, _, _, _, _ => none
 | k + 1, x2, x267000, x267001, x267002 => if x2 < 6 then (if x267000.length < 17592186044416 then (if x267001.length < 17592186044416 then (spec_UnitCost.l1 k x2 0 (x267000 ++ [1]) (x267001 ++ [1]) x267002) else (none)) else (none)) else (some (x267000, x267001, x267002))
def spec_UnitCost.l1 : Nat → Int → Int → List Int → List Int → List Int → Option (List Int × List Int × List Int)
 | 0, _, _, _, _, _ => none
 | k + 1, x2, x3, x267000, x267001, x267002 => if x3 < 6 then (if x2 = x3 then (if x267002.length < 17592186044416 then (spec_UnitCost.l1 k x2 (wrap64 (x3 + 1)) x267000 x267001 (x267002 ++ [0])) else (none)) else (if x267002.length < 17592186044416 then (spec_UnitCost.l1 k x2 (wrap64 (x3 + 1)) x267000 x267001 (x267002 ++ [1])) else (none))) else (spec_UnitCost.l0 k (wrap64 (x2 + 1)) x267000 x267001 x267002)
end
def spec_UnitCost.f (k : Nat)  : Option (List Int × List Int × List Int) := spec_UnitCost.l0 k 0 ([] : List Int) ([] : List Int) ([] : List Int)
set_option maxHeartbeats 8000000 in
set_option maxRecDepth 100000 in
theorem spec_UnitCost.calls (k : Nat)  (r1 : List Int) (r2 : List Int) (r3 : List Int) (w : World) (h : spec_UnitCost.f k  = some (r1, r2, r3)) :
  Calls Try.prog 38 #[] w fun e w' => ∃ v0_ v1_ v2_ : Value, e = .returned (.agg #[v0_, v1_, v2_]) ∧ Kd.R (Kd.int .i64) 3 w' w.heap.size (fun k_ => some k_ ≠ (v1_ : Value).ownBlock ∧ some k_ ≠ (v2_ : Value).ownBlock) v0_ r1 ∧ Kd.R (Kd.int .i64) 3 w' w.heap.size (fun k_ => some k_ ≠ (v0_ : Value).ownBlock ∧ some k_ ≠ (v2_ : Value).ownBlock) v1_ r2 ∧ Kd.R (Kd.int .i64) 3 w' w.heap.size (fun k_ => some k_ ≠ (v0_ : Value).ownBlock ∧ some k_ ≠ (v1_ : Value).ownBlock) v2_ r3 ∧ Below w.heap.size w w' := by
 have hu38 := Try.underlying38
 have HB := Aside0.mk (Below.refl w.heap.size w)
 have H : (spec_UnitCost.l0 k 0 ([] : List Int) ([] : List Int) ([] : List Int)) = some (r1, r2, r3) := h
 clear h
 have H' := Aside0.mk H
 clear H
 go_enter Try.func38, Try.ntmps38
 go_wp2_with (first | ((with_reducible refine gate_dst (N := 0) rfl ?_); refine box_event ?hg (N := 0) ?hd (cs := #[.slice none 0 0, .slice none 0 0, .slice none 0 0]) (t := 38) ?hr ?_; (case hd => rfl); (case hg => rfl); (case hr => exact z19_); intro gb265 hg w1 hbox hb; have BK265 := Aside0.mk (hbox); have GW265 := Aside0.mk ((by rw [hg]; exact (below_size z0_) : w.heap.size ≤ gb265)); have GE265 := Aside0.mk ((by rw [hg]; exact (below_size z0_) : w.heap.size ≤ gb265)); replace HB := Aside0.mk (below_step z0_ hb); clear hb hbox hg) | ((with_reducible refine gate_dst (N := 1) rfl ?_); refine box_event ?hg (N := 1) ?hd (cs := #[.slice none 0 0, .slice none 0 0, .slice none 0 0]) (t := 38) ?hr ?_; (case hd => rfl); (case hg => rfl); (case hr => exact z19_); intro gb266 hg w2 hbox hb; have BK266 := Aside0.mk (hbox); have GW266 := Aside0.mk ((by rw [hg]; exact (below_size z167_) : w.heap.size ≤ gb266)); have GE266 := Aside0.mk ((by rw [hg]; exact (below_size z167_) : w.heap.size ≤ gb266)); replace HB := Aside0.mk (below_step z167_ hb); have NB265_266 := Aside0.mk ((by rw [hg]; exact Nat.ne_of_lt (blk_lt (g := gb265) (o := .cells #[.slice none 0 0, .slice none 0 0, .slice none 0 0] 38 (0, 0)) z104_) : gb265 ≠ gb266)); have NB266_265 := Aside0.mk ((by rw [hg]; exact Nat.ne_of_gt (blk_lt (g := gb265) (o := .cells #[.slice none 0 0, .slice none 0 0, .slice none 0 0] 38 (0, 0)) z104_) : gb266 ≠ gb265)); replace BK265 := Aside0.mk (blk_below z104_ hb); clear hb hbox hg; have hnb3 := NB266_265.out; have hnc3 := NB265_266.out; obtain ⟨hcz4_0, hcz4_1, hcz4_2, hfz4_0, hfz4_1, hfz4_2⟩ := bx3_ BK266.out))
 go_loopg [2] k (fun kq v2 w' => ∃ (x2_1 : Int) (x267000_1 : List Int) (x267001_1 : List Int) (x267002_1 : List Int) (u267000 : Value) (u267001 : Value) (u267002 : Value), v2 = .int .i64 x2_1 ∧ Aside0 (spec_UnitCost.l0 kq x2_1 x267000_1 x267001_1 x267002_1 = some (r1, r2, r3)) ∧ Aside0 (kq ≤ k) ∧ Aside0 (Kd.R (Kd.int .i64) 3 w' w.heap.size (fun k_ => some k_ ≠ (u267001 : Value).ownBlock ∧ some k_ ≠ (u267002 : Value).ownBlock) u267000 x267000_1) ∧ Aside0 (Kd.R (Kd.int .i64) 3 w' w.heap.size (fun k_ => some k_ ≠ (u267000 : Value).ownBlock ∧ some k_ ≠ (u267002 : Value).ownBlock) u267001 x267001_1) ∧ Aside0 (Kd.R (Kd.int .i64) 3 w' w.heap.size (fun k_ => some k_ ≠ (u267000 : Value).ownBlock ∧ some k_ ≠ (u267001 : Value).ownBlock) u267002 x267002_1) ∧ Aside0 (w'.heap[gb265]? = some (.cells #[(.slice none 0 0), (.slice none 0 0), (.slice none 0 0)] 38 (0, 0))) ∧ Aside0 (w'.heap[gb266]? = some (.cells #[u267000, u267001, u267002] 38 (0, 0))) ∧ Aside0 (Below w.heap.size w w'))
 case atStart => exact ⟨(0), (([] : List Int)), (([] : List Int)), (([] : List Int)), (.slice none 0 0), (.slice none 0 0), (.slice none 0 0), z10_, H', ⟨Nat.le_refl _⟩, ⟨z62_⟩, ⟨z62_⟩, ⟨z62_⟩, ⟨by refine blk_far ?_ NB265_266.out _; refine blk_far ?_ NB265_266.out _; refine blk_far ?_ NB265_266.out _; exact BK265.out⟩, ⟨by refine blk_put (cs := #[.slice none 0 0, .slice none 0 0, .slice none 0 0]) ?_ 2 _ rfl; refine blk_put (cs := #[.slice none 0 0, .slice none 0 0, .slice none 0 0]) ?_ 1 _ rfl; refine blk_put (cs := #[.slice none 0 0, .slice none 0 0, .slice none 0 0]) ?_ 0 _ rfl; exact BK266.out⟩, ⟨z33_⟩⟩
 case round =>
  clear H'
  obtain ⟨x2_1, x267000_1, x267001_1, x267002_1, u267000, u267001, u267002, rfl, HA, HK1, HO_267000, HO_267001, HO_267002, BK265, BK266, HB⟩ := hrel
  cases gk with
  | zero => exact absurd HA.out (by simp [spec_UnitCost.l0])
  | succ k1 =>
   have H := HA.out
   clear HA
   simp only [spec_UnitCost.l0] at H
   by_cases c5 : x2_1 < 6
   ·rw [if_pos c5] at H
    have c5b0 := decide_eq_true c5
    clear c5
    obtain ⟨c6, H⟩ := ifs_ H
    have LMc6 := Aside0.mk c6
    clear c6
    (generalize hy_ : ((x267000_1 ++ [1]) : List Int) = y267 at H; have Ny267 := Aside0.mk hy_.symm; clear hy_)
    obtain ⟨c7, H⟩ := ifs_ H
    have LMc7 := Aside0.mk c7
    clear c7
    (generalize hy_ : ((x267001_1 ++ [1]) : List Int) = y270 at H; have Ny270 := Aside0.mk hy_.symm; clear hy_)
    have H' := Aside0.mk H
    clear H
    have hnb8 := NB266_265.out
    have hnc8 := NB265_266.out
    obtain ⟨hcz9_0, hcz9_1, hcz9_2, hfz9_0, hfz9_1, hfz9_2⟩ := bx3_ BK266.out
    go_wp2_with (first | ((with_reducible refine gate_builtin (b := .append) (xs := #[.tmp 11, .tmp 12]) rfl ?_); at_builtin; refine Kd.R_append (Kd.int .i64) (w0 := w) w.heap.size rfl (.tmp 11) (.tmp 12) 30 3 (.int .i64 0) 8 rfl Try.underlying30 info3 rfl (by decide) (by omega) u267000 x267000_1 1 [.int .i64 1] (fun k_ => some k_ ≠ (u267001 : Value).ownBlock ∧ some k_ ≠ (u267002 : Value).ownBlock) (fun _ => False) rfl rfl ?aP (fun _ hk => hk.elim) ?aF ?aO ?aB ?aS ?aL ?_; (case aP => exact rfl); (case aB => exact z101_); (case aF => exact (fun k_ hk => ⟨Kd.fresh' (Kd.R_lt z136_) k_ hk, Kd.fresh' (Kd.R_lt z175_) k_ hk⟩)); (case aO => exact z137_); (case aS => exact z92_); (case aL => have := LMc6.out; omega); intro v268 w10 ho hb hg hat; rw [← Ny267.out] at ho; replace HO_267001 := Aside0.mk (Kd.R_after (ok := (fun k_ => some k_ ≠ (u267002 : Value).ownBlock)) (by exact Kd.R_mono HO_267001.out (fun _ hk => ⟨hk.2, hk.1⟩)) hg hat); replace HO_267002 := Aside0.mk (Kd.R_after (ok := (fun k_ => some k_ ≠ (u267001 : Value).ownBlock)) (by exact Kd.R_mono HO_267002.out (fun _ hk => ⟨hk.2, hk.1⟩)) hg hat); replace BK265 := Aside0.mk (blk_grown z104_ hg (Kd.R_ne HO_267000.out BK265.out (by decide))); replace BK266 := Aside0.mk (blk_grown z172_ hg (Kd.R_ne HO_267000.out BK266.out (by decide))); replace HB := Aside0.mk (hb); have HO269 := Aside0.mk (ho); clear HO_267000; clear ho hb hg hat; obtain ⟨Ao11, co11, eo11⟩ := Kd.R_slice HO269.out; subst eo11; obtain ⟨hcz12_0, hcz12_1, hcz12_2, hfz12_0, hfz12_1, hfz12_2⟩ := bx3_ BK266.out) | ((with_reducible refine gate_builtin (b := .append) (xs := #[.tmp 16, .tmp 17]) rfl ?_); at_builtin; refine Kd.R_append (Kd.int .i64) (w0 := w) w.heap.size rfl (.tmp 16) (.tmp 17) 30 3 (.int .i64 0) 8 rfl Try.underlying30 info3 rfl (by decide) (by omega) u267001 x267001_1 1 [.int .i64 1] (fun k_ => some k_ ≠ (u267002 : Value).ownBlock ∧ some k_ ≠ (.slice Ao11 y267.length co11 : Value).ownBlock) (fun _ => False) rfl z19_ ?aP (fun _ hk => hk.elim) ?aF ?aO ?aB ?aS ?aL ?_; (case aP => exact rfl); (case aB => exact z101_); (case aF => exact (fun k_ hk => ⟨Kd.fresh' (Kd.R_lt (by exact (Kd.R_mono (Kd.R_far (p := ⟨gb266, 0, none⟩) (Kd.R_types HO_267002.out BK266.out (by decide)) (fun _ hk => hk.2) (.slice Ao11 y267.length co11)) (fun _ h_ => h_.1)))) k_ hk, Kd.fresh' (Kd.R_lt (by exact (Kd.R_mono (Kd.R_far (p := ⟨gb266, 0, none⟩) (Kd.R_types HO269.out BK266.out (by decide)) (fun _ hk => hk.2) (.slice Ao11 y267.length co11)) (fun _ h_ => h_.1)))) k_ hk⟩)); (case aO => exact (by exact Kd.R_mono (Kd.R_far (p := ⟨gb266, 0, none⟩) (Kd.R_types HO_267001.out BK266.out (by decide)) (fun _ hk => hk.2) (.slice Ao11 y267.length co11)) (fun _ hk => ⟨hk.1.1, hk.1.2⟩))); (case aS => exact z92_); (case aL => have := LMc7.out; omega); intro v271 w13 ho hb hg hat; rw [← Ny270.out] at ho; replace HO_267002 := Aside0.mk (Kd.R_after (ok := (fun k_ => some k_ ≠ (.slice Ao11 y267.length co11 : Value).ownBlock)) (by exact Kd.R_mono (Kd.R_far (p := ⟨gb266, 0, none⟩) (Kd.R_types HO_267002.out BK266.out (by decide)) (fun _ hk => hk.2) (.slice Ao11 y267.length co11)) (fun _ hk => ⟨hk.1.2, hk.1.1⟩)) hg hat); replace BK265 := Aside0.mk (blk_grown (g := gb265) (o := .cells #[.slice none 0 0, .slice none 0 0, .slice none 0 0] 38 (0, 0)) z82_ hg (Kd.R_ne HO_267001.out BK265.out (by decide))); replace HO269 := Aside0.mk (Kd.R_after (ok := (fun k_ => some k_ ≠ (u267002 : Value).ownBlock)) (by exact Kd.R_mono (Kd.R_far (p := ⟨gb266, 0, none⟩) (Kd.R_types HO269.out BK266.out (by decide)) (fun _ hk => hk.2) (.slice Ao11 y267.length co11)) (fun _ hk => ⟨hk.1.2, hk.1.1⟩)) hg hat); replace BK266 := Aside0.mk (blk_grown (g := gb266) (o := .cells #[.slice Ao11 y267.length co11, u267001, u267002] 38 (0, 0)) (by refine blk_put (cs := #[u267000, u267001, u267002]) ?_ 0 _ rfl; exact BK266.out) hg (Kd.R_ne HO_267001.out BK266.out (by decide))); replace HB := Aside0.mk (hb); have HO272 := Aside0.mk (ho); clear HO_267001; clear ho hb hg hat; obtain ⟨Ao14, co14, eo14⟩ := Kd.R_slice HO272.out; subst eo14; obtain ⟨hcz15_0, hcz15_1, hcz15_2, hfz15_0, hfz15_1, hfz15_2⟩ := bx3_ BK266.out))
    go_loopg [3] k1 (fun kq v3 w' => ∃ (x3_2 : Int) (x267002_2 : List Int) (u267002 : Value), v3 = .int .i64 x3_2 ∧ Aside0 (spec_UnitCost.l1 kq x2_1 x3_2 y267 y270 x267002_2 = some (r1, r2, r3)) ∧ Aside0 (kq ≤ k1) ∧ Aside0 (Kd.R (Kd.int .i64) 3 w' w.heap.size (fun k_ => some k_ ≠ ((.slice Ao14 y270.length co14) : Value).ownBlock ∧ some k_ ≠ (u267002 : Value).ownBlock) (.slice Ao11 y267.length co11) y267) ∧ Aside0 (Kd.R (Kd.int .i64) 3 w' w.heap.size (fun k_ => some k_ ≠ ((.slice Ao11 y267.length co11) : Value).ownBlock ∧ some k_ ≠ (u267002 : Value).ownBlock) (.slice Ao14 y270.length co14) y270) ∧ Aside0 (Kd.R (Kd.int .i64) 3 w' w.heap.size (fun k_ => some k_ ≠ ((.slice Ao11 y267.length co11) : Value).ownBlock ∧ some k_ ≠ ((.slice Ao14 y270.length co14) : Value).ownBlock) u267002 x267002_2) ∧ Aside0 (w'.heap[gb265]? = some (.cells #[(.slice none 0 0), (.slice none 0 0), (.slice none 0 0)] 38 (0, 0))) ∧ Aside0 (w'.heap[gb266]? = some (.cells #[(.slice Ao11 y267.length co11), (.slice Ao14 y270.length co14), u267002] 38 (0, 0))) ∧ Aside0 (Below w.heap.size w w'))
    case atStart => exact ⟨(0), (x267002_1), (u267002), z10_, H', ⟨Nat.le_refl _⟩, ⟨by exact Kd.R_mono (Kd.R_far (p := ⟨gb266, 1, none⟩) (Kd.R_types HO269.out BK266.out (by decide)) (fun _ hk => hk.2) (.slice Ao14 y270.length co14)) (fun _ hk => ⟨hk.1.2, hk.1.1⟩)⟩, ⟨by exact Kd.R_mono (Kd.R_far (p := ⟨gb266, 1, none⟩) (Kd.R_types HO272.out BK266.out (by decide)) (fun _ hk => hk.2) (.slice Ao14 y270.length co14)) (fun _ hk => ⟨hk.1.2, hk.1.1⟩)⟩, ⟨by exact Kd.R_mono (Kd.R_far (p := ⟨gb266, 1, none⟩) (Kd.R_types HO_267002.out BK266.out (by decide)) (fun _ hk => hk.2) (.slice Ao14 y270.length co14)) (fun _ hk => ⟨hk.1.1, hk.1.2⟩)⟩, ⟨z82_⟩, ⟨by refine blk_put (cs := #[.slice Ao11 y267.length co11, u267001, u267002]) ?_ 1 _ rfl; exact BK266.out⟩, ⟨z33_⟩⟩
    case round =>
     clear H'
     obtain ⟨x3_2, x267002_2, u267002, rfl, HA, HK2, HO_267000, HO_267001, HO_267002, BK265, BK266, HB⟩ := hrel
     cases gk with
     | zero => exact absurd HA.out (by simp [spec_UnitCost.l1])
     | succ k2 =>
      have H := HA.out
      clear HA
      simp only [spec_UnitCost.l1] at H
      by_cases c16 : x3_2 < 6
      ·rw [if_pos c16] at H
       have c16b0 := decide_eq_true c16
       clear c16
       by_cases c17 : x2_1 = x3_2
       ·rw [if_pos c17] at H
        have c17b0 : (x2_1 == x3_2) = true := beq_iff_eq.mpr c17
        have c17b1 : (x2_1 != x3_2) = false := bne_eq_false_iff_eq.mpr c17
        clear c17
        obtain ⟨c18, H⟩ := ifs_ H
        have LMc18 := Aside0.mk c18
        clear c18
        (generalize hy_ : ((x267002_2 ++ [0]) : List Int) = y273 at H; have Ny273 := Aside0.mk hy_.symm; clear hy_)
        have H' := Aside0.mk H
        clear H
        have hnb19 := NB266_265.out
        have hnc19 := NB265_266.out
        obtain ⟨hcz20_0, hcz20_1, hcz20_2, hfz20_0, hfz20_1, hfz20_2⟩ := bx3_ BK266.out
        go_wp2_with (((with_reducible refine gate_builtin (b := .append) (xs := #[.tmp 28, .tmp 30]) rfl ?_); at_builtin; refine Kd.R_append (Kd.int .i64) (w0 := w) w.heap.size rfl (.tmp 28) (.tmp 30) 30 3 (.int .i64 0) 8 rfl Try.underlying30 info3 rfl (by decide) (by omega) u267002 x267002_2 0 [.int .i64 0] (fun k_ => some k_ ≠ (.slice Ao11 y267.length co11 : Value).ownBlock ∧ some k_ ≠ (.slice Ao14 y270.length co14 : Value).ownBlock) (fun _ => False) rfl rfl ?aP (fun _ hk => hk.elim) ?aF ?aO ?aB ?aS ?aL ?_; (case aP => exact rfl); (case aB => exact z101_); (case aF => exact z142_); (case aO => exact z214_); (case aS => exact z92_); (case aL => have := LMc18.out; omega); intro v274 w21 ho hb hg hat; rw [← Ny273.out] at ho; replace HO_267000 := Aside0.mk (Kd.R_after (ok := (fun k_ => some k_ ≠ (.slice Ao14 y270.length co14 : Value).ownBlock)) z137_ hg hat); replace HO_267001 := Aside0.mk (Kd.R_after (ok := (fun k_ => some k_ ≠ (.slice Ao11 y267.length co11 : Value).ownBlock)) z136_ hg hat); replace BK265 := Aside0.mk (blk_grown z104_ hg (Kd.R_ne HO_267002.out BK265.out (by decide))); replace BK266 := Aside0.mk (blk_grown z172_ hg (Kd.R_ne HO_267002.out BK266.out (by decide))); replace HB := Aside0.mk (hb); have HO275 := Aside0.mk (ho); clear HO_267002; clear ho hb hg hat; obtain ⟨Ao22, co22, eo22⟩ := Kd.R_slice HO275.out; subst eo22; obtain ⟨hcz23_0, hcz23_1, hcz23_2, hfz23_0, hfz23_1, hfz23_2⟩ := bx3_ BK266.out))
        go_roundg k2
        case measure => have := HK1.out; have := HK2.out; omega
        case rel => exact ⟨(wrap64 (x3_2 + 1)), (y273), (.slice Ao22 y273.length co22), z10_, H', ⟨z215_⟩, ⟨by exact Kd.R_mono (Kd.R_far (p := ⟨gb266, 2, none⟩) (Kd.R_types HO_267000.out BK266.out (by decide)) (fun _ hk => hk.2) (.slice Ao22 y273.length co22)) (fun _ hk => ⟨hk.1.1, hk.1.2⟩)⟩, ⟨by exact Kd.R_mono (Kd.R_far (p := ⟨gb266, 2, none⟩) (Kd.R_types HO_267001.out BK266.out (by decide)) (fun _ hk => hk.2) (.slice Ao22 y273.length co22)) (fun _ hk => ⟨hk.1.1, hk.1.2⟩)⟩, ⟨by exact Kd.R_mono (Kd.R_far (p := ⟨gb266, 2, none⟩) (Kd.R_types HO275.out BK266.out (by decide)) (fun _ hk => hk.2) (.slice Ao22 y273.length co22)) (fun _ hk => ⟨hk.1.1, hk.1.2⟩)⟩, ⟨z82_⟩, ⟨z135_⟩, ⟨z33_⟩⟩
       ·rw [if_neg c17] at H
        have c17b0 : (x2_1 == x3_2) = false := beq_eq_false_iff_ne.mpr c17
        have c17b1 : (x2_1 != x3_2) = true := bne_iff_ne.mpr c17
        obtain ⟨c24, H⟩ := ifs_ H
        have LMc24 := Aside0.mk c24
        clear c24
        (generalize hy_ : ((x267002_2 ++ [1]) : List Int) = y276 at H; have Ny276 := Aside0.mk hy_.symm; clear hy_)
        have H' := Aside0.mk H
        clear H
        have hnb25 := NB266_265.out
        have hnc25 := NB265_266.out
        obtain ⟨hcz26_0, hcz26_1, hcz26_2, hfz26_0, hfz26_1, hfz26_2⟩ := bx3_ BK266.out
        go_wp2_with (((with_reducible refine gate_builtin (b := .append) (xs := #[.tmp 28, .tmp 30]) rfl ?_); at_builtin; refine Kd.R_append (Kd.int .i64) (w0 := w) w.heap.size rfl (.tmp 28) (.tmp 30) 30 3 (.int .i64 0) 8 rfl Try.underlying30 info3 rfl (by decide) (by omega) u267002 x267002_2 1 [.int .i64 1] (fun k_ => some k_ ≠ (.slice Ao11 y267.length co11 : Value).ownBlock ∧ some k_ ≠ (.slice Ao14 y270.length co14 : Value).ownBlock) (fun _ => False) rfl rfl ?aP (fun _ hk => hk.elim) ?aF ?aO ?aB ?aS ?aL ?_; (case aP => exact rfl); (case aB => exact z101_); (case aF => exact z142_); (case aO => exact z214_); (case aS => exact z92_); (case aL => have := LMc24.out; omega); intro v277 w27 ho hb hg hat; rw [← Ny276.out] at ho; replace HO_267000 := Aside0.mk (Kd.R_after (ok := (fun k_ => some k_ ≠ (.slice Ao14 y270.length co14 : Value).ownBlock)) z137_ hg hat); replace HO_267001 := Aside0.mk (Kd.R_after (ok := (fun k_ => some k_ ≠ (.slice Ao11 y267.length co11 : Value).ownBlock)) z136_ hg hat); replace BK265 := Aside0.mk (blk_grown z104_ hg (Kd.R_ne HO_267002.out BK265.out (by decide))); replace BK266 := Aside0.mk (blk_grown z172_ hg (Kd.R_ne HO_267002.out BK266.out (by decide))); replace HB := Aside0.mk (hb); have HO278 := Aside0.mk (ho); clear HO_267002; clear ho hb hg hat; obtain ⟨Ao28, co28, eo28⟩ := Kd.R_slice HO278.out; subst eo28; obtain ⟨hcz29_0, hcz29_1, hcz29_2, hfz29_0, hfz29_1, hfz29_2⟩ := bx3_ BK266.out))
        go_roundg k2
        case measure => have := HK1.out; have := HK2.out; omega
        case rel => exact ⟨(wrap64 (x3_2 + 1)), (y276), (.slice Ao28 y276.length co28), z10_, H', ⟨z215_⟩, ⟨by exact Kd.R_mono (Kd.R_far (p := ⟨gb266, 2, none⟩) (Kd.R_types HO_267000.out BK266.out (by decide)) (fun _ hk => hk.2) (.slice Ao28 y276.length co28)) (fun _ hk => ⟨hk.1.1, hk.1.2⟩)⟩, ⟨by exact Kd.R_mono (Kd.R_far (p := ⟨gb266, 2, none⟩) (Kd.R_types HO_267001.out BK266.out (by decide)) (fun _ hk => hk.2) (.slice Ao28 y276.length co28)) (fun _ hk => ⟨hk.1.1, hk.1.2⟩)⟩, ⟨by exact Kd.R_mono (Kd.R_far (p := ⟨gb266, 2, none⟩) (Kd.R_types HO278.out BK266.out (by decide)) (fun _ hk => hk.2) (.slice Ao28 y276.length co28)) (fun _ hk => ⟨hk.1.1, hk.1.2⟩)⟩, ⟨z82_⟩, ⟨z135_⟩, ⟨z33_⟩⟩
      ·rw [if_neg c16] at H
       have c16b0 := decide_eq_false c16
       clear c16
       have H' := Aside0.mk H
       clear H
       go_wp2
       go_roundg k2
       case measure => have := HK1.out; have := HK2.out; omega
       case rel => exact ⟨(wrap64 (x2_1 + 1)), (y267), (y270), (x267002_2), (.slice Ao11 y267.length co11), (.slice Ao14 y270.length co14), (u267002), z10_, H', ⟨z215_⟩, ⟨z137_⟩, ⟨z136_⟩, ⟨z175_⟩, ⟨z104_⟩, ⟨z172_⟩, ⟨z33_⟩⟩
   ·rw [if_neg c5] at H
    have c5b0 := decide_eq_false c5
    clear c5
    simp only [Option.some.injEq, Prod.mk.injEq] at H
    obtain ⟨rfl, rfl, rfl⟩ := H
    have hnb30 := NB266_265.out
    have hnc30 := NB265_266.out
    obtain ⟨hcz31_0, hcz31_1, hcz31_2, hfz31_0, hfz31_1, hfz31_2⟩ := bx3_ BK266.out
    obtain ⟨Ao32, co32, eo32⟩ := Kd.R_slice HO_267000.out
    subst eo32
    obtain ⟨hcz33_0, hcz33_1, hcz33_2, hfz33_0, hfz33_1, hfz33_2⟩ := bx3_ BK265.out
    obtain ⟨Ao34, co34, eo34⟩ := Kd.R_slice HO_267001.out
    subst eo34
    obtain ⟨Ao35, co35, eo35⟩ := Kd.R_slice HO_267002.out
    subst eo35
    go_wp2
    refine bodyPost_ret (results_cell_row rfl _ _ gb265 38 #[.slice Ao32 x267000_1.length co32, .slice Ao34 x267001_1.length co34, .slice Ao35 x267002_1.length co35] (0, 0) _ rfl (by refine blk_put (cs := #[.slice Ao32 x267000_1.length co32, .slice Ao34 x267001_1.length co34, .slice none 0 0]) ?_ 2 _ rfl; refine blk_put (cs := #[.slice Ao32 x267000_1.length co32, .slice none 0 0, .slice none 0 0]) ?_ 1 _ rfl; refine blk_put (cs := #[.slice none 0 0, .slice none 0 0, .slice none 0 0]) ?_ 0 _ rfl; exact BK265.out) Try.underlying38 rfl (by kernel_rfl)) rfl ?_
    exact ⟨_, _, _, z6_, by exact Kd.R_mono (Kd.R_far (p := ⟨gb265, 2, none⟩) (Kd.R_far (p := ⟨gb265, 1, none⟩) (Kd.R_far (p := ⟨gb265, 0, none⟩) (Kd.R_types HO_267000.out BK265.out (by decide)) (fun _ hk => hk.2) (.slice Ao32 x267000_1.length co32)) (fun _ hk => hk.2) (.slice Ao34 x267001_1.length co34)) (fun _ hk => hk.2) (.slice Ao35 x267002_1.length co35)) (fun _ hk => ⟨hk.1.1, hk.1.2⟩), by exact Kd.R_mono (Kd.R_far (p := ⟨gb265, 2, none⟩) (Kd.R_far (p := ⟨gb265, 1, none⟩) (Kd.R_far (p := ⟨gb265, 0, none⟩) (Kd.R_types HO_267001.out BK265.out (by decide)) (fun _ hk => hk.2) (.slice Ao32 x267000_1.length co32)) (fun _ hk => hk.2) (.slice Ao34 x267001_1.length co34)) (fun _ hk => hk.2) (.slice Ao35 x267002_1.length co35)) (fun _ hk => ⟨hk.1.1, hk.1.2⟩), by exact Kd.R_mono (Kd.R_far (p := ⟨gb265, 2, none⟩) (Kd.R_far (p := ⟨gb265, 1, none⟩) (Kd.R_far (p := ⟨gb265, 0, none⟩) (Kd.R_types HO_267002.out BK265.out (by decide)) (fun _ hk => hk.2) (.slice Ao32 x267000_1.length co32)) (fun _ hk => hk.2) (.slice Ao34 x267001_1.length co34)) (fun _ hk => hk.2) (.slice Ao35 x267002_1.length co35)) (fun _ hk => ⟨hk.1.1, hk.1.2⟩), z33_⟩

/-! ### spec_l1PickInt: function 66 -/
def spec_l1PickInt.f (s0_0 : List Int) (s0_1 : Int) (s0_2 : Int) (l1 : List Int) : Option (Int × Int × Int) := (spec_l1Below.f s0_0 s0_1 s0_2 (l1.length : Int)).bind fun bt279 => (if 0 ≤ bt279.1 then (if bt279.1 < (l1.length : Int) then (some (rd l1 bt279.1, bt279.2.1, bt279.2.2)) else (none)) else (none))
set_option maxHeartbeats 8000000 in
set_option maxRecDepth 100000 in
theorem spec_l1PickInt.calls (g : Nat) (s0_0 : List Int) (s0_1 : Int) (s0_2 : Int) (A1 : Option Addr) (c1 : Nat) (l1 : List Int) (r1 : Int) (r2 : Int) (r3 : Int) (w0 w : World) (hI : IsS86 w0 w g s0_0 s0_1 s0_2) (hB : Below w0.heap.size w0 w) (hr1 : Kd.C (Kd.int .i64) w A1 l1.length l1) (hc1 : l1.length ≤ c1) (hf1 : ∀ ad, A1 = some ad → 0 < l1.length → ad.block ≠ g) (h : spec_l1PickInt.f s0_0 s0_1 s0_2 l1 = some (r1, r2, r3)) :
  Calls Try.prog 66 #[.pointer (some ⟨g, 0, none⟩), .slice A1 l1.length c1] w fun e w' => e = .returned (.int .i64 r1) ∧ IsS86 w0 w' g s0_0 r2 r3 ∧ Below w0.heap.size w0 w' ∧ KeepBut w w' g none := by
 have HR1 := Aside0.mk hr1
 have HC1 := Aside0.mk hc1
 clear hr1 hc1
 have HI0 := Aside0.mk hI
 have HK := Aside0.mk (KeepBut.refl w g none)
 have HL := Aside0.mk hB.size
 clear hI
 have HW0 := Aside0.mk hB.size
 have HB := Aside0.mk hB
 clear hB
 have H : ((spec_l1Below.f s0_0 s0_1 s0_2 (l1.length : Int)).bind fun bt279 => (if 0 ≤ bt279.1 then (if bt279.1 < (l1.length : Int) then (some (rd l1 bt279.1, bt279.2.1, bt279.2.2)) else (none)) else (none))) = some (r1, r2, r3) := h
 clear h
 replace H := Option.bind_eq_some_iff.mp H
 obtain ⟨⟨t279, t280, t281⟩, A30, H⟩ := H
 try dsimp only at H
 have A3 := Aside0.mk A30
 clear A30
 obtain ⟨c4b0, H⟩ := ifd_ H
 obtain ⟨c5b0, H⟩ := ifd_ H
 simp only [Option.some.injEq, Prod.mk.injEq] at H
 obtain ⟨rfl, rfl, rfl⟩ := H
 go_enter Try.func66, Try.ntmps66
 go_wp2_with (((with_reducible refine gate_callee (f := 64) rfl ?_); refine goesL_ (some 9) rfl rfl Try.func64 (by kernel_rfl) rfl #[.pointer (some ⟨g, 0, none⟩), .int .i64 (l1.length : Int)] rfl z1_ ?_; (with_reducible refine (spec_l1Below.calls g s0_0 s0_1 s0_2 (l1.length : Int) t279 t280 t281 w0 _ ?side1 ?side2 A3.out).mono ?_); (case side1 => exact z3_); (case side2 => exact z4_); rintro e w6 ⟨rfl, hi, hb, hk⟩; refine ⟨_, rfl, ?_⟩; replace HK := Aside0.mk (KeepBut.trans z2_ hk (.inl rfl)); replace HB := Aside0.mk (hb); replace HI0 := Aside0.mk (hi); (try clear hb hk hi); have p282 : 0 ≤ (t279 : Int) := odt_; have q282 : t279 < (l1.length : Int) := odt_; obtain ⟨ad282, e282, hx282_0⟩ := Kd.at_int HR1.out t279 p282 q282; cases e282; replace hx282_0 := keep_cell HK.out hx282_0 (by (rw [add_block]; exact hf1 _ rfl (by omega))); replace p282 := eq_true p282; replace q282 := eq_true q282))
 go_ret
 exact ⟨z6_, z3_, z4_, z2_⟩

end Go.Proofs.Ytbmkobanpakohaa.PFnMirrored
