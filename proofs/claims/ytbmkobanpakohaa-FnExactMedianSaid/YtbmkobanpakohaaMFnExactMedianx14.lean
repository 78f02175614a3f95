/- Laid by a program of this session out of the kit's print for the law FnExactMedian: what it says of the machine is proved here, function by function; each contract under the conditions that it names. -/
import Derived.Test.YtbmkobanpakohaaMFnExactMedianx0
import Derived.Test.YtbmkobanpakohaaMFnExactMedianx12
import Derived.Test.YtbmkobanpakohaaMFnExactMedianx13
import Derived.Test.YtbmkobanpakohaaShelf
import Derived.Sort.LotA
import Derived.Lib.SortBridge
import Derived.Shelf.SlSortCmp.Whole1
namespace Go.Proofs.Ytbmkobanpakohaa.PFnExactMedian
open Go.RowKit Go.Proofs.YtbmkobanpakohaaW.PrintWords Go.Proofs.YtbmkobanpakohaaW.PrintLast Go.Proofs.YtbmkobanpakohaaW.PrintMore
attribute [local go_sem] max2_int min2_int max_two min_two max_three min_three max_four min_four   -- for this text's walks alone
set_option linter.unusedVariables false
set_option linter.unusedSimpArgs false

/-! ### impl_PostOrder: function 85 -/
/-- the order that the function value tells, as a number -/
def impl_PostOrder.cf (k : Nat) (l : List S61) (x y : Fin l.length) : Int := (impl_PostOrder_lit1.f k (x.val : Int) (y.val : Int) l).getD 0
def impl_PostOrder.lt (k : Nat) (l : List S61) (x y : Fin l.length) : Bool := decide (impl_PostOrder.cf k l x y < 0)
/-- it tells one order of all nodes -/
def impl_PostOrder.Good (k : Nat) (l : List S61) : Prop := (∀ x y : Fin l.length, (impl_PostOrder_lit1.f k (x.val : Int) (y.val : Int) l).isSome = true) ∧ (∀ x : Fin l.length, impl_PostOrder.lt k l x x = false) ∧
 (∀ x y z : Fin l.length, impl_PostOrder.lt k l x y = true → impl_PostOrder.lt k l y z = true → impl_PostOrder.lt k l x z = true) ∧ (∀ x y z : Fin l.length, impl_PostOrder.lt k l x y = false → impl_PostOrder.lt k l y z = false → impl_PostOrder.lt k l x z = false) ∧
 (∀ x y : Fin l.length, impl_PostOrder.lt k l x y = false → impl_PostOrder.lt k l y x = false → x = y)
instance impl_PostOrder.goodDec (k : Nat) (l : List S61) : Decidable (impl_PostOrder.Good k l) := by unfold impl_PostOrder.Good; infer_instance
def impl_PostOrder.sort (k : Nat) (l : List S61) (x : List Int) : Option (List Int) :=
 if (x = (List.finRange l.length).map (fun i => (i.val : Int)) ∧ 0 < l.length ∧ l.length < 4611686018427387904) ∧ impl_PostOrder.Good k l then some (((List.finRange l.length).mergeSort (fun a b => !impl_PostOrder.lt k l b a)).map (fun i => (i.val : Int))) else none
theorem below_grow {B : Nat} {w : World} (os : Array Obj) (hB : B ≤ w.heap.size) : Below B w (Sort.grow w os) := ⟨rfl, rfl, rfl, by rw [Sort.size_grow]; omega, fun k hk => Sort.heap_grow_old w os (by omega)⟩
theorem below_setCells {B g : Nat} (hg : B ≤ g) : ∀ (vs : List Value) (o : Nat) (w0 w : World), Below B w0 w → Below B w0 (w.setCells g o vs)
 | [], _, _, _, h => h
 | v :: vs, o, w0, w, h => below_setCells hg vs (o + 1) w0 (w.setCell ⟨g, o, none⟩ v) (h.setCell hg _)
theorem blk_setCells {g b : Nat} {ob : Obj} (hne : g ≠ b) : ∀ (vs : List Value) (o : Nat) (w : World), w.heap[g]? = some ob → (w.setCells b o vs).heap[g]? = some ob
 | [], _, _, h => h
 | v :: vs, o, w, h => blk_setCells hne vs (o + 1) (w.setCell ⟨b, o, none⟩ v) ((Below.heap_setCell w ⟨b, o, none⟩ v g hne).trans h)
theorem row_setCells {base g cap : Nat} {ok : Nat → Prop} : ∀ (ys pre xs : List Int) (w : World), xs.length = ys.length → Kd.R (Kd.int .i64) 3 w base ok (.slice (some ⟨g, 0, none⟩) (pre ++ xs).length cap) (pre ++ xs) →
  Kd.R (Kd.int .i64) 3 (w.setCells g pre.length (ys.map (Value.int .i64))) base ok (.slice (some ⟨g, 0, none⟩) (pre ++ ys).length cap) (pre ++ ys)
 | [], pre, xs, w, he, h => by
  obtain rfl := List.eq_nil_of_length_eq_zero he
  exact h
 | y :: ys, pre, [], w, he, h => by cases he
 | y :: ys, pre, x :: xs, w, he, h => by
  have h1 := (Kd.R_put h (pre.length : Int) y).1
  rw [Int.toNat_natCast, show (pre ++ x :: xs).set pre.length y = (pre ++ [y]) ++ xs by simp, show (pre ++ x :: xs).length = ((pre ++ [y]) ++ xs).length by simp] at h1
  have h2 := row_setCells ys (pre ++ [y]) xs _ (by simpa using he) h1
  rw [show (pre ++ [y]).length = pre.length + 1 by simp, show (pre ++ [y]) ++ ys = pre ++ y :: ys by simp] at h2
  exact h2
open Go.Sort (SWO Holds) in
theorem impl_PostOrder.sorts (k : Nat) (l : List S61) (A0 : Option Addr) (c0 : Nat) (x r : List Int) (v : Value) (gi : Nat) (w0 w : World) (hr0 : Kd.C k61 w0 A0 l.length l) (hc0 : l.length ≤ c0) (hB : Below w0.heap.size w0 w)
  (hbk : w.heap[gi]? = some (.cells #[.slice A0 l.length c0] 25 (0, 0))) (hO : Kd.R (Kd.int .i64) 3 w w0.heap.size (fun _ => True) v x) (h : impl_PostOrder.sort k l x = some r) :
  Calls Try.prog 92 #[v, .func (.func 93) #[] #[.pointer (some ⟨gi, 0, none⟩)]] w fun e w' => e = .returned (.tuple #[]) ∧ Kd.R (Kd.int .i64) 3 w' w0.heap.size (fun _ => True) v r ∧ Below w0.heap.size w0 w' := by
 unfold impl_PostOrder.sort at h
 split at h
 ·rename_i hc
  obtain ⟨⟨hx, hn, hlt⟩, hg1, hg2, hg3, hg4, hg5⟩ := hc
  obtain rfl := Option.some.inj h
  have hxl : x.length = l.length := by rw [hx, List.length_map, List.length_finRange]
  obtain ⟨g, cap, rfl, hbg, hgl, cs, hcs⟩ := Kd.R_form hO (by omega)
  have hne : gi ≠ g := by
   rintro rfl
   rw [hcs] at hbk
   injection hbk with e
   injection e with e1 e2
   exact absurd e2 (by decide)
  haveI : Inhabited (Fin l.length) := ⟨⟨0, hn⟩⟩
  have hds : (List.finRange l.length).toArray.size = l.length := by simp
  have hen : ∀ ys : List (Fin l.length), ys.map (fun i => Value.int .i64 (i.val : Int)) = (ys.map (fun i => (i.val : Int))).map (Value.int .i64) := fun ys => by rw [List.map_map]; rfl
  have hH : Holds (fun i : Fin l.length => Value.int .i64 (i.val : Int)) w g 0 (List.finRange l.length).toArray := by
   intro j hj
   rw [hds] at hj
   have h1 := Kd.R_cell (0 : Int) hO (j : Int) (by omega) (by omega)
   rw [Int.toNat_natCast] at h1
   rw [Nat.zero_add]
   refine ⟨h1.1.trans ?_, h1.2⟩
   have e : rdOf (0 : Int) x (j : Int) = (j : Int) := by
    show x.getD (j : Int).toNat 0 = _
    rw [Int.toNat_natCast, hx, List.getD_eq_getElem?_getD, List.getElem?_map, List.getElem?_eq_getElem (by simpa using hj)]
    simp
   rw [e]
   have e2 : (List.finRange l.length).toArray[j]! = ⟨j, hj⟩ := by
    rw [getElem!_pos _ _ (by simpa using hj)]
    simp
   rw [e2]
  have hcmp : CmpReads Try.prog 93 #[.pointer (some ⟨gi, 0, none⟩)] (fun i : Fin l.length => Value.int .i64 (i.val : Int)) (impl_PostOrder.cf k l) g 0 (List.finRange l.length).toArray.size w := by
   intro m os dk hs a b
   have hw : sortWorld (fun i : Fin l.length => Value.int .i64 (i.val : Int)) w g 0 m dk os = Sort.grow ((w.drewN m).setCells g 0 (dk.toList.map (fun i => Value.int .i64 (i.val : Int)))) os := by
    have := Lib.sorted_world (fun i : Fin l.length => Value.int .i64 (i.val : Int)) w g 0 m _ dk.toList os hH (by simpa using hs)
    simpa [sortWorld] using this
   have hB1 : Below w0.heap.size w0 ((w.drewN m).setCells g 0 (dk.toList.map (fun i => Value.int .i64 (i.val : Int)))) := below_setCells hbg _ _ _ _ ⟨hB.os, hB.tape, hB.output, hB.size, hB.block⟩
   have hB2 := hB1.trans (below_grow os (below_size hB1))
   have hb2 : (Sort.grow ((w.drewN m).setCells g 0 (dk.toList.map (fun i => Value.int .i64 (i.val : Int)))) os).heap[gi]? = some (.cells #[.slice A0 l.length c0] 25 (0, 0)) := by
    have h1 := blk_setCells hne (dk.toList.map (fun i => Value.int .i64 (i.val : Int))) 0 (w.drewN m) hbk
    exact (Sort.heap_grow_old _ os (blk_lt h1)).trans h1
   obtain ⟨u, hu⟩ := Option.isSome_iff_exists.1 (hg1 a b)
   rw [hw]
   have h3 := impl_PostOrder_lit1.calls k (a.val : Int) (b.val : Int) A0 c0 l gi u _ (Kd.C_below hr0 hB2) hc0 ((blk_cell hb2 0).trans rfl) hu
   refine h3.mono ?_
   rintro e w' ⟨rfl, q, rfl⟩
   refine ⟨?_, q, rfl⟩
   show _ = Ending.returned (.int .i64 ((impl_PostOrder_lit1.f k (a.val : Int) (b.val : Int) l).getD 0))
   rw [hu]
   rfl
  have hO2 : SWO (ltOf (impl_PostOrder.cf k l)) := ⟨hg2, hg3, hg4⟩
  have con := Try.slices_SortFunc (fun i : Fin l.length => Value.int .i64 (i.val : Int)) (fun _ => rfl) (impl_PostOrder.cf k l) hO2 93 #[.pointer (some ⟨gi, 0, none⟩)] g 0 cap (List.finRange l.length).toArray w (enters_of Try.func93 (by kernel_rfl) rfl) hcmp.lays hH hgl (by rw [hds]; exact hlt)
  rw [hds] at con
  rw [hxl]
  refine con.mono ?_
  rintro e w' ⟨rfl, d', n, os, hp, hs, rfl⟩
  have hu := Sort.sorted_unique_holds hO2 hg5 (List.finRange l.length).toArray d' (by rw [hds]; exact hp) (by rw [hds]; exact hs)
  have hd : d'.size = l.length := by have := hp.1; rw [hds] at this; exact this
  have hw : sortWorld (fun i : Fin l.length => Value.int .i64 (i.val : Int)) w g 0 n d' os = Sort.grow ((w.drewN n).setCells g 0 ((d'.toList.map (fun i => (i.val : Int))).map (Value.int .i64))) os := by
   have := Lib.sorted_world (fun i : Fin l.length => Value.int .i64 (i.val : Int)) w g 0 n _ d'.toList os hH (by rw [hds]; simpa using hd)
   rw [hen] at this
   simpa [sortWorld] using this
  rw [hw]
  have hB1 : Below w0.heap.size w0 ((w.drewN n).setCells g 0 ((d'.toList.map (fun i => (i.val : Int))).map (Value.int .i64))) := below_setCells hbg _ _ _ _ ⟨hB.os, hB.tape, hB.output, hB.size, hB.block⟩
  have hR := row_setCells (d'.toList.map (fun i => (i.val : Int))) [] x (w.drewN n) (by simp [hxl, hd]) (Kd.R_drewN hO n)
  rw [List.nil_append, List.length_map, show d'.toList.length = l.length by rw [Array.length_toList]; exact hd, List.length_nil] at hR
  refine ⟨rfl, ?_, hB1.trans (below_grow os (below_size hB1))⟩
  have hR2 := Kd.R_below hR (below_grow os (Nat.le_refl _))
  have hu2 : (List.finRange l.length).mergeSort (fun a b => !impl_PostOrder.lt k l b a) = d'.toList := hu.symm
  rw [hu2]
  exact hR2
 ·cases h
def impl_PostOrder.l0 : Nat → List (S61) → List Int → Int → Int → Option (List Int)
 | 0, _, _, _, _ => none
 | k + 1, x1, x3, x11, x12 => if x12 < x11 then (if x3.length < 17592186044416 then (impl_PostOrder.l0 k x1 (x3 ++ [x12]) x11 (wrap64 (x12 + 1))) else (none)) else (impl_PostOrder.sort k x1 x3)
def impl_PostOrder.f (k : Nat) (l0 : List (S61)) : Option (List Int) := (some (([] : List Int) : List Int)).bind fun y399 => ((impl_TreeOk.f k l0).bind fun t402 => (if t402 = true then (impl_PostOrder.l0 k l0 y399 (l0.length : Int) 0) else (some y399)))
set_option maxHeartbeats 8000000 in
set_option maxRecDepth 100000 in
theorem impl_PostOrder.calls (k : Nat) (A0 : Option Addr) (c0 : Nat) (l0 : List (S61)) (r : List Int) (w : World) (hr0 : Kd.C k61 w A0 l0.length l0) (hc0 : l0.length ≤ c0) (h : impl_PostOrder.f k l0 = some r) :
  Calls Try.prog 85 #[.slice A0 l0.length c0] w fun e w' => ∃ v0_ : Value, e = .returned (v0_) ∧ Kd.R (Kd.int .i64) 3 w' w.heap.size (fun _ => True) v0_ r ∧ Below w.heap.size w w' := by
 have hu25 := Try.underlying25
 have hmf : ∀ (fn : Fn) (first cap : Array Value) (w : World), (Instr.makeFunc fn first cap).run Try.prog w = .ok (.func fn first cap) w := fun _ _ _ _ => rfl
 have HR0 := Aside0.mk hr0
 have HC0 := Aside0.mk hc0
 clear hr0 hc0
 have HB := Aside0.mk (Below.refl w.heap.size w)
 have H : ((some (([] : List Int) : List Int)).bind fun y399 => ((impl_TreeOk.f k l0).bind fun t402 => (if t402 = true then (impl_PostOrder.l0 k l0 y399 (l0.length : Int) 0) else (some y399)))) = some r := h
 clear h
 first | ((with_reducible have hz_ := gy_ H); obtain ⟨y399, Ny399, H⟩ := hz_) | (generalize hy_ : ((([] : List Int)) : List Int) = y399 at H; have Ny399 := Aside0.mk hy_.symm; clear hy_)
 obtain ⟨t402, A2, H⟩ := bnd_ H
 by_cases c3 : t402 = true
 ·subst c3
  replace H := ift_ H
  have H' := Aside0.mk H
  clear H
  go_enter Try.func85, Try.ntmps85
  go_wp2_with (first | ((with_reducible refine gate_dst (N := 1) rfl ?_); refine box_event ?hg (N := 1) ?hd (cs := #[.slice A0 l0.length c0]) (t := 25) ?hr ?_; (case hd => rfl); (case hg => rfl); (case hr => exact z9_); intro gi hg w1 hbox hb; have n1_ := Aside0.mk (below_step z0_ hb); have BKi := Aside0.mk hbox; clear HB; have HB := n1_; clear n1_; clear hb hbox hg) | ((with_reducible refine gate_dst (N := 5) rfl ?_); refine Kd.R_lit (Kd.int .i64) _ 3 ?hg (N := 5) ?hd (xs := ([] : List Int)) (inner := []) (ok := fun _ => True) (okp := fun _ => True) ?hr ?hp (fun _ hk => hk) trivial (Below.refl _ _) (Nat.le_refl _) (by simp) ?_; (case hd => rfl); (case hg => rfl); (case hr => exact z9_); (case hp => exact z199_); intro v400 w4 ho5 hb hg_ hnew_; clear hg_ hnew_; have n9_ := Aside0.mk (blk_below (g := gi) (o := .cells #[.slice A0 l0.length c0] 25 (0, 0)) z110_ hb); clear BKi; have BKi := n9_; clear n9_; have hci_w4 : w4.cell? ⟨gi, 0, none⟩ = some (.slice A0 l0.length c0) := (blk_cell BKi.out 0).trans rfl; have hfi_w4 := blk_frozen BKi.out 0; (first | rw [← Ny399.out] at ho5 | (simp only [Int.reduceToNat] at ho5; rw [← Ny399.out] at ho5)); have HO401 := Aside0.mk (Kd.R_lower ho5 (below_size z0_)); replace HB := Aside0.mk (below_step z0_ hb); clear hb ho5) | ((with_reducible refine gate_callee (f := 57) rfl ?_); refine goesL_ (some 7) rfl rfl Try.func57 (by kernel_rfl) rfl #[.slice A0 l0.length c0] rfl z1_ ?_; (with_reducible refine (impl_TreeOk.calls k _ _ l0 true _ ?side1 ?side2 A2.out).mono ?_); (case side1 => exact z3_); (case side2 => exact HC0.out); rintro e w6 ⟨rfl, hb⟩; refine ⟨_, rfl, ?_⟩; have n9_ := Aside0.mk (blk_below (g := gi) (o := .cells #[.slice A0 l0.length c0] 25 (0, 0)) z110_ hb); clear BKi; have BKi := n9_; clear n9_; have hci_w6 : w6.cell? ⟨gi, 0, none⟩ = some (.slice A0 l0.length c0) := (blk_cell BKi.out 0).trans rfl; have hfi_w6 := blk_frozen BKi.out 0; replace HO401 := Aside0.mk (Kd.R_below z166_ hb); replace HB := Aside0.mk (below_step z0_ hb); (try clear hb)))
  go_loopg [3, 12] k (fun kq v3 v12 w' => ∃ (x3_1 : List Int) (x12_1 : Int), v12 = .int .i64 x12_1 ∧ Aside0 (impl_PostOrder.l0 kq l0 x3_1 (l0.length : Int) x12_1 = some r) ∧ Aside0 (kq ≤ k) ∧ Aside0 (Kd.R (Kd.int .i64) 3 w' w.heap.size (fun _ => True) v3 x3_1) ∧ Aside0 (w'.heap[gi]? = some (.cells #[.slice A0 l0.length c0] 25 (0, 0))) ∧ Aside0 (Below w.heap.size w w'))
  case atStart => exact ⟨(y399), (0), z4_, H', ⟨Nat.le_refl _⟩, ⟨z166_⟩, ⟨z110_⟩, ⟨z0_⟩⟩
  case round =>
   clear H'
   obtain ⟨x3_1, x12_1, rfl, HA, HK1, HO_3, BKi, HB⟩ := hrel
   cases gk with
   | zero => exact absurd HA.out (by simp [impl_PostOrder.l0])
   | succ k1 =>
    have H := HA.out
    clear HA
    simp only [impl_PostOrder.l0] at H
    by_cases c7 : x12_1 < (l0.length : Int)
    ·rw [if_pos c7] at H
     have c7b0 := decide_eq_true c7
     clear c7
     obtain ⟨c8, H⟩ := ifs_ H
     have LMc8 := Aside0.mk c8
     clear c8
     first | ((with_reducible have hz_ := gy_ H); obtain ⟨y403, Ny403, H⟩ := hz_) | (generalize hy_ : ((x3_1 ++ [x12_1]) : List Int) = y403 at H; have Ny403 := Aside0.mk hy_.symm; clear hy_)
     have H' := Aside0.mk H
     clear H
     go_wp2_with (first | ((with_reducible refine gate_builtin (b := .append) (xs := #[.tmp 15, .tmp 17]) rfl ?_); at_builtin; refine Kd.R_append (Kd.int .i64) (w0 := w) w.heap.size rfl (.tmp 15) (.tmp 17) 30 3 (.int .i64 0) 8 rfl Try.underlying30 info3 rfl (by decide) (by omega) u3 x3_1 x12_1 [.int .i64 x12_1] (fun _ => True) (fun _ => False) rfl rfl ?aP (fun _ hk => hk.elim) ?aF ?aO ?aB ?aS ?aL ?_; (case aP => exact rfl); (case aB => exact z35_); (case aF => exact (fun _ _ => trivial)); (case aO => exact z83_); (case aS => exact z32_); (case aL => have := LMc8.out; omega); intro v404 w9 ho hb hg hat; have n9_ := Aside0.mk (blk_grown BKi.out hg (Kd.R_ne HO_3.out BKi.out (by decide))); clear BKi; have BKi := n9_; clear n9_; rw [← Ny403.out] at ho; replace HB := Aside0.mk (hb); have HO405 := Aside0.mk (ho); clear HO_3; clear ho hb hg hat))
     go_roundg k1
     case measure => have := HK1.out; omega
     case rel => exact ⟨(y403), (wrap64 (x12_1 + 1)), z4_, H', ⟨z155_⟩, ⟨by (with_reducible repeat (first | apply Kd.R_alloc | apply Kd.R_drewN | apply Kd.R_drew)); exact HO405.out⟩, ⟨z110_⟩, ⟨z0_⟩⟩
    ·rw [if_neg c7] at H
     have c7b0 := decide_eq_false c7
     clear c7
     have HS := Aside0.mk H
     clear H
     go_wp2_with (go_at_call 92; refine (impl_PostOrder.sorts k1 l0 A0 c0 x3_1 r _ gi w _ HR0.out HC0.out HB.out BKi.out HO_3.out HS.out).mono ?_; rintro e w8 ⟨rfl, hr8, hb8⟩)
     go_ret
     exact ⟨_, rfl, hr8, hb8⟩
 ·replace c3 := Bool.eq_false_iff.mpr c3
  subst c3
  replace H := iff_ H
  obtain rfl := Option.some.inj H
  go_enter Try.func85, Try.ntmps85
  go_wp2_with (first | ((with_reducible refine gate_dst (N := 1) rfl ?_); refine box_event ?hg (N := 1) ?hd (cs := #[.slice A0 l0.length c0]) (t := 25) ?hr ?_; (case hd => rfl); (case hg => rfl); (case hr => exact z9_); intro gi hg w1 hbox hb; have n1_ := Aside0.mk (below_step z0_ hb); have BKi := Aside0.mk hbox; clear HB; have HB := n1_; clear n1_; clear hb hbox hg) | ((with_reducible refine gate_dst (N := 5) rfl ?_); refine Kd.R_lit (Kd.int .i64) _ 3 ?hg (N := 5) ?hd (xs := ([] : List Int)) (inner := []) (ok := fun _ => True) (okp := fun _ => True) ?hr ?hp (fun _ hk => hk) trivial (Below.refl _ _) (Nat.le_refl _) (by simp) ?_; (case hd => rfl); (case hg => rfl); (case hr => exact z9_); (case hp => exact z199_); intro v400 w11 ho12 hb hg_ hnew_; clear hg_ hnew_; have n9_ := Aside0.mk (blk_below (g := gi) (o := .cells #[.slice A0 l0.length c0] 25 (0, 0)) z110_ hb); clear BKi; have BKi := n9_; clear n9_; have hci_w11 : w11.cell? ⟨gi, 0, none⟩ = some (.slice A0 l0.length c0) := (blk_cell BKi.out 0).trans rfl; have hfi_w11 := blk_frozen BKi.out 0; (first | rw [← Ny399.out] at ho12 | (simp only [Int.reduceToNat] at ho12; rw [← Ny399.out] at ho12)); have HO401 := Aside0.mk (Kd.R_lower ho12 (below_size z0_)); replace HB := Aside0.mk (below_step z0_ hb); clear hb ho12) | ((with_reducible refine gate_callee (f := 57) rfl ?_); refine goesL_ (some 7) rfl rfl Try.func57 (by kernel_rfl) rfl #[.slice A0 l0.length c0] rfl z1_ ?_; (with_reducible refine (impl_TreeOk.calls k _ _ l0 false _ ?side1 ?side2 A2.out).mono ?_); (case side1 => exact z3_); (case side2 => exact HC0.out); rintro e w13 ⟨rfl, hb⟩; refine ⟨_, rfl, ?_⟩; have n9_ := Aside0.mk (blk_below (g := gi) (o := .cells #[.slice A0 l0.length c0] 25 (0, 0)) z110_ hb); clear BKi; have BKi := n9_; clear n9_; have hci_w13 : w13.cell? ⟨gi, 0, none⟩ = some (.slice A0 l0.length c0) := (blk_cell BKi.out 0).trans rfl; have hfi_w13 := blk_frozen BKi.out 0; replace HO401 := Aside0.mk (Kd.R_below z166_ hb); replace HB := Aside0.mk (below_step z0_ hb); (try clear hb)))
  go_ret
  exact ⟨_, z5_, z166_, z0_⟩

/-! ### impl_RankOf: function 94 -/
def impl_RankOf.l0 : Nat → List Int → List Int → Int → Int → Option (List Int)
 | 0, _, _, _, _ => none
 | k + 1, x4, x12, x13, x14 => if x14 < x13 then (if 0 ≤ x14 then (if x14 < (x12.length : Int) then (if 0 ≤ (rd x12 x14) then (if (rd x12 x14) < (x4.length : Int) then (impl_RankOf.l0 k (x4.set ((rd x12 x14) : Int).toNat x14) x12 x13 (wrap64 (x14 + 1))) else (none)) else (none)) else (none)) else (none)) else (some x4)
def impl_RankOf.f (k : Nat) (l0 : List (S61)) : Option (List Int) := (impl_PostOrder.f k l0).bind fun t407 => (if 0 ≤ (t407.length : Int) then (if ((t407.length : Int) : Int).toNat ≤ 35184372088832 then (impl_RankOf.l0 k (List.replicate ((t407.length : Int) : Int).toNat 0) t407 (t407.length : Int) 0) else (none)) else (none))
set_option maxHeartbeats 8000000 in
set_option maxRecDepth 100000 in
theorem impl_RankOf.calls (k : Nat) (A0 : Option Addr) (c0 : Nat) (l0 : List (S61)) (r : List Int) (w : World) (hr0 : Kd.C k61 w A0 l0.length l0) (hc0 : l0.length ≤ c0) (h : impl_RankOf.f k l0 = some r) :
  Calls Try.prog 94 #[.slice A0 l0.length c0] w fun e w' => ∃ v0_ : Value, e = .returned (v0_) ∧ Kd.R (Kd.int .i64) 3 w' w.heap.size (fun _ => True) v0_ r ∧ Below w.heap.size w w' := by
 have HR0 := Aside0.mk hr0
 have HC0 := Aside0.mk hc0
 clear hr0 hc0
 have HB := Aside0.mk (Below.refl w.heap.size w)
 have H : ((impl_PostOrder.f k l0).bind fun t407 => (if 0 ≤ (t407.length : Int) then (if ((t407.length : Int) : Int).toNat ≤ 35184372088832 then (impl_RankOf.l0 k (List.replicate ((t407.length : Int) : Int).toNat 0) t407 (t407.length : Int) 0) else (none)) else (none))) = some r := h
 clear h
 obtain ⟨t407, A2, H⟩ := bnd_ H
 obtain ⟨c3b0, c3b1, H⟩ := ife_ H
 obtain ⟨c4b0, c4b1, H⟩ := ife_ H
 first | ((with_reducible have hz_ := gy_ H); obtain ⟨y410, Ny410, H⟩ := hz_) | (generalize hy_ : ((List.replicate ((t407.length : Int) : Int).toNat 0) : List Int) = y410 at H; have Ny410 := Aside0.mk hy_.symm; clear hy_)
 have H' := Aside0.mk H
 clear H
 go_enter Try.func94, Try.ntmps94
 go_wp2_with (first | ((with_reducible refine gate_callee (f := 85) rfl ?_); refine goesL_ (some 8) rfl rfl Try.func85 (by kernel_rfl) rfl #[.slice A0 l0.length c0] rfl z1_ ?_; (with_reducible refine (impl_PostOrder.calls k _ _ l0 t407 _ ?side1 ?side2 A2.out).mono ?_); (case side1 => exact z30_); (case side2 => exact HC0.out); rintro e w5 ⟨v408, rfl, ho0, hb⟩; refine ⟨_, rfl, ?_⟩; have HO409 := Aside0.mk (Kd.R_lower ho0 (below_size z0_)); replace HB := Aside0.mk (below_step z0_ hb); (try clear hb ho0); obtain ⟨Ao6, co6, eo6⟩ := Kd.R_slice HO409.out; subst eo6) | ((with_reducible refine gate_dst (N := 11) rfl ?_); refine Kd.R_make (Kd.int .i64) _ 3 rfl (N := 11) rfl 30 _ _ rfl (t407.length : Int) rfl rfl Try.underlying30 (.int .i64 0) 8 info3 rfl (by decide) (by omega) 0 (ok := fun _ => True) (okp := fun _ => True) rfl (fun _ hk => hk) trivial (odt_) (Nat.le_trans (Nat.mul_le_mul_right _ (odt_ : (t407.length : Int).toNat ≤ 35184372088832)) (by omega)) (Below.refl _ _) (Nat.le_refl _) ?_; intro v411 w7 ho8 hb hg_ hnew_; clear hg_ hnew_; (first | rw [← Ny410.out] at ho8 | (simp only [Int.reduceToNat] at ho8; rw [← Ny410.out] at ho8)); have HO412 := Aside0.mk (Kd.R_lower (Kd.R_new' ho8 (Kd.R_lt z224_)) (below_size z0_)); replace HO409 := Aside0.mk (Kd.R_elder' z224_ (Kd.R_base ho8) hb); replace HB := Aside0.mk (below_step z0_ hb); clear hb ho8))
 go_loopg [14] k (fun kq v14 w' => ∃ (x4_1 : List Int) (x14_1 : Int), v14 = .int .i64 x14_1 ∧ Aside0 (impl_RankOf.l0 kq x4_1 t407 (t407.length : Int) x14_1 = some r) ∧ Aside0 (kq ≤ k) ∧ Aside0 (Kd.R (Kd.int .i64) 3 w' w.heap.size (fun k_ => some k_ ≠ ((.slice Ao6 t407.length co6) : Value).ownBlock) v411 x4_1) ∧ Aside0 (Kd.R (Kd.int .i64) 3 w' w.heap.size (fun k_ => some k_ ≠ (v411 : Value).ownBlock) (.slice Ao6 t407.length co6) t407) ∧ Aside0 (Below w.heap.size w w'))
 case atStart => exact ⟨(y410), (0), z4_, H', ⟨Nat.le_refl _⟩, ⟨by (with_reducible repeat (first | apply Kd.R_alloc | apply Kd.R_drewN | apply Kd.R_drew)); exact Kd.R_mono HO412.out (fun _ hk => hk.2)⟩, ⟨by (with_reducible repeat (first | apply Kd.R_alloc | apply Kd.R_drewN | apply Kd.R_drew)); exact Kd.R_mono HO409.out (fun _ hk => hk.2)⟩, ⟨z0_⟩⟩
 case round =>
  clear H'
  obtain ⟨x4_1, x14_1, rfl, HA, HK1, HO_4, HO_12, HB⟩ := hrel
  cases gk with
  | zero => exact absurd HA.out (by simp [impl_RankOf.l0])
  | succ k1 =>
   have H := HA.out
   clear HA
   simp only [impl_RankOf.l0] at H
   by_cases c9 : x14_1 < (t407.length : Int)
   ·rw [if_pos c9] at H
    have c9b0 := decide_eq_true c9
    clear c9
    obtain ⟨c10b0, H⟩ := ifd_ H
    obtain ⟨c11b0, H⟩ := ifd_ H
    obtain ⟨c12b0, H⟩ := ifd_ H
    obtain ⟨c13b0, H⟩ := ifd_ H
    first | ((with_reducible have hz_ := gy_ H); obtain ⟨y414, Ny414, H⟩ := hz_) | (generalize hy_ : ((x4_1.set ((rd t407 x14_1) : Int).toNat x14_1) : List Int) = y414 at H; have Ny414 := Aside0.mk hy_.symm; clear hy_)
    have H' := Aside0.mk H
    clear H
    have p413 : 0 ≤ (x14_1 : Int) := odt_
    have q413 : x14_1 < (t407.length : Int) := odt_
    obtain ⟨ad413, e413, hx413_0⟩ := Kd.at_int (Kd.R_reads' HO_12.out).2.2 x14_1 p413 q413
    cases e413
    replace p413 := eq_true p413
    replace q413 := eq_true q413
    have p14 : 0 ≤ ((rd t407 x14_1) : Int) := odt_
    have q14 : ((rd t407 x14_1) : Int) < ((x4_1.length : Int) : Int) := odt_
    obtain ⟨go14, co14, eo14, gb14, gl14, cl14, HG14⟩ := Kd.R_form HO_4.out (by omega)
    (first | cases eo14 | (injection eo14 with ea_ en_ ec_; (first | subst ea_ | (injection ea_ with ea_; subst ea_)); subst ec_; clear en_))
    have GB14 := Aside0.mk gb14
    have GG14 := Aside0.mk HG14
    clear gb14 gl14 HG14
    obtain ⟨hx14_0, hf14_0⟩ := Kd.R_celln 0 HO_4.out ((rd t407 x14_1) : Int) p14 q14
    replace p14 := eq_true p14
    replace q14 := eq_true q14
    have HP15 := Kd.R_putg HO_4.out ((rd t407 x14_1) : Int) x14_1
    go_wp2_with (first | ((with_reducible refine gate_store (t := 3) (p := 22) rfl ?_); refine store_event (t := 3) (p := 22) (v := ?vo_w16) (w1 := (wr.setCell ⟨go14, ((rd t407 x14_1) : Int).toNat, none⟩ (.int .i64 x14_1))) ?hg ?ho ?hn ?hr ?_; (case ho => rfl); (case hg => rfl); (case hn => rfl); (case hr => exact z9_); intro w16 hw; have hg : wr.grownBy w16 (some go14) := (by rw [hw]; exact HP15.2); have hp_ : Kd.R (Kd.int .i64) 3 w16 w.heap.size (fun k_ => some k_ ≠ (.slice (some ad413) t407.length co6 : Value).ownBlock) (.slice (some ⟨go14, 0, none⟩) x4_1.length co14) y414 := (by rw [hw, Ny414.out]; exact HP15.1); clear HP15; replace HO_4 := Aside0.mk (hp_); replace HO_12 := Aside0.mk (Kd.R_after (v := (.slice (some ⟨go14, 0, none⟩) x4_1.length co14)) (v1 := (.slice (some ⟨go14, 0, none⟩) x4_1.length co14)) (ok := (fun _ => True)) (by (with_reducible repeat (first | apply Kd.R_alloc | apply Kd.R_drewN | apply Kd.R_drew)); exact Kd.R_mono HO_12.out (fun _ hk => ⟨trivial, hk⟩)) hg (.inl rfl)); replace HB := Aside0.mk ((by rw [hw]; exact below_set (HB.out) GB14.out : Below w.heap.size w w16)); clear hg hw hp_))
    go_roundg k1
    case measure => have := HK1.out; omega
    case rel => exact ⟨(y414), (wrap64 (x14_1 + 1)), z4_, H', ⟨z155_⟩, ⟨z36_⟩, ⟨by (with_reducible repeat (first | apply Kd.R_alloc | apply Kd.R_drewN | apply Kd.R_drew)); exact Kd.R_mono HO_12.out (fun _ hk => hk.2)⟩, ⟨z0_⟩⟩
   ·rw [if_neg c9] at H
    have c9b0 := decide_eq_false c9
    clear c9
    obtain rfl := Option.some.inj H
    go_wp2
    go_ret
    exact ⟨_, z5_, z214_, z0_⟩

/-! ### impl_LeftLeaf: function 86 -/
def impl_LeftLeaf.l0 : Nat → List (S61) → List Int → List Int → List Int → Int → Int → Option (List Int)
 | 0, _, _, _, _, _, _ => none
 | k + 1, x0, x3, x4, x11, x12, x13 => if x13 < x12 then (if 0 ≤ x13 then (if x13 < (x11.length : Int) then (if 0 ≤ (rd x11 x13) then (if (rd x11 x13) < (x4.length : Int) then ((impl_endOf.f k x0 (rd x11 x13)).bind fun t426 => (if x3.length < 17592186044416 then (impl_LeftLeaf.l0 k x0 (x3 ++ [wrap64 ((rd x4 (rd x11 x13)) - (wrap64 ((wrap64 (t426 - (rd x11 x13))) - 1)))]) x4 x11 x12 (wrap64 (x13 + 1))) else (none))) else (none)) else (none)) else (none)) else (none)) else (some x3)
def impl_LeftLeaf.f (k : Nat) (l0 : List (S61)) : Option (List Int) := (impl_RankOf.f k l0).bind fun t418 => ((impl_PostOrder.f k l0).bind fun t421 => (impl_LeftLeaf.l0 k l0 (([] : List Int)) t418 t421 (t421.length : Int) 0))
def impl_LeftLeaf.T5 : Bool × List (List Nat × List Nat) := (true, [([], []), ([], []), ([], []), ([1, 2], [1, 2]), ([3], [3]), ([], []), ([], []), ([5, 6], [5, 6]), ([], []), ([7, 8], [7, 8]), ([9], [9]), ([4, 10], [4, 10]), ([11], [11]), ([0, 12, 7], [0, 12]), ([13, 13, 0, 1, 2, 3, 4, 5, 6, 7, 8, 9, 10, 11, 12, 13], [0, 13])])
def impl_LeftLeaf.B5 : List Nat := [0, 0, 0, 6, 14, 0, 0, 96, 0, 480, 992, 2046, 4094, 8191, 16383]
theorem impl_LeftLeaf.tab5 : rtab .any (opsOf Try.f86 5) = impl_LeftLeaf.T5 := by kernel_rfl
theorem impl_LeftLeaf.bits5 : waitsOk impl_LeftLeaf.T5.2 impl_LeftLeaf.B5 = true := by kernel_rfl
set_option maxHeartbeats 8000000 in
set_option maxRecDepth 100000 in
theorem impl_LeftLeaf.calls (k : Nat) (A0 : Option Addr) (c0 : Nat) (l0 : List (S61)) (r : List Int) (w : World) (hr0 : Kd.C k61 w A0 l0.length l0) (hc0 : l0.length ≤ c0) (h : impl_LeftLeaf.f k l0 = some r) :
  Calls Try.prog 86 #[.slice A0 l0.length c0] w fun e w' => ∃ v0_ : Value, e = .returned (v0_) ∧ Kd.R (Kd.int .i64) 3 w' w.heap.size (fun _ => True) v0_ r ∧ Below w.heap.size w w' := by
 have HR0 := Aside0.mk hr0
 have HC0 := Aside0.mk hc0
 clear hr0 hc0
 have HB := Aside0.mk (Below.refl w.heap.size w)
 have H : ((impl_RankOf.f k l0).bind fun t418 => ((impl_PostOrder.f k l0).bind fun t421 => (impl_LeftLeaf.l0 k l0 (([] : List Int)) t418 t421 (t421.length : Int) 0))) = some r := h
 clear h
 first | ((with_reducible have hz_ := gy_ H); obtain ⟨y415, Ny415, H⟩ := hz_) | (generalize hy_ : ((([] : List Int)) : List Int) = y415 at H; have Ny415 := Aside0.mk hy_.symm; clear hy_)
 obtain ⟨t418, A2, H⟩ := bnd_ H
 obtain ⟨t421, A3, H⟩ := bnd_ H
 have H' := Aside0.mk H
 clear H
 go_enter Try.func86, Try.ntmps86
 go_wp2_with (first | ((with_reducible refine gate_dst (N := 7) rfl ?_); refine Kd.R_lit (Kd.int .i64) _ 3 ?hg (N := 7) ?hd (xs := ([] : List Int)) (inner := []) (ok := fun _ => True) (okp := fun _ => True) ?hr ?hp (fun _ hk => hk) trivial (Below.refl _ _) (Nat.le_refl _) (by simp) ?_; (case hd => rfl); (case hg => rfl); (case hr => exact z9_); (case hp => exact z199_); intro v416 w4 ho5 hb hg_ hnew_; clear hg_ hnew_; (first | rw [← Ny415.out] at ho5 | (simp only [Int.reduceToNat] at ho5; rw [← Ny415.out] at ho5)); have HO417 := Aside0.mk (Kd.R_lower ho5 (below_size z0_)); replace HB := Aside0.mk (below_step z0_ hb); clear hb ho5) | ((with_reducible refine gate_callee (f := 94) rfl ?_); refine goesL_ (some 9) rfl rfl Try.func94 (by kernel_rfl) rfl #[.slice A0 l0.length c0] rfl z1_ ?_; (with_reducible refine (impl_RankOf.calls k _ _ l0 t418 _ ?side1 ?side2 A2.out).mono ?_); (case side1 => exact z3_); (case side2 => exact HC0.out); rintro e w6 ⟨v419, rfl, ho0, hb⟩; refine ⟨_, rfl, ?_⟩; have HO420 := Aside0.mk (Kd.R_lower (Kd.R_new' ho0 (Kd.R_lt z167_)) (below_size z0_)); replace HO417 := Aside0.mk (Kd.R_elder' z167_ (Kd.R_base ho0) hb); replace HB := Aside0.mk (below_step z0_ hb); (try clear hb ho0)) | ((with_reducible refine gate_callee (f := 85) rfl ?_); refine goesL_ (some 11) rfl rfl Try.func85 (by kernel_rfl) rfl #[.slice A0 l0.length c0] rfl z1_ ?_; (with_reducible refine (impl_PostOrder.calls k _ _ l0 t421 _ ?side1 ?side2 A3.out).mono ?_); (case side1 => exact z3_); (case side2 => exact HC0.out); rintro e w7 ⟨v422, rfl, ho0, hb⟩; refine ⟨_, rfl, ?_⟩; have HO423 := Aside0.mk (Kd.R_lower (Kd.R_new' (Kd.R_new' ho0 (Kd.R_lt z167_)) (Kd.R_lt z225_)) (below_size z0_)); replace HO417 := Aside0.mk (Kd.R_elder' z167_ (Kd.R_base ho0) hb); replace HO420 := Aside0.mk (Kd.R_elder' z225_ (Kd.R_base ho0) hb); replace HB := Aside0.mk (below_step z0_ hb); (try clear hb ho0); obtain ⟨Ao8, co8, eo8⟩ := Kd.R_slice HO423.out; subst eo8))
 go_loopg [3, 13] k (fun kq v3 v13 w' => ∃ (x3_1 : List Int) (x13_1 : Int), v13 = .int .i64 x13_1 ∧ Aside0 (impl_LeftLeaf.l0 kq l0 x3_1 t418 t421 (t421.length : Int) x13_1 = some r) ∧ Aside0 (kq ≤ k) ∧ Aside0 (Kd.R (Kd.int .i64) 3 w' w.heap.size (fun k_ => some k_ ≠ (v419 : Value).ownBlock ∧ some k_ ≠ ((.slice Ao8 t421.length co8) : Value).ownBlock) v3 x3_1) ∧ Aside0 (Kd.R (Kd.int .i64) 3 w' w.heap.size (fun k_ => some k_ ≠ (v3 : Value).ownBlock ∧ some k_ ≠ ((.slice Ao8 t421.length co8) : Value).ownBlock) v419 t418) ∧ Aside0 (Kd.R (Kd.int .i64) 3 w' w.heap.size (fun k_ => some k_ ≠ (v3 : Value).ownBlock ∧ some k_ ≠ (v419 : Value).ownBlock) (.slice Ao8 t421.length co8) t421) ∧ Aside0 (Below w.heap.size w w'))
 case atStart => exact ⟨(y415), (0), z4_, H', ⟨Nat.le_refl _⟩, ⟨by (with_reducible repeat (first | apply Kd.R_alloc | apply Kd.R_drewN | apply Kd.R_drew)); exact Kd.R_mono HO417.out (fun _ hk => ⟨hk.1.2, hk.2⟩)⟩, ⟨by (with_reducible repeat (first | apply Kd.R_alloc | apply Kd.R_drewN | apply Kd.R_drew)); exact Kd.R_mono HO420.out (fun _ hk => ⟨hk.1.2, hk.2⟩)⟩, ⟨by (with_reducible repeat (first | apply Kd.R_alloc | apply Kd.R_drewN | apply Kd.R_drew)); exact Kd.R_mono HO423.out (fun _ hk => ⟨hk.1.2, hk.2⟩)⟩, ⟨z0_⟩⟩
 case round =>
  clear H'
  obtain ⟨x3_1, x13_1, rfl, HA, HK1, HO_3, HO_4, HO_11, HB⟩ := hrel
  cases gk with
  | zero => exact absurd HA.out (by simp [impl_LeftLeaf.l0])
  | succ k1 =>
   have H := HA.out
   clear HA
   simp only [impl_LeftLeaf.l0] at H
   by_cases c9 : x13_1 < (t421.length : Int)
   ·rw [if_pos c9] at H
    have c9b0 := decide_eq_true c9
    clear c9
    obtain ⟨c10b0, H⟩ := ifd_ H
    obtain ⟨c11b0, H⟩ := ifd_ H
    obtain ⟨c12b0, H⟩ := ifd_ H
    obtain ⟨c13b0, H⟩ := ifd_ H
    obtain ⟨t426, A14, H⟩ := bnd_ H
    obtain ⟨c15, H⟩ := ifs_ H
    have LMc15 := Aside0.mk c15
    clear c15
    first | ((with_reducible have hz_ := gy_ H); obtain ⟨y427, Ny427, H⟩ := hz_) | (generalize hy_ : ((x3_1 ++ [wrap64 ((rd t418 (rd t421 x13_1)) - (wrap64 ((wrap64 (t426 - (rd t421 x13_1))) - 1)))]) : List Int) = y427 at H; have Ny427 := Aside0.mk hy_.symm; clear hy_)
    have H' := Aside0.mk H
    clear H
    have p424 : 0 ≤ (x13_1 : Int) := odt_
    have q424 : x13_1 < (t421.length : Int) := odt_
    obtain ⟨ad424, e424, hx424_0⟩ := Kd.at_int (Kd.R_reads' HO_11.out).2.2 x13_1 p424 q424
    cases e424
    replace p424 := eq_true p424
    replace q424 := eq_true q424
    try go_wp2
    have n0_ := Aside0.mk (Kd.R_drew HO_3.out)
    have n1_ := Aside0.mk (Kd.R_drew HO_4.out)
    have n2_ := Aside0.mk (Kd.R_drew HO_11.out)
    have n3_ := Aside0.mk (below_drew1 HB.out)
    clear HO_3
    clear HO_4
    clear HO_11
    clear HB
    have HO_3 := n0_
    have HO_4 := n1_
    have HO_11 := n2_
    have HB := n3_
    clear n0_ n1_ n2_ n3_
    obtain ⟨Ao17, co17, eo17⟩ := Kd.R_slice HO_4.out
    (first | subst eo17 | (injection eo17 with f1_ f2_ f3_; have f4_ := f1_.symm; have f5_ := f3_.symm; clear f1_ f2_ f3_; subst f4_; subst f5_))
    have p425 : 0 ≤ ((rd t421 x13_1) : Int) := odt_
    have q425 : (rd t421 x13_1) < (t418.length : Int) := odt_
    obtain ⟨ad425, e425, hx425_0⟩ := Kd.at_int (Kd.R_reads' HO_4.out).2.2 (rd t421 x13_1) p425 q425
    cases e425
    replace p425 := eq_true p425
    replace q425 := eq_true q425
    refine start_ (n := 15) (S := fun w' => w'.cell? (ad425.add ((rd t421 x13_1)).toNat) = some (.int .i64 (rd t418 (rd t421 x13_1)))) (ds := [12, 13]) (fl_ 15 0) (by kernel_rfl) rfl (fl_zero _) (hx425_0) (fun hHeld => ?_); refine with_tabW impl_LeftLeaf.tab5 impl_LeftLeaf.bits5 (fun HT_ HW_ => ?_)
    generalize wr.drew = w16 at HO_3 HO_4 HO_11 HB hx425_0 hHeld ⊢
    iterate 4 refine zp_ HT_ rfl rfl (by kernel_rfl) (fun _ _ _ h => h) (by rfl) ?_
    refine zpg_ (i := 5) (ra_ [4, 1, 1, 9]) HT_ rfl rfl (by kernel_rfl) (fun _ _ _ h => h) (by rfl) ?_
    refine zpg_ (i := 6) (ra_ [4, 1, 2, 8]) HT_ rfl rfl (by kernel_rfl) (fun _ _ _ h => h) (by rfl) ?_
    refine zpg_ (i := 8) (ra_ [4, 1, 2, 1, 1, 6]) HT_ rfl rfl (by kernel_rfl) (fun _ _ _ h => h) (by rfl) ?_
    refine ztg_ (i := 4) (ra_ [7, 1, 1, 6]) HT_ HW_ rfl rfl (by kernel_rfl) (fun _ _ _ h => h) (by rfl) hHeld ?_ (by intro w' s0; go_simp; with_reducible rfl)
    refine one_ (i := 7) (N := some 24) (fl_ 15 9) rfl rfl (one_of HT_.out (by kernel_rfl)) (by decide) (fun K hK => ?_)
    refine goes_ Try.func59 (by kernel_rfl) rfl #[.slice A0 l0.length c0, .int .i64 (rd t421 x13_1)] (by rfl) rfl rfl z1_ ?_
    with_reducible refine (impl_endOf.calls k1 _ _ l0 (rd t421 x13_1) t426 _ ?side1 ?side2 A14.out).mono ?_
    (case side1 => exact z3_)
    (case side2 => exact HC0.out)
    rintro e w' ⟨rfl, ⟨nd, rfl⟩⟩
    refine ⟨_, rfl, ?_⟩
    refine hK.out _ _ (hHeld) (fun hHeld => ?_)
    clear hK K
    refine zn_ rfl ?_
    iterate 3 refine zp_ HT_ rfl rfl (by kernel_rfl) (fun _ _ _ h => h) (by rfl) ?_
    refine last_ (i := 12) (N := some 29) (fl_ 15 13) rfl rfl (one_of HT_.out (by kernel_rfl)) (by decide) (fun K hK => ?_)
    refine value_ (w1 := ?_) (v := ?_) (by rfl) rfl ?_ ?_
    rotate_left 2
    ·go_simp
     constructor
     ·rfl
     ·rfl
    refine hK.out _ _ ?_
    clear hK K
    refine zn_ rfl ?_
    refine last_ (i := 13) (N := some 30) (fl_ 15 14) rfl rfl (one_of HT_.out (by kernel_rfl)) (by decide) (fun K hK => ?_)
    refine Kd.R_append_step (Kd.int .i64) (w0 := w) w.heap.size (by rfl) (.tmp 17) (.tmp 29) 30 3 (.int .i64 0) 8 rfl Try.underlying30 info3 rfl (by decide) (by omega) u3 x3_1 (wrap64 ((rd t418 (rd t421 x13_1)) - (wrap64 ((wrap64 (t426 - (rd t421 x13_1))) - 1)))) [.int .i64 (wrap64 ((rd t418 (rd t421 x13_1)) - (wrap64 ((wrap64 (t426 - (rd t421 x13_1))) - 1))))] (fun k_ => some k_ ≠ (.slice (some ad425) t418.length co17 : Value).ownBlock ∧ some k_ ≠ (.slice (some ad424) t421.length co8 : Value).ownBlock) (fun _ => False) rfl rfl ?aP (fun _ hk => hk.elim) ?aF ?aO ?aB ?aS ?aL ?_
    (case aP => exact rfl)
    (case aB => exact z35_)
    (case aF => exact (fun k_ hk => ⟨Kd.fresh' (Kd.R_lt z36_) k_ hk, Kd.fresh' (Kd.R_lt z165_) k_ hk⟩))
    (case aO => exact z83_)
    (case aS => exact z32_)
    (case aL => have := LMc15.out; omega)
    intro v428 w18 ho hb hg hat
    rw [← Ny427.out] at ho
    have n0_ := Aside0.mk (Kd.R_after (ok := (fun k_ => some k_ ≠ (.slice (some ad424) t421.length co8 : Value).ownBlock)) z85_ hg hat)
    have n1_ := Aside0.mk (Kd.R_after (ok := (fun k_ => some k_ ≠ (.slice (some ad425) t418.length co17 : Value).ownBlock)) z212_ hg hat)
    have n2_ := Aside0.mk (hb)
    have n3_ := Aside0.mk (ho)
    clear HO_4
    clear HO_11
    clear HB
    clear HO_3
    have HO_4 := n0_
    have HO_11 := n1_
    have HB := n2_
    have HO429 := n3_
    clear n0_ n1_ n2_ n3_
    clear ho hb hg hat
    refine hK.out _ _ ?_
    clear hK K
    refine zn_ rfl ?_
    refine zp_ HT_ rfl rfl (by kernel_rfl) (fun _ _ _ h => h) (by rfl) ?_
    refine done_ (done_of HT_.out (by kernel_rfl)) ?_
    try go_wp2
    go_roundg k1
    case measure => have := HK1.out; omega
    case rel => exact ⟨(y427), (wrap64 (x13_1 + 1)), z4_, H', ⟨z155_⟩, ⟨by (with_reducible repeat (first | apply Kd.R_alloc | apply Kd.R_drewN | apply Kd.R_drew)); exact HO429.out⟩, ⟨z85_⟩, ⟨z212_⟩, ⟨z0_⟩⟩
   ·rw [if_neg c9] at H
    have c9b0 := decide_eq_false c9
    clear c9
    obtain rfl := Option.some.inj H
    go_wp2
    go_ret
    exact ⟨_, z5_, z132_, z0_⟩

end Go.Proofs.Ytbmkobanpakohaa.PFnExactMedian
