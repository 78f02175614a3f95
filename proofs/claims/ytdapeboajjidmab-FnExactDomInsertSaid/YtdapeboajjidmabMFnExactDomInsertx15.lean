/- Laid by a program of this session out of the kit's print for the law FnExactDomInsert: what it says of the machine is proved here, function by function; each contract under the conditions that it names. -/
import Derived.Test.YtdapeboajjidmabMFnExactDomInsertx0
namespace Go.Proofs.Ytdapeboajjidmab.PFnExactDomInsert
open Go.RowKit Go.Proofs.YtdapeboajjidmabW.PrintWords Go.Proofs.YtdapeboajjidmabW.PrintLast Go.Proofs.YtdapeboajjidmabW.PrintMore
attribute [local go_sem] max2_int min2_int max_two min_two max_three min_three max_four min_four   -- for this text's walks alone
set_option linter.unusedVariables false
set_option linter.unusedSimpArgs false

/-! ### impl_Dom_link: function 74 -/
def impl_Dom_link.a (X : List S72) (p kk : Int) : List S72 := setN (setV (setP X kk p) kk (-1)) kk (-1)
def impl_Dom_link.b (X : List S72) (p : Int) (ks : List Int) (j : Int) : List S72 := if j = 0 then setF X p (rd ks j) else setN (setV X (rd ks j) (rd ks (j - 1))) (rd ks (j - 1)) (rd ks j)
def impl_Dom_link.l0 : Nat → Int → List Int → Int → List S72 → Option (List S72)
 | 0, _, _, _, _ => none
 | k + 1, x1, x2, x6, X => if x6 < (x2.length : Int) then (if x6 < 1000000 then (if 0 ≤ x6 then (if 0 ≤ rd x2 x6 then (if rd x2 x6 < (X.length : Int) then (if (x6 = 0 ∨ (0 ≤ rd x2 (x6 - 1) ∧ rd x2 (x6 - 1) < (X.length : Int))) then (impl_Dom_link.l0 k x1 x2 (x6 + 1) (setL (impl_Dom_link.b (impl_Dom_link.a X x1 (rd x2 x6)) x1 x2 x6) x1 (rd x2 x6))) else none) else none) else none) else none) else none) else some X
def impl_Dom_link.f (k : Nat) (l0_0 : List S72) (a1 : Int) (l2 : List Int) : Option (List S72) := if 0 ≤ a1 then (if a1 < (l0_0.length : Int) then (impl_Dom_link.l0 k a1 l2 0 (setL (setF l0_0 a1 (-1)) a1 (-1))) else none) else none
theorem link_a_length (X : List S72) (p kk : Int) : (impl_Dom_link.a X p kk).length = X.length := by unfold impl_Dom_link.a; rw [setN_length, setV_length, setP_length]
theorem link_b_length (X : List S72) (p : Int) (ks : List Int) (j : Int) : (impl_Dom_link.b X p ks j).length = X.length := by unfold impl_Dom_link.b; split <;> simp only [setN_length, setV_length, setF_length]
set_option maxHeartbeats 8000000 in
set_option maxRecDepth 100000 in
theorem impl_Dom_link.calls (k : Nat) (P0_0_ : Nat → Prop) (u9000_ : Value) (l0_0 : List S72) (a1 : Int) (A2 : Option Addr) (c2 : Nat) (l2 : List Int) (r : List S72) (w0 w : World) (hB : Below w0.heap.size w0 w) (ho0_0 : Kd.R k72 72 w w0.heap.size P0_0_ u9000_ l0_0) (hr2 : ∀ W_, Kept w W_ (fun k_ => P0_0_ k_) → Kd.C (Kd.int .i64) W_ A2 l2.length l2) (hc2 : l2.length ≤ c2) (h : impl_Dom_link.f k l0_0 a1 l2 = some r) :
  Calls Try.prog 74 #[.agg #[u9000_], .int .i64 a1, .slice A2 l2.length c2] w fun e w' => e = .returned (.tuple #[]) ∧ Kd.R k72 72 w' w0.heap.size (fun k_ => (P0_0_ k_ ∨ w.heap.size ≤ k_)) u9000_ r ∧ Below w0.heap.size w0 w' ∧ Kept w w' (fun k_ => P0_0_ k_) := by
 have hu28 := Try.underlying28
 have hu72 := Try.underlying72
 obtain ⟨c4, H⟩ := ifd0_ (show (if 0 ≤ a1 then (if a1 < (l0_0.length : Int) then (impl_Dom_link.l0 k a1 l2 0 (setL (setF l0_0 a1 (-1)) a1 (-1))) else none) else none) = some r from h)
 clear h
 have h := ifd0_ H
 clear H
 obtain ⟨c5, H⟩ := h
 have H' := Aside0.mk H
 clear H
 have HR2 := Aside0.mk hr2
 clear hr2 hc2
 obtain ⟨go6, co6, eo6, gb6, gl6, HG6⟩ := Kd.R_form ho0_0 (by omega)
 subst eo6
 have HO := Aside0.mk (Kd.R_mono ho0_0 (fun k_ hk => (.inl hk : P0_0_ k_ ∨ w.heap.size ≤ k_)))
 have HB := Aside0.mk hB
 clear ho0_0 hB gb6 gl6 HG6
 have C4 := Aside0.mk c4
 have C5 := Aside0.mk c5
 have C51 := Aside0.mk (show a1 < ((setF l0_0 a1 (-1)).length : Int) from by rw [setF_length]; exact c5)
 have p4 := eq_true c4
 have q4 := eq_true c5
 clear c4 c5
 go_enter Try.func74, Try.ntmps74
 go_wp2_with (((with_reducible refine gate_dst (N := 3) rfl ?_); refine box_event ?hg (N := 3) ?hd (cs := #[.slice (some ⟨go6, 0, none⟩) l0_0.length co6]) (t := 28) ?hr ?_; (case hd => rfl); (case hg => rfl); (case hr => exact z19_); intro gb197 hg w9 hbox hb; have HS := Aside0.mk (LS.start HO.out HB.out hbox hb hg); clear hg hbox hb; obtain ⟨hb9_, hb9f_⟩ := HS.out.box; obtain ⟨⟨hx9_0, hx9_1, hx9_2, hx9_3, hx9_4, hx9_5, hx9_6⟩, hf9_0, hf9_1, hf9_2, hf9_3, hf9_4, hf9_5, hf9_6⟩ := HS.out.at_ (a1) C4.out C5.out))
 clear HO HB hb9_ hb9f_ hx9_0 hx9_1 hx9_2 hx9_3 hx9_4 hx9_5 hx9_6 hf9_0 hf9_1 hf9_2 hf9_3 hf9_4 hf9_5 hf9_6
 have HS2 := Aside0.mk HS.out.drew
 clear HS
 have HS := HS2
 clear HS2
 obtain ⟨⟨hx8_0, hx8_1, hx8_2, hx8_3, hx8_4, hx8_5, hx8_6⟩, hf8_0, hf8_1, hf8_2, hf8_3, hf8_4, hf8_5, hf8_6⟩ := HS.out.at_ (a1) C4.out C5.out
 refine start_ (n := 12) (S := fun w' => w'.cell? ⟨gb197, 0, none⟩ = some (.slice (some ⟨go6, 0, none⟩) l0_0.length co6)) (ds := []) (fl_ 12 0) (by kernel_rfl) rfl (fl_zero _) HS.out.box.1 (fun hHeld => ?_)
 generalize w9.drew = w8 at HS hx8_0 hx8_1 hx8_2 hx8_3 hx8_4 hx8_5 hx8_6 hf8_0 hf8_1 hf8_2 hf8_3 hf8_4 hf8_5 hf8_6 hHeld ⊢
 refine pure_ (i := 0) (N := some 9) (v := ?_) (a' := ?_) #[true, false, false, false, false, false, false, false, false, false, false, false] rfl rfl (by kernel_rfl) (fun _ _ _ h => h) (Or.inl ⟨by rfl, ?_⟩) ?_ ?_
 rotate_left
 ·intro w'
  go_simp
  with_reducible rfl
 rotate_left
 ·simp only [Act.put, List.setIfInBounds_toArray, List.set_cons_zero, List.set_cons_succ, i64_w, i32_w]
  rfl
 refine pure_ (i := 2) (N := some 11) (v := ?_) (a' := ?_) #[true, false, true, false, false, false, false, false, false, false, false, false] rfl rfl (by kernel_rfl) (fun _ _ _ h => h) (Or.inl ⟨by rfl, ?_⟩) ?_ ?_
 rotate_left
 ·intro w'
  go_simp
  with_reducible rfl
 rotate_left
 ·simp only [Act.put, List.setIfInBounds_toArray, List.set_cons_zero, List.set_cons_succ, i64_w, i32_w]
  rfl
 refine pure_ (i := 3) (N := some 12) (v := ?_) (a' := ?_) #[true, false, true, true, false, false, false, false, false, false, false, false] rfl rfl (by kernel_rfl) (fun _ _ _ h => h) (Or.inl ⟨by rfl, ?_⟩) ?_ ?_
 rotate_left
 ·intro w'
  go_simp
  with_reducible rfl
 rotate_left
 ·simp only [Act.put, List.setIfInBounds_toArray, List.set_cons_zero, List.set_cons_succ, i64_w, i32_w]
  rfl
 refine pure_ (i := 5) (N := some 14) (v := ?_) (a' := ?_) #[true, false, true, true, false, true, false, false, false, false, false, false] rfl rfl (by kernel_rfl) (fun _ _ _ h => h) (Or.inl ⟨by rfl, ?_⟩) ?_ ?_
 rotate_left
 ·intro w'
  go_simp
  with_reducible rfl
 rotate_left
 ·simp only [Act.put, List.setIfInBounds_toArray, List.set_cons_zero, List.set_cons_succ, i64_w, i32_w]
  rfl
 refine take_ (i := 1) (N := some 10) (v := ?_) (a' := ?_) #[true, true, true, true, false, true, false, false, false, false, false, false] rfl rfl (by kernel_rfl) (fun _ _ _ h => h) (Or.inl ⟨by rfl, ?_⟩) hHeld ?_ ?_
 rotate_left
 ·rintro w' s0
  go_simp
  with_reducible rfl
 rotate_left
 ·simp only [Act.put, List.setIfInBounds_toArray, List.set_cons_zero, List.set_cons_succ, i64_w, i32_w]
  rfl
 refine take_ (i := 4) (N := some 13) (v := ?_) (a' := ?_) #[true, true, true, true, true, true, false, false, false, false, false, false] rfl rfl (by kernel_rfl) (fun _ _ _ h => h) (Or.inl ⟨by rfl, ?_⟩) hHeld ?_ ?_
 rotate_left
 ·rintro w' s0
  go_simp
  with_reducible rfl
 rotate_left
 ·simp only [Act.put, List.setIfInBounds_toArray, List.set_cons_zero, List.set_cons_succ, i64_w, i32_w]
  rfl
 refine pure_ (i := 6) (N := some 15) (v := ?_) (a' := ?_) #[true, true, true, true, true, true, true, false, false, false, false, false] rfl rfl (by kernel_rfl) (fun _ _ _ h => h) (Or.inl ⟨by rfl, ?_⟩) ?_ ?_
 rotate_left
 ·intro w'
  go_simp
  with_reducible rfl
 rotate_left
 ·simp only [Act.put, List.setIfInBounds_toArray, List.set_cons_zero, List.set_cons_succ, i64_w, i32_w]
  rfl
 refine pure_ (i := 7) (N := some 16) (v := ?_) (a' := ?_) #[true, true, true, true, true, true, true, true, false, false, false, false] rfl rfl (by kernel_rfl) (fun _ _ _ h => h) (Or.inl ⟨by rfl, ?_⟩) ?_ ?_
 rotate_left
 ·intro w'
  go_simp
  with_reducible rfl
 rotate_left
 ·simp only [Act.put, List.setIfInBounds_toArray, List.set_cons_zero, List.set_cons_succ, i64_w, i32_w]
  rfl
 refine one_ (i := 8) (N := none) (fl_ 12 9) rfl rfl (by kernel_rfl) (by decide) (fun K hK => ?_)
 refine skip_ (w1 := ?_) (by rfl) rfl ?_ ?_
 rotate_left
 ·go_simp
  rfl
 have HS2 := Aside0.mk (HS.out.putF a1 (-1) C4.out C5.out)
 clear HS
 have HS := HS2
 clear HS2
 obtain ⟨⟨hx18_0, hx18_1, hx18_2, hx18_3, hx18_4, hx18_5, hx18_6⟩, hf18_0, hf18_1, hf18_2, hf18_3, hf18_4, hf18_5, hf18_6⟩ := HS.out.at_ (a1) C4.out C51.out
 refine hK.out _ _ HS.out.box.1 (fun hHeld => ?_)
 clear hK K
 refine pure_ (i := 9) (N := some 17) (v := ?_) (a' := ?_) #[true, true, true, true, true, true, true, true, true, true, false, false] rfl rfl (by kernel_rfl) (fun _ _ _ h => h) (Or.inl ⟨by rfl, ?_⟩) ?_ ?_
 rotate_left
 ·intro w'
  go_simp
  with_reducible rfl
 rotate_left
 ·simp only [Act.put, List.setIfInBounds_toArray, List.set_cons_zero, List.set_cons_succ, i64_w, i32_w]
  rfl
 refine pure_ (i := 10) (N := some 18) (v := ?_) (a' := ?_) #[true, true, true, true, true, true, true, true, true, true, true, false] rfl rfl (by kernel_rfl) (fun _ _ _ h => h) (Or.inl ⟨by rfl, ?_⟩) ?_ ?_
 rotate_left
 ·intro w'
  go_simp
  with_reducible rfl
 rotate_left
 ·simp only [Act.put, List.setIfInBounds_toArray, List.set_cons_zero, List.set_cons_succ, i64_w, i32_w]
  rfl
 refine one_ (i := 11) (N := none) (fl_ 12 12) rfl rfl (by kernel_rfl) (by decide) (fun K hK => ?_)
 refine skip_ (w1 := ?_) (by rfl) rfl ?_ ?_
 rotate_left
 ·go_simp
  rfl
 have HS2 := Aside0.mk (HS.out.putL a1 (-1) C4.out C51.out)
 clear HS
 have HS := HS2
 clear HS2
 refine hK.out _ _ HS.out.box.1 (fun hHeld => ?_)
 clear hK K
 refine done_ (by kernel_rfl) ?_
 try go_wp2
 go_loopg [21] k (fun kq v21 w' => ∃ (x6_1 : Int) (X : List S72), v21 = .int .i64 x6_1 ∧ Aside0 (impl_Dom_link.l0 kq a1 l2 x6_1 X = some r) ∧ Aside0 (kq ≤ k) ∧ Aside0 (LS w0 w w' P0_0_ go6 l0_0.length co6 gb197 X))
 case atStart => exact ⟨0, _, rfl, H', ⟨Nat.le_refl _⟩, HS⟩
 case round =>
  clear H' HS
  obtain ⟨x6_1, X, rfl, HA, HK1, HS⟩ := hrel
  cases gk with
  | zero => exact absurd HA.out (by simp [impl_Dom_link.l0])
  | succ k1 =>
   have H := HA.out
   clear HA
   simp only [impl_Dom_link.l0] at H
   by_cases c16 : x6_1 < (l2.length : Int)
   ·rw [if_pos c16] at H
    have h_ := ifd0_ H
    clear H
    obtain ⟨cm, H⟩ := h_
    have h_ := ifd0_ H
    clear H
    obtain ⟨c17, H⟩ := h_
    have h_ := ifd0_ H
    clear H
    obtain ⟨c18, H⟩ := h_
    have h_ := ifd0_ H
    clear H
    obtain ⟨c19, H⟩ := h_
    have h_ := ifd0_ H
    clear H
    obtain ⟨c20, H⟩ := h_
    have ew : wrap64 (x6_1 + 1) = x6_1 + 1 := by unfold wrap64; omega
    obtain ⟨ji25, hji25⟩ : ∃ j_ : Int, (wrap64 (x6_1 + 1)) = j_ := ⟨_, rfl⟩
    have E25 := Aside0.mk (show ji25 = x6_1 + 1 from by rw [← hji25]; exact ew)
    rw [← E25.out] at H
    have H' := Aside0.mk H
    clear H ew
    have hji25w : (IntKind.i64.wrap (x6_1 + 1)) = ji25 := (i64_w _).trans hji25
    have e_ := HS.out.2.2.2.2.1
    have C21 := Aside0.mk (show a1 < (X.length : Int) from by have := C5.out; omega)
    have c22 : rd l2 x6_1 < (l0_0.length : Int) := by omega
    obtain ⟨ad200, e200, hx200_0⟩ := Kd.at_int (Kd.C_kept_now HR2.out HS.out.2.2.1) x6_1 c17 c16
    cases e200
    have C16 := Aside0.mk c16
    have C17 := Aside0.mk c17
    have C18 := Aside0.mk c18
    have C19 := Aside0.mk c19
    have C20 := Aside0.mk c20
    have CM := Aside0.mk cm
    have c16b0 := decide_eq_true c16
    have p200 := eq_true c17
    have q200 := eq_true c16
    have p201 := eq_true c18
    have q201 := eq_true c22
    clear c16 cm c17 c18 c19 c20 c22 e_
    obtain ⟨hb20_, hb20f_⟩ := HS.out.box
    obtain ⟨⟨hx28_0, hx28_1, hx28_2, hx28_3, hx28_4, hx28_5, hx28_6⟩, hf28_0, hf28_1, hf28_2, hf28_3, hf28_4, hf28_5, hf28_6⟩ := HS.out.at_ (rd l2 x6_1) C18.out C19.out
    go_upto_if 41 with (fail)
    have HS1 := Aside0.mk (show LS w0 w (((wr.setCell ⟨go6, (rd l2 x6_1).toNat * 7 + 2, none⟩ (.int .i64 a1)).setCell ⟨go6, (rd l2 x6_1).toNat * 7 + 5, none⟩ (.int .i64 (-1))).setCell ⟨go6, (rd l2 x6_1).toNat * 7 + 6, none⟩ (.int .i64 (-1))) P0_0_ go6 l0_0.length co6 gb197 (impl_Dom_link.a X a1 (rd l2 x6_1)) from ((HS.out.putP (rd l2 x6_1) a1 C18.out C19.out).putV (rd l2 x6_1) (-1) C18.out (by rw [setP_length]; exact C19.out)).putN (rd l2 x6_1) (-1) C18.out (by rw [setV_length, setP_length]; exact C19.out))
    clear HS hb20_ hb20f_ hx28_0 hx28_1 hx28_2 hx28_3 hx28_4 hx28_5 hx28_6 hf28_0 hf28_1 hf28_2 hf28_3 hf28_4 hf28_5 hf28_6
    generalize (((wr.setCell ⟨go6, (rd l2 x6_1).toNat * 7 + 2, none⟩ (.int .i64 a1)).setCell ⟨go6, (rd l2 x6_1).toNat * 7 + 5, none⟩ (.int .i64 (-1))).setCell ⟨go6, (rd l2 x6_1).toNat * 7 + 6, none⟩ (.int .i64 (-1))) = w32 at HS1 ⊢
    have HS := HS1
    clear HS1
    have A19 := Aside0.mk (show rd l2 x6_1 < ((impl_Dom_link.a X a1 (rd l2 x6_1)).length : Int) from by rw [link_a_length]; exact C19.out)
    have A21 := Aside0.mk (show a1 < ((impl_Dom_link.a X a1 (rd l2 x6_1)).length : Int) from by rw [link_a_length]; exact C21.out)
    go_cut [] (fun wc => Aside0 (LS w0 w wc P0_0_ go6 l0_0.length co6 gb197 (impl_Dom_link.b (impl_Dom_link.a X a1 (rd l2 x6_1)) a1 l2 x6_1)))
    case first =>
     by_cases c30 : x6_1 = 0
     ·have c30b0 : (x6_1 == 0) = true := beq_iff_eq.mpr c30
      have C30 := Aside0.mk c30
      clear c30
      obtain ⟨hb20_, hb20f_⟩ := HS.out.box
      obtain ⟨⟨hx38_0, hx38_1, hx38_2, hx38_3, hx38_4, hx38_5, hx38_6⟩, hf38_0, hf38_1, hf38_2, hf38_3, hf38_4, hf38_5, hf38_6⟩ := HS.out.at_ (a1) C4.out A21.out
      rw [c30b0]
      try go_wp2
      go_meet
      case rel => exact ⟨by
       have h_ := HS.out.putF a1 (rd l2 x6_1) C4.out A21.out
       have e_ : (impl_Dom_link.b (impl_Dom_link.a X a1 (rd l2 x6_1)) a1 l2 x6_1) = setF (impl_Dom_link.a X a1 (rd l2 x6_1)) a1 (rd l2 x6_1) := by unfold impl_Dom_link.b; rw [if_pos C30.out]
       rw [e_]
       exact h_⟩
     ·have c30b0 : (x6_1 == 0) = false := beq_eq_false_iff_ne.mpr c30
      have C30 := Aside0.mk c30
      have c31 := C20.out.resolve_left c30
      clear c30
      obtain ⟨ji21, hji21⟩ : ∃ j_ : Int, (wrap64 (x6_1 - 1)) = j_ := ⟨_, rfl⟩
      have E21 := Aside0.mk (show ji21 = x6_1 - 1 from by rw [← hji21]; unfold wrap64; have := C17.out; have := CM.out; omega)
      have hji21w : (IntKind.i64.wrap (x6_1 - 1)) = ji21 := (i64_w _).trans hji21
      rw [← E21.out] at c31
      have C203 := Aside0.mk (show 0 ≤ ji21 from by have := E21.out; have := C17.out; have := C30.out; omega)
      have D203 := Aside0.mk (show ji21 < (l2.length : Int) from by have := E21.out; have := C16.out; omega)
      have C31 := Aside0.mk c31.1
      have c32 : rd l2 ji21 < (l0_0.length : Int) := by have := C21.out; have h2_ := HS.out.2.2.2.2.1; rw [link_a_length] at h2_; omega
      have B31 := Aside0.mk (show rd l2 ji21 < ((setV (impl_Dom_link.a X a1 (rd l2 x6_1)) (rd l2 x6_1) (rd l2 ji21)).length : Int) from by rw [setV_length, link_a_length]; exact c31.2)
      have p203 := eq_true C203.out
      have q203 := eq_true D203.out
      have p204 := eq_true C31.out
      have q204 := eq_true c32
      clear c31 c32
      have hx203_0 := Kd.foot_int (HR2.out _ HS.out.2.2.1) ji21 C203.out D203.out
      obtain ⟨hb20_, hb20f_⟩ := HS.out.box
      obtain ⟨⟨hx38_0, hx38_1, hx38_2, hx38_3, hx38_4, hx38_5, hx38_6⟩, hf38_0, hf38_1, hf38_2, hf38_3, hf38_4, hf38_5, hf38_6⟩ := HS.out.at_ (rd l2 x6_1) C18.out A19.out
      rw [c30b0]
      try go_wp2
      have HS1 := Aside0.mk (show LS w0 w (w32.setCell ⟨go6, (rd l2 x6_1).toNat * 7 + 5, none⟩ (.int .i64 (rd l2 ji21))) P0_0_ go6 l0_0.length co6 gb197 (setV (impl_Dom_link.a X a1 (rd l2 x6_1)) (rd l2 x6_1) (rd l2 ji21)) from HS.out.putV (rd l2 x6_1) (rd l2 ji21) C18.out A19.out)
      clear HS hb20_ hb20f_ hx203_0 hx38_0 hx38_1 hx38_2 hx38_3 hx38_4 hx38_5 hx38_6 hf38_0 hf38_1 hf38_2 hf38_3 hf38_4 hf38_5 hf38_6
      generalize (w32.setCell ⟨go6, (rd l2 x6_1).toNat * 7 + 5, none⟩ (.int .i64 (rd l2 ji21))) = w33 at HS1 ⊢
      have HS := Aside0.mk HS1.out.drew
      clear HS1
      obtain ⟨⟨hx48_0, hx48_1, hx48_2, hx48_3, hx48_4, hx48_5, hx48_6⟩, hf48_0, hf48_1, hf48_2, hf48_3, hf48_4, hf48_5, hf48_6⟩ := HS.out.at_ (rd l2 ji21) C31.out B31.out
      refine start_ (n := 11) (S := fun w' => w'.cell? ⟨gb197, 0, none⟩ = some (.slice (some ⟨go6, 0, none⟩) l0_0.length co6) ∧ w'.cell? (ad200.add (ji21).toNat) = some (.int .i64 (rd l2 ji21))) (ds := [10]) (fl_ 11 0) (by kernel_rfl) rfl (fl_zero _) ⟨HS.out.box.1, Kd.foot_int (HR2.out _ HS.out.2.2.1) ji21 C203.out D203.out⟩ (fun hHeld => ?_)
      generalize w33.drew = w34 at HS hx48_0 hx48_1 hx48_2 hx48_3 hx48_4 hx48_5 hx48_6 hf48_0 hf48_1 hf48_2 hf48_3 hf48_4 hf48_5 hf48_6 hHeld ⊢
      refine pure_ (i := 0) (N := some 56) (v := ?_) (a' := ?_) #[true, false, false, false, false, false, false, false, false, false, false] rfl rfl (by kernel_rfl) (fun _ _ _ h => h) (Or.inl ⟨by rfl, ?_⟩) ?_ ?_
      rotate_left
      ·intro w'
       go_simp
       with_reducible rfl
      rotate_left
      ·simp only [Act.put, List.setIfInBounds_toArray, List.set_cons_zero, List.set_cons_succ, i64_w, i32_w]
       rfl
      refine pure_ (i := 2) (N := some 58) (v := ?_) (a' := ?_) #[true, false, true, false, false, false, false, false, false, false, false] rfl rfl (by kernel_rfl) (fun _ _ _ h => h) (Or.inl ⟨by rfl, ?_⟩) ?_ ?_
      rotate_left
      ·intro w'
       go_simp
       with_reducible rfl
      rotate_left
      ·simp only [Act.put, List.setIfInBounds_toArray, List.set_cons_zero, List.set_cons_succ, i64_w, i32_w]
       rfl
      refine pure_ (i := 3) (N := some 59) (v := ?_) (a' := ?_) #[true, false, true, true, false, false, false, false, false, false, false] rfl rfl (by kernel_rfl) (fun _ _ _ h => h) (Or.inl ⟨by rfl, ?_⟩) ?_ ?_
      rotate_left
      ·intro w'
       go_simp
       with_reducible rfl
      rotate_left
      ·simp only [Act.put, List.setIfInBounds_toArray, List.set_cons_zero, List.set_cons_succ, i64_w, i32_w]
       rfl
      refine pure_ (i := 4) (N := some 60) (v := ?_) (a' := ?_) #[true, false, true, true, true, false, false, false, false, false, false] rfl rfl (by kernel_rfl) (fun _ _ _ h => h) (Or.inl ⟨by rfl, ?_⟩) ?_ ?_
      rotate_left
      ·intro w'
       go_simp
       with_reducible rfl
      rotate_left
      ·simp only [Act.put, List.setIfInBounds_toArray, List.set_cons_zero, List.set_cons_succ, i64_w, i32_w]
       rfl
      refine pure_ (i := 5) (N := some 61) (v := ?_) (a' := ?_) #[true, false, true, true, true, true, false, false, false, false, false] rfl rfl (by kernel_rfl) (fun _ _ _ h => h) (Or.inl ⟨by rfl, ?_⟩) ?_ ?_
      rotate_left
      ·intro w'
       go_simp
       with_reducible rfl
      rotate_left
      ·simp only [Act.put, List.setIfInBounds_toArray, List.set_cons_zero, List.set_cons_succ, i64_w, i32_w]
       rfl
      refine pure_ (i := 7) (N := some 63) (v := ?_) (a' := ?_) #[true, false, true, true, true, true, false, true, false, false, false] rfl rfl (by kernel_rfl) (fun _ _ _ h => h) (Or.inl ⟨by rfl, ?_⟩) ?_ ?_
      rotate_left
      ·intro w'
       go_simp
       with_reducible rfl
      rotate_left
      ·simp only [Act.put, List.setIfInBounds_toArray, List.set_cons_zero, List.set_cons_succ, i64_w, i32_w]
       rfl
      refine take_ (i := 1) (N := some 57) (v := ?_) (a' := ?_) #[true, true, true, true, true, true, false, true, false, false, false] rfl rfl (by kernel_rfl) (fun _ _ _ h => h) (Or.inl ⟨by rfl, ?_⟩) hHeld ?_ ?_
      rotate_left
      ·rintro w' ⟨s0, s1⟩
       go_simp
       with_reducible rfl
      rotate_left
      ·simp only [Act.put, List.setIfInBounds_toArray, List.set_cons_zero, List.set_cons_succ, i64_w, i32_w]
       rfl
      refine take_ (i := 6) (N := some 62) (v := ?_) (a' := ?_) #[true, true, true, true, true, true, true, true, false, false, false] rfl rfl (by kernel_rfl) (fun _ _ _ h => h) (Or.inl ⟨by rfl, ?_⟩) hHeld ?_ ?_
      rotate_left
      ·rintro w' ⟨s0, s1⟩
       go_simp
       with_reducible rfl
      rotate_left
      ·simp only [Act.put, List.setIfInBounds_toArray, List.set_cons_zero, List.set_cons_succ, i64_w, i32_w]
       rfl
      refine pure_ (i := 8) (N := some 64) (v := ?_) (a' := ?_) #[true, true, true, true, true, true, true, true, true, false, false] rfl rfl (by kernel_rfl) (fun _ _ _ h => h) (Or.inl ⟨by rfl, ?_⟩) ?_ ?_
      rotate_left
      ·intro w'
       go_simp
       with_reducible rfl
      rotate_left
      ·simp only [Act.put, List.setIfInBounds_toArray, List.set_cons_zero, List.set_cons_succ, i64_w, i32_w]
       rfl
      refine pure_ (i := 9) (N := some 65) (v := ?_) (a' := ?_) #[true, true, true, true, true, true, true, true, true, true, false] rfl rfl (by kernel_rfl) (fun _ _ _ h => h) (Or.inl ⟨by rfl, ?_⟩) ?_ ?_
      rotate_left
      ·intro w'
       go_simp
       with_reducible rfl
      rotate_left
      ·simp only [Act.put, List.setIfInBounds_toArray, List.set_cons_zero, List.set_cons_succ, i64_w, i32_w]
       rfl
      refine last_ (i := 10) (N := none) (fl_ 11 11) rfl rfl (by kernel_rfl) (by decide) (fun K hK => ?_)
      refine skip_ (w1 := ?_) (by rfl) rfl ?_ ?_
      rotate_left
      ·go_simp
       rfl
      refine hK.out _ _ ?_
      clear hK K
      refine done_ (by kernel_rfl) ?_
      try go_wp2
      go_meet
      case rel => exact ⟨by
       have h_ := HS.out.putN (rd l2 ji21) (rd l2 x6_1) C31.out B31.out
       have e_ : (impl_Dom_link.b (impl_Dom_link.a X a1 (rd l2 x6_1)) a1 l2 x6_1) = setN (setV (impl_Dom_link.a X a1 (rd l2 x6_1)) (rd l2 x6_1) (rd l2 ji21)) (rd l2 ji21) (rd l2 x6_1) := by unfold impl_Dom_link.b; rw [if_neg C30.out, E21.out]
       rw [e_]
       exact h_⟩
    case rest =>
     have HS_ := hcut
     clear HS hcut
     have HS := HS_
     clear HS_
     have B21 := Aside0.mk (show a1 < ((impl_Dom_link.b (impl_Dom_link.a X a1 (rd l2 x6_1)) a1 l2 x6_1).length : Int) from by rw [link_b_length, link_a_length]; exact C21.out)
     obtain ⟨hb20_, hb20f_⟩ := HS.out.box
     obtain ⟨⟨hx58_0, hx58_1, hx58_2, hx58_3, hx58_4, hx58_5, hx58_6⟩, hf58_0, hf58_1, hf58_2, hf58_3, hf58_4, hf58_5, hf58_6⟩ := HS.out.at_ (a1) C4.out B21.out
     try go_wp2
     go_roundg k1
     case measure => have := HK1.out; omega
     case rel => exact ⟨ji25, _, z17_, H', ⟨z259_⟩, ⟨HS.out.putL a1 (rd l2 x6_1) C4.out B21.out⟩⟩
   ·rw [if_neg c16] at H
    have c16b0 := decide_eq_false c16
    clear c16
    obtain rfl := Option.some.inj H
    go_wp2
    go_end0
    exact ⟨z4_, z293_, z251_, z267_⟩

end Go.Proofs.Ytdapeboajjidmab.PFnExactDomInsert
