/- Laid by a program of this session out of the kit's print for the law FnExactDomInsert: what it says of the machine is proved here, function by function; each contract under the conditions that it names. -/
import Derived.Test.YtdapeboajjidmabMFnExactDomInsertx0
namespace Go.Proofs.Ytdapeboajjidmab.PFnExactDomInsert
open Go.RowKit Go.Proofs.YtdapeboajjidmabW.PrintWords Go.Proofs.YtdapeboajjidmabW.PrintLast Go.Proofs.YtdapeboajjidmabW.PrintMore
attribute [local go_sem] max2_int min2_int max_two min_two max_three min_three max_four min_four   -- for this text's walks alone
set_option linter.unusedVariables false
set_option linter.unusedSimpArgs false

/-! ### spec_l17Set: function 69 -/
theorem own_blkz {go o g n c : Nat} (hne : some g ≠ (Value.slice (some ⟨go, o, none⟩) n c).ownBlock) : go ≠ g := fun e => hne (by rw [e]; rfl)
def spec_l17Set.s1 (X : List S72) (p : Int) (ks : List Int) (j : Int) : List S72 := if 0 < j then X else setF X p (rd ks j)
def spec_l17Set.s2 (X : List S72) (p : Int) (ks : List Int) (j : Int) : List S72 := if j + 1 < (ks.length : Int) then X else setL X p (rd ks j)
def spec_l17Set.pv (ks : List Int) (j : Int) : Int := if 0 < j then rd ks (j - 1) else -1
def spec_l17Set.nx (ks : List Int) (j : Int) : Int := if j + 1 < (ks.length : Int) then rd ks (j + 1) else -1
def spec_l17Set.e (X : List S72) (p : Int) (ks : List Int) (j : Int) : S72 := ⟨(rd_T72 X (rd ks j)).f0, (rd_T72 X (rd ks j)).f1, p, (rd_T72 X (rd ks j)).f3, (rd_T72 X (rd ks j)).f4, spec_l17Set.pv ks j, spec_l17Set.nx ks j⟩
def spec_l17Set.l0 : Nat → Int → List Int → Int → List S72 → Option (List S72)
 | 0, _, _, _, _ => none
 | k + 1, x1, x2, x6, X => if x6 < (x2.length : Int) then (if x6 < 1000000 then (if 0 ≤ x6 then (if 0 ≤ rd x2 x6 then (if rd x2 x6 < (X.length : Int) then (spec_l17Set.l0 k x1 x2 (x6 + 1) ((spec_l17Set.s2 (spec_l17Set.s1 X x1 x2 x6) x1 x2 x6).set (rd x2 x6).toNat (spec_l17Set.e X x1 x2 x6))) else none) else none) else none) else none) else some X
def spec_l17Set.f (k : Nat) (l0_0 : List S72) (a1 : Int) (l2 : List Int) : Option (List S72) := if 0 ≤ a1 then (if a1 < (l0_0.length : Int) then (spec_l17Set.l0 k a1 l2 0 (setL (setF l0_0 a1 (-1)) a1 (-1))) else none) else none
def spec_l17Set.T6 : Bool × List (List Nat × List Nat) := (true, [([], []), ([0], [0]), ([], []), ([], []), ([2, 3], [2, 3]), ([4], [4]), ([1, 5], [1, 5]), ([6], [6]), ([], []), ([8, 7, 0, 1, 2, 3, 4, 5, 6, 7, 8], [7, 8])])
def spec_l17Set.B6 : List Nat := [0, 1, 0, 0, 12, 28, 63, 127, 0, 511]
theorem spec_l17Set.tab6 : rtab .any (opsOf Try.f69 6) = spec_l17Set.T6 := by kernel_rfl
theorem spec_l17Set.bits6 : waitsOk spec_l17Set.T6.2 spec_l17Set.B6 = true := by kernel_rfl
def spec_l17Set.T12 : Bool × List (List Nat × List Nat) := (true, [([], []), ([0], [0]), ([], []), ([], []), ([], []), ([3, 4], [3, 4]), ([5], [5]), ([1, 2, 0, 1, 2, 3, 4, 5, 6], [1, 2]), ([7, 0, 1, 2, 3, 4, 5, 6], [7]), ([8, 6, 0, 1, 2, 3, 4, 5, 6], [6, 8])])
def spec_l17Set.B12 : List Nat := [0, 1, 0, 0, 0, 24, 56, 127, 255, 511]
theorem spec_l17Set.tab12 : rtab .any (opsOf Try.f69 12) = spec_l17Set.T12 := by kernel_rfl
theorem spec_l17Set.bits12 : waitsOk spec_l17Set.T12.2 spec_l17Set.B12 = true := by kernel_rfl
def spec_l17Set.T15 : Bool × List (List Nat × List Nat) := (true, [([], []), ([0], [0]), ([], []), ([], []), ([], []), ([3, 4], [3, 4]), ([5], [5]), ([1, 2, 0, 1, 2, 3, 4, 5, 6], [1, 2]), ([7, 0, 1, 2, 3, 4, 5, 6], [7]), ([8, 6, 0, 1, 2, 3, 4, 5, 6], [6, 8])])
def spec_l17Set.B15 : List Nat := [0, 1, 0, 0, 0, 24, 56, 127, 255, 511]
theorem spec_l17Set.tab15 : rtab .any (opsOf Try.f69 15) = spec_l17Set.T15 := by kernel_rfl
theorem spec_l17Set.bits15 : waitsOk spec_l17Set.T15.2 spec_l17Set.B15 = true := by kernel_rfl
def spec_l17Set.T16 : Bool × List (List Nat × List Nat) := (true, [([], []), ([0], [0]), ([], []), ([], []), ([2, 3], [2, 3]), ([4], [4]), ([], []), ([1, 5, 0, 1, 2, 3, 4, 5, 6], [1, 5]), ([7, 6, 0, 1, 2, 3, 4, 5, 6], [6, 7])])
def spec_l17Set.B16 : List Nat := [0, 1, 0, 0, 12, 28, 0, 127, 255]
theorem spec_l17Set.tab16 : rtab .any (opsOf Try.f69 16) = spec_l17Set.T16 := by kernel_rfl
theorem spec_l17Set.bits16 : waitsOk spec_l17Set.T16.2 spec_l17Set.B16 = true := by kernel_rfl
set_option maxHeartbeats 8000000 in
set_option maxRecDepth 100000 in
theorem spec_l17Set.calls (k : Nat) (P0_0_ : Nat → Prop) (u9000_ : Value) (l0_0 : List S72) (a1 : Int) (A2 : Option Addr) (c2 : Nat) (l2 : List Int) (r : List S72) (w0 w : World) (hB : Below w0.heap.size w0 w) (ho0_0 : Kd.R k72 72 w w0.heap.size P0_0_ u9000_ l0_0) (hr2 : ∀ W_, Kept w W_ (fun k_ => P0_0_ k_) → Kd.C (Kd.int .i64) W_ A2 l2.length l2) (hc2 : l2.length ≤ c2) (h : spec_l17Set.f k l0_0 a1 l2 = some r) :
  Calls Try.prog 69 #[.agg #[u9000_], .int .i64 a1, .slice A2 l2.length c2] w fun e w' => e = .returned (.tuple #[]) ∧ Kd.R k72 72 w' w0.heap.size (fun k_ => (P0_0_ k_ ∨ w.heap.size ≤ k_)) u9000_ r ∧ Below w0.heap.size w0 w' ∧ Kept w w' (fun k_ => P0_0_ k_) := by
 have hu28 := Try.underlying28
 have hu72 := Try.underlying72
 obtain ⟨c4, H⟩ := ifd0_ (show (if 0 ≤ a1 then (if a1 < (l0_0.length : Int) then (spec_l17Set.l0 k a1 l2 0 (setL (setF l0_0 a1 (-1)) a1 (-1))) else none) else none) = some r from h)
 clear h
 have h := ifd0_ H
 clear H
 obtain ⟨c5, H⟩ := h
 have H' := Aside0.mk H
 clear H
 have HR2 := Aside0.mk hr2
 clear hr2 hc2
 obtain ⟨go6, co6, eo6, gb6, gl6, HG6⟩ := Kd.R_form ho0_0 (by omega)
 subst eo6
 have HO := Aside0.mk (Kd.R_mono ho0_0 (fun k_ hk => (.inl hk : P0_0_ k_ ∨ w.heap.size ≤ k_)))
 have HB := Aside0.mk hB
 clear ho0_0 hB gb6 gl6 HG6
 have C4 := Aside0.mk c4
 have C5 := Aside0.mk c5
 have C51 := Aside0.mk (show a1 < ((setF l0_0 a1 (-1)).length : Int) from by rw [setF_length]; exact c5)
 have p4 := eq_true c4
 have q4 := eq_true c5
 clear c4 c5
 go_enter Try.func69, Try.ntmps69
 go_wp2_with (((with_reducible refine gate_dst (N := 3) rfl ?_); refine box_event ?hg (N := 3) ?hd (cs := #[.slice (some ⟨go6, 0, none⟩) l0_0.length co6]) (t := 28) ?hr ?_; (case hd => rfl); (case hg => rfl); (case hr => exact z19_); intro gb197 hg w9 hbox hb; have HS := Aside0.mk (LS.start HO.out HB.out hbox hb hg); clear hg hbox hb; obtain ⟨hb9_, hb9f_⟩ := HS.out.box; obtain ⟨⟨hx9_0, hx9_1, hx9_2, hx9_3, hx9_4, hx9_5, hx9_6⟩, hf9_0, hf9_1, hf9_2, hf9_3, hf9_4, hf9_5, hf9_6⟩ := HS.out.at_ (a1) C4.out C5.out))
 clear HO HB
 go_loopg [6] k (fun kq v6 w' => ∃ (x6_1 : Int) (X : List S72), v6 = .int .i64 x6_1 ∧ Aside0 (spec_l17Set.l0 kq a1 l2 x6_1 X = some r) ∧ Aside0 (kq ≤ k) ∧ Aside0 (LS w0 w w' P0_0_ go6 l0_0.length co6 gb197 X))
 case atStart => exact ⟨0, _, rfl, H', ⟨Nat.le_refl _⟩, ⟨(HS.out.putF a1 (-1) C4.out C5.out).putL a1 (-1) C4.out C51.out⟩⟩
 case round =>
  clear H' HS
  obtain ⟨x6_1, X, rfl, HA, HK1, HS⟩ := hrel
  cases gk with
  | zero => exact absurd HA.out (by simp [spec_l17Set.l0])
  | succ k1 =>
   have H := HA.out
   clear HA
   simp only [spec_l17Set.l0] at H
   by_cases c16 : x6_1 < (l2.length : Int)
   ·rw [if_pos c16] at H
    have h_ := ifd0_ H
    clear H
    obtain ⟨cm, H⟩ := h_
    have h_ := ifd0_ H
    clear H
    obtain ⟨c17, H⟩ := h_
    have h_ := ifd0_ H
    clear H
    obtain ⟨c18, H⟩ := h_
    have h_ := ifd0_ H
    clear H
    obtain ⟨c19, H⟩ := h_
    have ew : wrap64 (x6_1 + 1) = x6_1 + 1 := by unfold wrap64; omega
    obtain ⟨ji25, hji25⟩ : ∃ j_ : Int, (wrap64 (x6_1 + 1)) = j_ := ⟨_, rfl⟩
    have E25 := Aside0.mk (show ji25 = x6_1 + 1 from by rw [← hji25]; exact ew)
    rw [← E25.out] at H
    have H' := Aside0.mk H
    clear H ew
    have hji25w : (IntKind.i64.wrap (x6_1 + 1)) = ji25 := (i64_w _).trans hji25
    have e_ := HS.out.2.2.2.2.1
    have C21 := Aside0.mk (show a1 < (X.length : Int) from by have := C5.out; omega)
    have c22 : rd l2 x6_1 < (l0_0.length : Int) := by omega
    obtain ⟨ad200, e200, hx200_0⟩ := Kd.at_int (Kd.C_kept_now HR2.out HS.out.2.2.1) x6_1 c17 c16
    clear hx200_0
    cases e200
    have C16 := Aside0.mk c16
    have C17 := Aside0.mk c17
    have C18 := Aside0.mk c18
    have C19 := Aside0.mk c19
    have CM := Aside0.mk cm
    have c16b0 := decide_eq_true c16
    have p200 := eq_true c17
    have q200 := eq_true c16
    have p201 := eq_true c18
    have q201 := eq_true c22
    clear c16 cm c17 c18 c19 c22 e_
    go_wp2
    go_cut [7] (fun v7 wc => ∃ gn : Nat, v7 = .pointer (some ⟨gn, 0, none⟩) ∧ Aside0 (LN w0 w wc P0_0_ go6 l0_0.length co6 gb197 gn #[.bool (rd_T72 X (rd l2 x6_1)).f0, .int .i64 (rd_T72 X (rd l2 x6_1)).f1, .int .i64 (rd_T72 X (rd l2 x6_1)).f2, .int .i64 (rd_T72 X (rd l2 x6_1)).f3, .int .i64 (rd_T72 X (rd l2 x6_1)).f4, .int .i64 (rd_T72 X (rd l2 x6_1)).f5, .int .i64 (rd_T72 X (rd l2 x6_1)).f6] X))
    case first =>
     have HS2 := Aside0.mk HS.out.drew
     clear HS
     have HS := HS2
     clear HS2
     obtain ⟨⟨hx28_0, hx28_1, hx28_2, hx28_3, hx28_4, hx28_5, hx28_6⟩, hf28_0, hf28_1, hf28_2, hf28_3, hf28_4, hf28_5, hf28_6⟩ := HS.out.at_ (rd l2 x6_1) C18.out C19.out
     refine start_ (n := 10) (S := fun w' => w'.cell? ⟨gb197, 0, none⟩ = some (.slice (some ⟨go6, 0, none⟩) l0_0.length co6) ∧ w'.cell? (ad200.add (x6_1).toNat) = some (.int .i64 (rd l2 x6_1)) ∧ w'.cell? ⟨go6, ((rd l2 x6_1)).toNat * 7, none⟩ = some (.bool (rd_T72 X (rd l2 x6_1)).f0) ∧ w'.cell? ⟨go6, ((rd l2 x6_1)).toNat * 7 + 1, none⟩ = some (.int .i64 (rd_T72 X (rd l2 x6_1)).f1) ∧ w'.cell? ⟨go6, ((rd l2 x6_1)).toNat * 7 + 2, none⟩ = some (.int .i64 (rd_T72 X (rd l2 x6_1)).f2) ∧ w'.cell? ⟨go6, ((rd l2 x6_1)).toNat * 7 + 3, none⟩ = some (.int .i64 (rd_T72 X (rd l2 x6_1)).f3) ∧ w'.cell? ⟨go6, ((rd l2 x6_1)).toNat * 7 + 4, none⟩ = some (.int .i64 (rd_T72 X (rd l2 x6_1)).f4) ∧ w'.cell? ⟨go6, ((rd l2 x6_1)).toNat * 7 + 5, none⟩ = some (.int .i64 (rd_T72 X (rd l2 x6_1)).f5) ∧ w'.cell? ⟨go6, ((rd l2 x6_1)).toNat * 7 + 6, none⟩ = some (.int .i64 (rd_T72 X (rd l2 x6_1)).f6)) (ds := [9]) (fl_ 10 0) (by kernel_rfl) rfl (fl_zero _) ⟨HS.out.box.1, Kd.foot_int (HR2.out _ HS.out.2.2.1) x6_1 C17.out C16.out, hx28_0, hx28_1, hx28_2, hx28_3, hx28_4, hx28_5, hx28_6⟩ (fun hHeld => ?_); refine with_tabW spec_l17Set.tab6 spec_l17Set.bits6 (fun HT_ HW_ => ?_)
     generalize wr.drew = w28 at HS hx28_0 hx28_1 hx28_2 hx28_3 hx28_4 hx28_5 hx28_6 hf28_0 hf28_1 hf28_2 hf28_3 hf28_4 hf28_5 hf28_6 hHeld ⊢
     refine zp_ HT_ rfl rfl (by kernel_rfl) (fun _ _ _ h => h) (by rfl) ?_
     refine zpg_ (i := 2) (ra_ [1, 1, 1, 7]) HT_ rfl rfl (by kernel_rfl) (fun _ _ _ h => h) (by rfl) ?_
     refine zpg_ (i := 3) (ra_ [1, 1, 2, 6]) HT_ rfl rfl (by kernel_rfl) (fun _ _ _ h => h) (by rfl) ?_
     refine zpg_ (i := 4) (ra_ [1, 1, 3, 5]) HT_ rfl rfl (by kernel_rfl) (fun _ _ _ h => h) (by rfl) ?_
     refine ztg_ (i := 1) (fl_ 10 5) HT_ HW_ rfl rfl (by kernel_rfl) (fun _ _ _ h => h) (by rfl) hHeld ?_ z138_
     refine zt_ HT_ HW_ rfl rfl (by kernel_rfl) (fun _ _ _ h => h) (by rfl) hHeld ?_ z138_
     refine zp_ HT_ rfl rfl (by kernel_rfl) (fun _ _ _ h => h) (by rfl) ?_
     refine zt_ HT_ HW_ rfl rfl (by kernel_rfl) (fun _ _ _ h => h) (by rfl) hHeld ?_ z138_
     refine one_ (i := 8) (N := some 7) (fl_ 10 9) rfl rfl (one_of HT_.out (by kernel_rfl)) (by decide) (fun K hK => ?_)
     refine box_step ?hg (N := 7) ?hd (cs := #[.bool false, .int .i64 0, .int .i64 0, .int .i64 0, .int .i64 0, .int .i64 0, .int .i64 0]) (t := 72) ?hr ?_; (case hd => rfl); (case hg => rfl); (case hr => exact z19_)
     intro gn hg w29 hbox hb
     have HN := Aside0.mk (LN.start HS.out (by have := C21.out; have := C4.out; omega) hbox hb hg)
     clear hbox hb hg HS
     obtain ⟨⟨hx29_0, hx29_1, hx29_2, hx29_3, hx29_4, hx29_5, hx29_6⟩, hf29_0, hf29_1, hf29_2, hf29_3, hf29_4, hf29_5, hf29_6⟩ := HN.out.1.at_ (rd l2 x6_1) C18.out C19.out
     obtain ⟨⟨hc_0, hc_1, hc_2, hc_3, hc_4, hc_5, hc_6⟩, hcf_0, hcf_1, hcf_2, hcf_3, hcf_4, hcf_5, hcf_6⟩ := HN.out.cell
     refine hK.out _ _ ⟨HN.out.1.box.1, Kd.foot_int (HR2.out _ HN.out.1.2.2.1) x6_1 C17.out C16.out, hx29_0, hx29_1, hx29_2, hx29_3, hx29_4, hx29_5, hx29_6⟩ (fun hHeld => ?_)
     clear hK K
     refine zn_ rfl ?_
     refine last_ (i := 9) (N := none) (fl_ 10 10) rfl rfl (one_of HT_.out (by kernel_rfl)) (by decide) (fun K hK => ?_)
     refine skip_ (w1 := ?_) (by rfl) rfl ?_ ?_
     rotate_left
     ·go_simp
      rfl
     refine hK.out _ _ ?_
     clear hK K
     refine done_ (done_of HT_.out (by kernel_rfl)) ?_
     try go_wp2
     go_meet
     case rel => exact ⟨gn, rfl, ⟨HN.out.all (.bool (rd_T72 X (rd l2 x6_1)).f0) (.int .i64 (rd_T72 X (rd l2 x6_1)).f1) (.int .i64 (rd_T72 X (rd l2 x6_1)).f2) (.int .i64 (rd_T72 X (rd l2 x6_1)).f3) (.int .i64 (rd_T72 X (rd l2 x6_1)).f4) (.int .i64 (rd_T72 X (rd l2 x6_1)).f5) (.int .i64 (rd_T72 X (rd l2 x6_1)).f6)⟩⟩
    case rest =>
     clear HS
     obtain ⟨gn, rfl, HN⟩ := hcut
     obtain ⟨⟨hc_0, hc_1, hc_2, hc_3, hc_4, hc_5, hc_6⟩, hcf_0, hcf_1, hcf_2, hcf_3, hcf_4, hcf_5, hcf_6⟩ := HN.out.cell
     go_upto_if 37 with (fail)
     have HN1 := Aside0.mk (show LN w0 w (((wc.setCell ⟨gn, 2, none⟩ (.int .i64 a1)).setCell ⟨gn, 5, none⟩ (.int .i64 (-1))).setCell ⟨gn, 6, none⟩ (.int .i64 (-1))) P0_0_ go6 l0_0.length co6 gb197 gn #[.bool (rd_T72 X (rd l2 x6_1)).f0, .int .i64 (rd_T72 X (rd l2 x6_1)).f1, .int .i64 a1, .int .i64 (rd_T72 X (rd l2 x6_1)).f3, .int .i64 (rd_T72 X (rd l2 x6_1)).f4, .int .i64 (-1), .int .i64 (-1)] X from ((HN.out.setp 2 (.int .i64 a1) #[.bool (rd_T72 X (rd l2 x6_1)).f0, .int .i64 (rd_T72 X (rd l2 x6_1)).f1, .int .i64 a1, .int .i64 (rd_T72 X (rd l2 x6_1)).f3, .int .i64 (rd_T72 X (rd l2 x6_1)).f4, .int .i64 (rd_T72 X (rd l2 x6_1)).f5, .int .i64 (rd_T72 X (rd l2 x6_1)).f6] rfl).setp 5 (.int .i64 (-1)) #[.bool (rd_T72 X (rd l2 x6_1)).f0, .int .i64 (rd_T72 X (rd l2 x6_1)).f1, .int .i64 a1, .int .i64 (rd_T72 X (rd l2 x6_1)).f3, .int .i64 (rd_T72 X (rd l2 x6_1)).f4, .int .i64 (-1), .int .i64 (rd_T72 X (rd l2 x6_1)).f6] rfl).setp 6 (.int .i64 (-1)) #[.bool (rd_T72 X (rd l2 x6_1)).f0, .int .i64 (rd_T72 X (rd l2 x6_1)).f1, .int .i64 a1, .int .i64 (rd_T72 X (rd l2 x6_1)).f3, .int .i64 (rd_T72 X (rd l2 x6_1)).f4, .int .i64 (-1), .int .i64 (-1)] rfl)
     clear HN
     clear hc_0 hcf_0 hc_1 hcf_1 hc_2 hcf_2 hc_3 hcf_3 hc_4 hcf_4 hc_5 hcf_5 hc_6 hcf_6
     generalize (((wc.setCell ⟨gn, 2, none⟩ (.int .i64 a1)).setCell ⟨gn, 5, none⟩ (.int .i64 (-1))).setCell ⟨gn, 6, none⟩ (.int .i64 (-1))) = w32 at HN1 ⊢
     have HN := HN1
     clear HN1
     go_cut [] (fun wc => Aside0 (LN w0 w wc P0_0_ go6 l0_0.length co6 gb197 gn #[.bool (rd_T72 X (rd l2 x6_1)).f0, .int .i64 (rd_T72 X (rd l2 x6_1)).f1, .int .i64 a1, .int .i64 (rd_T72 X (rd l2 x6_1)).f3, .int .i64 (rd_T72 X (rd l2 x6_1)).f4, .int .i64 (spec_l17Set.pv l2 x6_1), .int .i64 (-1)] (spec_l17Set.s1 X a1 l2 x6_1)))
     case first =>
      by_cases c20 : 0 < x6_1
      ·have c20b0 := decide_eq_true c20
       obtain ⟨ji21, hji21⟩ : ∃ j_ : Int, (wrap64 (x6_1 - 1)) = j_ := ⟨_, rfl⟩
       have E21 := Aside0.mk (show ji21 = x6_1 - 1 from by rw [← hji21]; unfold wrap64; have := C17.out; have := CM.out; omega)
       have hji21w : (IntKind.i64.wrap (x6_1 - 1)) = ji21 := (i64_w _).trans hji21
       have C203 := Aside0.mk (show 0 ≤ ji21 from by have := E21.out; omega)
       have D203 := Aside0.mk (show ji21 < (l2.length : Int) from by have := E21.out; have := C16.out; omega)
       have C20 := Aside0.mk c20
       clear c20
       have p203 := eq_true C203.out
       have q203 := eq_true D203.out
       have hx203_0 := Kd.foot_int (HR2.out _ HN.out.1.2.2.1) ji21 C203.out D203.out
       obtain ⟨⟨hc_0, hc_1, hc_2, hc_3, hc_4, hc_5, hc_6⟩, hcf_0, hcf_1, hcf_2, hcf_3, hcf_4, hcf_5, hcf_6⟩ := HN.out.cell
       rw [c20b0]
       try go_wp2
       go_meet
       case rel => exact ⟨by
        have h_ := HN.out.setp 5 (.int .i64 (rd l2 ji21)) #[.bool (rd_T72 X (rd l2 x6_1)).f0, .int .i64 (rd_T72 X (rd l2 x6_1)).f1, .int .i64 a1, .int .i64 (rd_T72 X (rd l2 x6_1)).f3, .int .i64 (rd_T72 X (rd l2 x6_1)).f4, .int .i64 (rd l2 ji21), .int .i64 (-1)] rfl
        have e1_ : spec_l17Set.pv l2 x6_1 = rd l2 ji21 := by unfold spec_l17Set.pv; rw [if_pos C20.out, E21.out]
        have e2_ : spec_l17Set.s1 X a1 l2 x6_1 = X := by unfold spec_l17Set.s1; rw [if_pos C20.out]
        rw [e1_, e2_]
        exact h_⟩
      ·have c20b0 := decide_eq_false c20
       have C20 := Aside0.mk c20
       clear c20
       rw [c20b0]
       try go_wp2
       have HN2 := Aside0.mk HN.out.drew
       clear HN
       have HN := HN2
       clear HN2
       obtain ⟨⟨hx65_0, hx65_1, hx65_2, hx65_3, hx65_4, hx65_5, hx65_6⟩, hf65_0, hf65_1, hf65_2, hf65_3, hf65_4, hf65_5, hf65_6⟩ := HN.out.1.at_ (a1) C4.out C21.out
       refine start_ (n := 10) (S := fun w' => w'.cell? ⟨gb197, 0, none⟩ = some (.slice (some ⟨go6, 0, none⟩) l0_0.length co6) ∧ w'.cell? (ad200.add (x6_1).toNat) = some (.int .i64 (rd l2 x6_1))) (ds := [9]) (fl_ 10 0) (by kernel_rfl) rfl (fl_zero _) ⟨HN.out.1.box.1, Kd.foot_int (HR2.out _ HN.out.1.2.2.1) x6_1 C17.out C16.out⟩ (fun hHeld => ?_); refine with_tabW spec_l17Set.tab12 spec_l17Set.bits12 (fun HT_ HW_ => ?_)
       generalize w32.drew = w103 at HN hx65_0 hx65_1 hx65_2 hx65_3 hx65_4 hx65_5 hx65_6 hf65_0 hf65_1 hf65_2 hf65_3 hf65_4 hf65_5 hf65_6 hHeld ⊢
       refine zp_ HT_ rfl rfl (by kernel_rfl) (fun _ _ _ h => h) (by rfl) ?_
       refine zpg_ (i := 2) (ra_ [1, 1, 1, 7]) HT_ rfl rfl (by kernel_rfl) (fun _ _ _ h => h) (by rfl) ?_
       refine zpg_ (i := 3) (ra_ [1, 1, 2, 6]) HT_ rfl rfl (by kernel_rfl) (fun _ _ _ h => h) (by rfl) ?_
       refine zpg_ (i := 4) (ra_ [1, 1, 3, 5]) HT_ rfl rfl (by kernel_rfl) (fun _ _ _ h => h) (by rfl) ?_
       refine zpg_ (i := 5) (ra_ [1, 1, 4, 4]) HT_ rfl rfl (by kernel_rfl) (fun _ _ _ h => h) (by rfl) ?_
       refine ztg_ (i := 1) (fl_ 10 6) HT_ HW_ rfl rfl (by kernel_rfl) (fun _ _ _ h => h) (by rfl) hHeld ?_ z265_
       refine zt_ HT_ HW_ rfl rfl (by kernel_rfl) (fun _ _ _ h => h) (by rfl) hHeld ?_ z265_
       iterate 2 refine zp_ HT_ rfl rfl (by kernel_rfl) (fun _ _ _ h => h) (by rfl) ?_
       refine last_ (i := 9) (N := none) (fl_ 10 10) rfl rfl (one_of HT_.out (by kernel_rfl)) (by decide) (fun K hK => ?_)
       refine skip_ (w1 := ?_) (by rfl) rfl ?_ ?_
       rotate_left
       ·go_simp
        rfl
       refine hK.out _ _ ?_
       clear hK K
       refine done_ (done_of HT_.out (by kernel_rfl)) ?_
       try go_wp2
       go_meet
       case rel => exact ⟨by
        have h_ := HN.out.putF a1 (rd l2 x6_1) C4.out C21.out
        have e1_ : spec_l17Set.pv l2 x6_1 = (-1) := by unfold spec_l17Set.pv; rw [if_neg (by have := C20.out; omega)]
        have e2_ : spec_l17Set.s1 X a1 l2 x6_1 = setF X a1 (rd l2 x6_1) := by unfold spec_l17Set.s1; rw [if_neg (by have := C20.out; omega)]
        rw [e1_, e2_]
        exact h_⟩
     case rest =>
      have HN_ := hcut
      clear HN hcut
      have HN := HN_
      clear HN_
      obtain ⟨⟨hd_0, hd_1, hd_2, hd_3, hd_4, hd_5, hd_6⟩, hdf_0, hdf_1, hdf_2, hdf_3, hdf_4, hdf_5, hdf_6⟩ := HN.out.cell
      go_upto_if 57 with (fail)
      go_cut [] (fun wc => Aside0 (LN w0 w wc P0_0_ go6 l0_0.length co6 gb197 gn #[.bool (rd_T72 X (rd l2 x6_1)).f0, .int .i64 (rd_T72 X (rd l2 x6_1)).f1, .int .i64 a1, .int .i64 (rd_T72 X (rd l2 x6_1)).f3, .int .i64 (rd_T72 X (rd l2 x6_1)).f4, .int .i64 (spec_l17Set.pv l2 x6_1), .int .i64 (spec_l17Set.nx l2 x6_1)] (spec_l17Set.s2 (spec_l17Set.s1 X a1 l2 x6_1) a1 l2 x6_1)))
      case first =>
       by_cases c24 : ji25 < (l2.length : Int)
       ·have c24b0 := decide_eq_true c24
        have C204 := Aside0.mk (show 0 ≤ ji25 from by have := E25.out; have := C17.out; omega)
        have D204 := Aside0.mk c24
        clear c24
        have p204 := eq_true C204.out
        have q204 := eq_true D204.out
        have hx204_0 := Kd.foot_int (HR2.out _ HN.out.1.2.2.1) ji25 C204.out D204.out
        rw [c24b0]
        try go_wp2
        go_meet
        case rel => exact ⟨by
         have h_ := HN.out.setp 6 (.int .i64 (rd l2 ji25)) #[.bool (rd_T72 X (rd l2 x6_1)).f0, .int .i64 (rd_T72 X (rd l2 x6_1)).f1, .int .i64 a1, .int .i64 (rd_T72 X (rd l2 x6_1)).f3, .int .i64 (rd_T72 X (rd l2 x6_1)).f4, .int .i64 (spec_l17Set.pv l2 x6_1), .int .i64 (rd l2 ji25)] rfl
         have e1_ : spec_l17Set.nx l2 x6_1 = rd l2 ji25 := by unfold spec_l17Set.nx; rw [if_pos (by rw [← E25.out]; exact D204.out), E25.out]
         have e2_ : spec_l17Set.s2 (spec_l17Set.s1 X a1 l2 x6_1) a1 l2 x6_1 = (spec_l17Set.s1 X a1 l2 x6_1) := by unfold spec_l17Set.s2; rw [if_pos (by rw [← E25.out]; exact D204.out)]
         rw [e1_, e2_]
         exact h_⟩
       ·have c24b0 := decide_eq_false c24
        have C24 := Aside0.mk c24
        clear c24
        have C21b := Aside0.mk (show a1 < ((spec_l17Set.s1 X a1 l2 x6_1).length : Int) from by have := HN.out.1.2.2.2.2.1; have := C5.out; omega)
        rw [c24b0]
        try go_wp2
        have HN2 := Aside0.mk HN.out.drew
        clear HN
        have HN := HN2
        clear HN2
        obtain ⟨⟨hx75_0, hx75_1, hx75_2, hx75_3, hx75_4, hx75_5, hx75_6⟩, hf75_0, hf75_1, hf75_2, hf75_3, hf75_4, hf75_5, hf75_6⟩ := HN.out.1.at_ (a1) C4.out C21b.out
        refine start_ (n := 10) (S := fun w' => w'.cell? ⟨gb197, 0, none⟩ = some (.slice (some ⟨go6, 0, none⟩) l0_0.length co6) ∧ w'.cell? (ad200.add (x6_1).toNat) = some (.int .i64 (rd l2 x6_1))) (ds := [9]) (fl_ 10 0) (by kernel_rfl) rfl (fl_zero _) ⟨HN.out.1.box.1, Kd.foot_int (HR2.out _ HN.out.1.2.2.1) x6_1 C17.out C16.out⟩ (fun hHeld => ?_); refine with_tabW spec_l17Set.tab15 spec_l17Set.bits15 (fun HT_ HW_ => ?_)
        generalize wc.drew = w113 at HN hx75_0 hx75_1 hx75_2 hx75_3 hx75_4 hx75_5 hx75_6 hf75_0 hf75_1 hf75_2 hf75_3 hf75_4 hf75_5 hf75_6 hHeld ⊢
        refine zp_ HT_ rfl rfl (by kernel_rfl) (fun _ _ _ h => h) (by rfl) ?_
        refine zpg_ (i := 2) (ra_ [1, 1, 1, 7]) HT_ rfl rfl (by kernel_rfl) (fun _ _ _ h => h) (by rfl) ?_
        refine zpg_ (i := 3) (ra_ [1, 1, 2, 6]) HT_ rfl rfl (by kernel_rfl) (fun _ _ _ h => h) (by rfl) ?_
        refine zpg_ (i := 4) (ra_ [1, 1, 3, 5]) HT_ rfl rfl (by kernel_rfl) (fun _ _ _ h => h) (by rfl) ?_
        refine zpg_ (i := 5) (ra_ [1, 1, 4, 4]) HT_ rfl rfl (by kernel_rfl) (fun _ _ _ h => h) (by rfl) ?_
        refine ztg_ (i := 1) (fl_ 10 6) HT_ HW_ rfl rfl (by kernel_rfl) (fun _ _ _ h => h) (by rfl) hHeld ?_ z265_
        refine zt_ HT_ HW_ rfl rfl (by kernel_rfl) (fun _ _ _ h => h) (by rfl) hHeld ?_ z265_
        iterate 2 refine zp_ HT_ rfl rfl (by kernel_rfl) (fun _ _ _ h => h) (by rfl) ?_
        refine last_ (i := 9) (N := none) (fl_ 10 10) rfl rfl (one_of HT_.out (by kernel_rfl)) (by decide) (fun K hK => ?_)
        refine skip_ (w1 := ?_) (by rfl) rfl ?_ ?_
        rotate_left
        ·go_simp
         rfl
        refine hK.out _ _ ?_
        clear hK K
        refine done_ (done_of HT_.out (by kernel_rfl)) ?_
        try go_wp2
        go_meet
        case rel => exact ⟨by
         have h_ := HN.out.putL a1 (rd l2 x6_1) C4.out C21b.out
         have e1_ : spec_l17Set.nx l2 x6_1 = (-1) := by unfold spec_l17Set.nx; rw [if_neg (by have := C24.out; have := E25.out; omega)]
         have e2_ : spec_l17Set.s2 (spec_l17Set.s1 X a1 l2 x6_1) a1 l2 x6_1 = setL (spec_l17Set.s1 X a1 l2 x6_1) a1 (rd l2 x6_1) := by unfold spec_l17Set.s2; rw [if_neg (by have := C24.out; have := E25.out; omega)]
         rw [e1_, e2_]
         exact h_⟩
      case rest =>
       have HN_ := hcut
       clear HN hcut hd_0 hdf_0 hd_1 hdf_1 hd_2 hdf_2 hd_3 hdf_3 hd_4 hdf_4 hd_5 hdf_5 hd_6 hdf_6
       have HN := HN_
       clear HN_
       have C19b := Aside0.mk (show rd l2 x6_1 < ((spec_l17Set.s2 (spec_l17Set.s1 X a1 l2 x6_1) a1 l2 x6_1).length : Int) from by have h_ := HN.out.1.2.2.2.2.1; have h2_ := of_eq_true q201; omega)
       try go_wp2
       have HN2 := Aside0.mk HN.out.drew
       clear HN
       have HN := HN2
       clear HN2
       obtain ⟨⟨hg_0, hg_1, hg_2, hg_3, hg_4, hg_5, hg_6⟩, hgf_0, hgf_1, hgf_2, hgf_3, hgf_4, hgf_5, hgf_6⟩ := HN.out.cell
       obtain ⟨⟨hx85_0, hx85_1, hx85_2, hx85_3, hx85_4, hx85_5, hx85_6⟩, hf85_0, hf85_1, hf85_2, hf85_3, hf85_4, hf85_5, hf85_6⟩ := HN.out.1.at_ (rd l2 x6_1) C18.out C19b.out
       refine start_ (n := 9) (S := fun w' => w'.cell? ⟨gb197, 0, none⟩ = some (.slice (some ⟨go6, 0, none⟩) l0_0.length co6) ∧ w'.cell? ⟨gn, 0, none⟩ = some (.bool (rd_T72 X (rd l2 x6_1)).f0) ∧ w'.cell? ⟨gn, 1, none⟩ = some (.int .i64 (rd_T72 X (rd l2 x6_1)).f1) ∧ w'.cell? ⟨gn, 2, none⟩ = some (.int .i64 a1) ∧ w'.cell? ⟨gn, 3, none⟩ = some (.int .i64 (rd_T72 X (rd l2 x6_1)).f3) ∧ w'.cell? ⟨gn, 4, none⟩ = some (.int .i64 (rd_T72 X (rd l2 x6_1)).f4) ∧ w'.cell? ⟨gn, 5, none⟩ = some (.int .i64 (spec_l17Set.pv l2 x6_1)) ∧ w'.cell? ⟨gn, 6, none⟩ = some (.int .i64 (spec_l17Set.nx l2 x6_1)) ∧ w'.cell? (ad200.add (x6_1).toNat) = some (.int .i64 (rd l2 x6_1))) (ds := [8]) (fl_ 9 0) (by kernel_rfl) rfl (fl_zero _) ⟨HN.out.1.box.1, hg_0, hg_1, hg_2, hg_3, hg_4, hg_5, hg_6, Kd.foot_int (HR2.out _ HN.out.1.2.2.1) x6_1 C17.out C16.out⟩ (fun hHeld => ?_); refine with_tabW spec_l17Set.tab16 spec_l17Set.bits16 (fun HT_ HW_ => ?_)
       generalize wc.drew = w123 at HN hx85_0 hx85_1 hx85_2 hx85_3 hx85_4 hx85_5 hx85_6 hf85_0 hf85_1 hf85_2 hf85_3 hf85_4 hf85_5 hf85_6 hg_0 hgf_0 hg_1 hgf_1 hg_2 hgf_2 hg_3 hgf_3 hg_4 hgf_4 hg_5 hgf_5 hg_6 hgf_6 hHeld ⊢
       refine zp_ HT_ rfl rfl (by kernel_rfl) (fun _ _ _ h => h) (by rfl) ?_
       refine zpg_ (i := 2) (ra_ [1, 1, 1, 6]) HT_ rfl rfl (by kernel_rfl) (fun _ _ _ h => h) (by rfl) ?_
       refine zpg_ (i := 3) (ra_ [1, 1, 2, 5]) HT_ rfl rfl (by kernel_rfl) (fun _ _ _ h => h) (by rfl) ?_
       refine zpg_ (i := 4) (ra_ [1, 1, 3, 4]) HT_ rfl rfl (by kernel_rfl) (fun _ _ _ h => h) (by rfl) ?_
       refine ztg_ (i := 1) (fl_ 9 5) HT_ HW_ rfl rfl (by kernel_rfl) (fun _ _ _ h => h) (by rfl) hHeld ?_ z138_
       iterate 2 refine zt_ HT_ HW_ rfl rfl (by kernel_rfl) (fun _ _ _ h => h) (by rfl) hHeld ?_ z138_
       refine zp_ HT_ rfl rfl (by kernel_rfl) (fun _ _ _ h => h) (by rfl) ?_
       refine last_ (i := 8) (N := none) (fl_ 9 9) rfl rfl (one_of HT_.out (by kernel_rfl)) (by decide) (fun K hK => ?_)
       refine skip_ (w1 := ?_) (by rfl) rfl ?_ ?_
       rotate_left
       ·go_simp
        rfl
       refine hK.out _ _ ?_
       clear hK K
       refine done_ (done_of HT_.out (by kernel_rfl)) ?_
       try go_wp2
       go_roundg k1
       case measure => have := HK1.out; omega
       case rel => exact ⟨ji25, _, z17_, H', ⟨z259_⟩, ⟨HN.out.1.put (rd l2 x6_1) C18.out C19b.out 0 [.bool (rd_T72 X (rd l2 x6_1)).f0, .int .i64 (rd_T72 X (rd l2 x6_1)).f1, .int .i64 a1, .int .i64 (rd_T72 X (rd l2 x6_1)).f3, .int .i64 (rd_T72 X (rd l2 x6_1)).f4, .int .i64 (spec_l17Set.pv l2 x6_1), .int .i64 (spec_l17Set.nx l2 x6_1)] (by decide : 0 + 7 ≤ 7) (spec_l17Set.e X a1 l2 x6_1) rfl⟩⟩
   ·rw [if_neg c16] at H
    have c16b0 := decide_eq_false c16
    clear c16
    obtain rfl := Option.some.inj H
    go_wp2
    go_end0
    exact ⟨z4_, z293_, z251_, z267_⟩

end Go.Proofs.Ytdapeboajjidmab.PFnExactDomInsert
