/- The law FnExactOpText holds of the program: for every argument that can be read it returns true and leaves its arguments as they were; no condition beyond the row's own. -/
import Derived.Test.YtipclgiboffblaaDoorRows
import Derived.Test.YtipclgiboffblaaDoorOFnExactOpText
import Derived.Test.YtipclgiboffblaaDoorPureFnExactOpText
import Derived.WalkKit
import Derived.ProofKit
import Derived.OpenShut
import Derived.ShutString
import Derived.ChangeOld
import Derived.Below
import Derived.SizedLaws
import Derived.LaidMore
import Derived.SevenTiedAt
import Derived.Test.YtipclgiboffblaaDoorTie
import Derived.Test.YtipclgiboffblaaDoorCards
import Derived.MakeChecks
import Derived.Stop.Joined
import Derived.Stop.LaidErr
import Derived.Lib.LaidTab
namespace Go.Proofs.YtipclgiboffblaaDoor.fnExactOpText
open Go.ChangeShapes Go.WideShapes Go.ChangeAt Go.RowKit Go.Proofs.YtipclgiboffblaaDoor.Opens Go.Proofs.YtipclgiboffblaaDoor.OFnExactOpText Go.Proofs.YtipclgiboffblaaDoor.PFnExactOpText Go.Proofs.YtipclgiboffblaaDoorW.PrintWords
open Go.ChangeMaps (open_string shut_string)
set_option linter.unusedVariables false
theorem own : ownKnob Tryd.prog.godebug = none := by kernel_rfl
theorem laidOut : laidOutB Tryd.prog = true := by kernel_rfl
theorem door_met (os : Os) (args : Array Value) : laidMetH Tryd.prog Rows.fnExactOpTextRow.laid ((World.doorLaid Tryd.prog 400 os).forCall (fun _ _ => 0) ⟨#[], args, []⟩).memory :=
  laidMetH_of_parts3 (fuel := 8) (laidMet_of_run' 8 (by kernel_rfl) (by kernel_rfl)) (by kernel_rfl) (by kernel_rfl)
theorem tab_of_laid {W : World} (h : laidMetH Tryd.prog Rows.fnExactOpTextRow.laid W) : Lib.TabIs Tryd.prog W "internal/strconv.uint64pow10" .u64 Lib.pow10Tab := by
  rw [MakeChecks.laidMetH_plain _ _ _ (by kernel_rfl)] at h
  have h2 : laidMet Tryd.prog [("internal/strconv.uint64pow10", Lib.tabData .u64 Lib.pow10Tab)] W := h.tail.tail
  exact Lib.tabIs_of_head (g := 1) (t := 86) (e := 79) (n := 20) (by kernel_rfl) (by kernel_rfl) Tryd.underlying86 Tryd.underlying79 (by kernel_rfl) (by kernel_rfl) h2
set_option maxRecDepth 100000 in
theorem lifted (os : Os) (started : os.Started) (H : Type) (enc : TypeId × Value → H) :
    ReturnsInHanded {} Tryd.checked os 4 .any (fun w args => (Rows.fnExactOpTextSpec.pre enc Tryd.prog Tryd.f4 [] false w args ∧ laidMetH Tryd.prog Rows.fnExactOpTextRow.laid w) ∧ sizedMet enc Tryd.prog Tryd.f4 (OpenSpec.ofChange Rows.fnExactOpTextSpec) false w args) (Rows.fnExactOpTextSpec.post enc Tryd.prog Tryd.f4 false true false false) := by
  refine returnsInHanded_of_change_and (C := Tryd.checked) (X := fun w _ => laidMetH Tryd.prog Rows.fnExactOpTextRow.laid w) (fun _ _ _ hh h => h.of_heap hh) own started (by kernel_rfl) Tryd.func4
    (ChangeSpec.witness_shaped (enc := enc) (C := Tryd.checked) (os := os) (X := fun w _ => laidMetH Tryd.prog Rows.fnExactOpTextRow.laid w) false (World.doorLaid Tryd.prog 400 os) #[.agg #[.int .i64 0, .slice none 0 0, .int .i64 0, .int .i64 0, .int .i64 0]] 8 rfl (World.shaped_of_RefB (by kernel_rfl) (by kernel_rfl)) (by kernel_rfl) (by kernel_rfl) (by kernel_rfl) (door_met os _)) ?_
  intro W base args ds gs before hval0 hW _ _ hL _
  have hval : ∀ (j : Nat) t v, Tryd.f4.params[j]? = some t → args[j]? = some v → Value.okWide Tryd.prog W .any base t v := hval0
  have hW' := hW
  obtain ⟨p, q, hA0, hV, rfl, hfz, hnd⟩ := hW
  have hA : DataW.TrodAll enc Tryd.prog W 0 (fun _ => true) true Tryd.f4.params.toList args.toList ds p := hA0
  rw [Tryd.params4] at hA hval
  obtain ⟨v0, vs0, d0, ds0, p0, q0, hargs, rfl, rfl, h0, r0⟩ := trodAll_cons hA
  obtain ⟨rfl, rfl, rfl⟩ := trodAll_nil r0
  obtain rfl : args = #[v0] := by cases args; simp_all
  obtain ⟨rfl, rfl⟩ := trodVars_none hV
  have k0 := h0
  have lt0 : ∀ x ∈ p0, x.block < W.heap.size := by obtain ⟨m, hm⟩ := k0; exact DataW.trod_lt m _ _ _ hm
  obtain ⟨cs0, rfl, hcs0⟩ := okWide_struct Tryd.underlying30 (hval 0 30 v0 rfl rfl)
  obtain ⟨s0, hK0, hg0⟩ := arg_struct open30 h0
  have hs0 : ∃ (B0_1 : Option Addr) (C0_1 : Nat), cs0 = #[.int .i64 s0.f0, .slice B0_1 s0.f1.length C0_1, .int .i64 s0.f2, .int .i64 s0.f3, .int .i64 s0.f4] ∧ s0.f1.length ≤ C0_1 ∧ Kd.C (Kd.int .i64) W B0_1 s0.f1.length s0.f1 := by
    obtain ⟨c0, r0, q0, h0_, ⟨c1, r1, q1, h1_, ⟨c2, r2, q2, h2_, ⟨c3, r3, q3, h3_, h4_⟩⟩⟩⟩ := hK0
    have g0 := h0_
    obtain ⟨B0_1, C0_1, g1, u1, v1⟩ := h1_
    have g2 := h2_
    have g3 := h3_
    have g4 := h4_
    refine ⟨B0_1, C0_1, ?_, u1, v1⟩
    have el : cs0.toList = [.int .i64 s0.f0, .slice B0_1 s0.f1.length C0_1, .int .i64 s0.f2, .int .i64 s0.f3, .int .i64 s0.f4] := by
      have q := q0
      rw [q1] at q
      rw [q2] at q
      rw [q3] at q
      rw [show c0 = _ from g0, show c1 = _ from g1, show c2 = _ from g2, show c3 = _ from g3] at q
      rw [show r3 = _ from g4] at q
      exact q
    exact Array.toList_inj.1 el
  obtain ⟨B0_1, C0_1, rfl, hc0_1, hC0_1⟩ := hs0
  clear hA0 hval0
  obtain ⟨k, h⟩ := Pure.FnExactOpText s0 hg0
  refine (laws_FnExactOpText.calls k s0.f0 _ _ s0.f1 s0.f2 s0.f3 s0.f4 true W hC0_1 hc0_1 h).mono ?_
  rintro e W' ⟨rfl, bel0⟩
  have bel : Below W.heap.size W W' := bel0
  exact ⟨_, rfl, _, _, _, [], _, [], hW', trodAll_mk1 (shut_bool Tryd.underlying4 _), (trodAll_cons_mk (Below.trod laidOut (by kernel_rfl) (of_decide_eq_true (by kernel_rfl)) k0 bel lt0) trodAll_mk0), rfl, bel.frame _, fun h => by cases h⟩
theorem over : Rows.fnExactOpTextRow.holds Tryd.pinned (OpenSpec.ofChange Rows.fnExactOpTextSpec) :=
  OpenClaim.holds_of_wide 4 Tryd.f4 rfl rfl rfl rfl rfl rfl rfl ⟨rfl, rfl, rfl, rfl, rfl⟩ rfl rfl rfl rfl rfl (by kernel_rfl) Tryd.func4 (by kernel_rfl)
    (of_decide_eq_true (by kernel_rfl)) (by unfold Func.isWrapper; first | (rw [if_pos (by decide +kernel)]; kernel_rfl) | (rw [if_neg (by decide +kernel)]; exact ⟨rfl, rfl⟩))
    (fun os started H enc _ => lifted os started H enc)
theorem proved : Rows.FnExactOpTextSaid := over
end Go.Proofs.YtipclgiboffblaaDoor.fnExactOpText
namespace Go.Proofs.YtipclgiboffblaaDoor
/-- The row, under a short name, for the claim. -/
theorem fnExactOpText_holds : Rows.FnExactOpTextSaid := fnExactOpText.proved
theorem fnExactOpTextCard_tie : Rows.fnExactOpTextRow.laidByTextAt .later Tryd.pinned [.data, .data, .data] true :=
  OpenClaim.laidByTextAt_later rfl rfl tie (by kernel_rfl)
theorem fnExactOpTextCard_holds : Rows.FnExactOpTextCardSaid :=
  Claim7.holds_tied_plain_at .later [] [.data, .data, .data] true (true, "086fdcc08a4f8ee79b80ccdc5305c159ad8f53d952b8b4c213b0d24678de5f64") false
    fnExactOpText_holds (fun _ h => by cases h) (by kernel_rfl) (fun _ h => by cases h) fnExactOpTextCard_tie rfl ⟨rfl, rfl⟩ (by kernel_rfl) rfl
    (fun f fn hf hfn => by
      obtain rfl : f = 4 := Option.some.inj ((show Tryd.prog.funcNamed "loop.example/g01618/laws.FnExactOpText" = some 4 by kernel_rfl).symm.trans hf) |>.symm
      obtain rfl : fn = Tryd.f4 := (Option.some.inj (Tryd.func4.symm.trans hfn)).symm
      exact ⟨by kernel_rfl, fun j t ht => by
        rw [Tryd.params4] at ht
        have h3 : t = 30 := by
          rcases j with _ | j
          · simpa using ht.symm
          · simp at ht
        subst h3
        exact (show Tryd.prog.wantsStandIn 30 = false by kernel_rfl)⟩)
    (by kernel_rfl)
#print axioms fnExactOpTextCard_holds
end Go.Proofs.YtipclgiboffblaaDoor
