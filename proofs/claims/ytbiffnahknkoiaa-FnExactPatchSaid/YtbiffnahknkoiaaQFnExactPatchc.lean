/- What the printed functions of the law FnExactPatch come to, function by function, from some number of rounds on; each under the bounds that it names. -/
import Derived.Test.YtbiffnahknkoiaaQFnExactPatchb
namespace Go.Proofs.Ytbiffnahknkoiaa.QFnExactPatch
open Go.RowKit Go.Proofs.Ytbiffnahknkoiaa.PFnExactPatch Go.Proofs.YtbiffnahknkoiaaW.PrintWords Go.Proofs.YtbiffnahknkoiaaW.PrintLast Go.Proofs.YtbiffnahknkoiaaW.PrintMore Go.Proofs.Ytbiffnahknkoiaa.EvAid Go.Proofs.Ytbiffnahknkoiaa
set_option linter.unusedVariables false
set_option linter.unusedSimpArgs false

/-! #### _getScript -/
open Go.Proofs.Ytbiffnahknkoiaa.Cut Go.Proofs.Ytbiffnahknkoiaa.VarN
/-- a number read at a place, in a range: the number, the place behind it, what was wrong -/
noncomputable def nm (s : ByteArray) (a : Nat) (c : Int) (low high : Nat) (e : Int) : Nat × Nat × Int :=
  if c = 0 then (if (rv (tl s a)).2 = 0 then (0, a, 1) else if low ≤ (rv (tl s a)).1 ∧ (rv (tl s a)).1 ≤ high then ((rv (tl s a)).1, a + (rv (tl s a)).2, 0) else (0, a, e)) else (0, a, c)
theorem nm_bad (s : ByteArray) (a : Nat) (c : Int) (low high : Nat) (e : Int) (hc : c ≠ 0) : nm s a c low high e = (0, a, c) := by unfold nm; rw [if_neg hc]
theorem nm_le (s : ByteArray) (hs : s.size ≤ 1048576) (a : Nat) (ha : a ≤ s.size) (c : Int) (low high : Nat) (e : Int) : (nm s a c low high e).1 ≤ high ∧ (nm s a c low high e).2.1 ≤ s.size := by
  obtain ⟨r, _, _⟩ := rvt s hs a ha
  unfold nm
  split
  · split
    · exact ⟨Nat.zero_le _, ha⟩
    · rename_i h
      split
      · rename_i h2
        exact ⟨h2.2, by rcases r with r | r; exact absurd r.1 h; exact r.2.1⟩
      · exact ⟨Nat.zero_le _, ha⟩
  · exact ⟨Nat.zero_le _, ha⟩
theorem specNum (s : ByteArray) (hs : s.size ≤ 1048576) (a : Nat) (ha : a ≤ s.size) (c : Int) (high : Nat) (e : Int) : Ev (fun k => spec_l15Num.f k s (a : Int) c (high : Int) e) (((nm s a c 0 high e).1 : Int), s, ((nm s a c 0 high e).2.1 : Int), (nm s a c 0 high e).2.2) := by
  have l1 := l4Num_ev s hs a ha
  simp only [spec_l15Num.f]
  unfold nm
  by_cases hc : c = 0
  · rw [if_pos hc]
    refine ev_pos hc ?_
    by_cases h1 : (rv (tl s a)).2 = 0
    · rw [if_pos h1] at l1 ⊢
      exact ev_bind l1 (ev_pos (by decide) (Ev.now _))
    · rw [if_neg h1] at l1 ⊢
      refine ev_bind l1 (ev_neg (by dsimp only; omega) ?_)
      dsimp only
      by_cases h2 : (rv (tl s a)).1 ≤ high
      · have hv : (if 0 ≤ (rv (tl s a)).1 ∧ (rv (tl s a)).1 ≤ high then ((rv (tl s a)).1, a + (rv (tl s a)).2, (0 : Int)) else (0, a, e)) = ((rv (tl s a)).1, a + (rv (tl s a)).2, 0) := if_pos ⟨Nat.zero_le _, h2⟩
        rw [hv]
        exact ev_neg (by omega) (ev_some (by rw [hc]))
      · have hv : (if 0 ≤ (rv (tl s a)).1 ∧ (rv (tl s a)).1 ≤ high then ((rv (tl s a)).1, a + (rv (tl s a)).2, (0 : Int)) else (0, a, e)) = (0, a, e) := if_neg (fun h => h2 h.2)
        rw [hv]
        exact ev_pos (by omega) (Ev.now _)
  · rw [if_neg hc]
    exact ev_neg hc (Ev.now _)
theorem within_and (n low high : Nat) : impl_within.f (n : Int) (low : Int) (high : Int) = some (decide (low ≤ n ∧ n ≤ high)) := by
  unfold impl_within.f
  by_cases h : (low : Int) ≤ (n : Int)
  · rw [if_pos h]; congr 1; exact decide_eq_decide.2 ⟨fun h2 => ⟨by omega, by omega⟩, fun h2 => by omega⟩
  · rw [if_neg h]; congr 1; exact (decide_eq_false (fun h2 => h (by omega))).symm
theorem implNum (s : ByteArray) (hs : s.size ≤ 1048576) (a : Nat) (ha : a ≤ s.size) (c : Int) (low high : Nat) (e : Int) : Ev (fun k => impl_script_number.f k (tl s a) c (low : Int) (high : Int) e) (((nm s a c low high e).1 : Int), tl s (nm s a c low high e).2.1, (nm s a c low high e).2.2) := by
  obtain ⟨r1, _, i1⟩ := rvt s hs a ha
  have hn := tl_next' s a (rv (tl s a)).2
  simp only [impl_script_number.f]
  unfold nm
  by_cases hc : c = 0
  · rw [if_pos hc]
    refine ev_pos hc ?_
    by_cases h1 : (rv (tl s a)).2 = 0
    · rw [if_pos h1]
      exact ev_bind i1 (ev_pos (by dsimp only; omega) (Ev.now _))
    · rw [if_neg h1]
      have hq : PLift (((rv (tl s a)).2 : Int) ≤ ((tl s a).size : Int)) := ⟨by rw [tl_size s a]; rcases r1 with r | r; omega; omega⟩
      refine ev_bind i1 (ev_neg (by dsimp only; omega) (ev_bindc (within_and _ low high) ?_))
      by_cases h2 : low ≤ (rv (tl s a)).1 ∧ (rv (tl s a)).1 ≤ high
      · rw [if_pos h2]
        refine ev_pos (decide_eq_true h2) (ev_pos (by dsimp only; omega) (ev_pos hq.down (ev_some ?_)))
        dsimp only
        rw [hn, hc]
      · rw [if_neg h2]
        exact ev_neg (by simpa using h2) (Ev.now _)
  · rw [if_neg hc]
    exact ev_neg hc (Ev.now _)
/-- so many numbers of a path -/
noncomputable def rdP (s : ByteArray) : Nat → Nat → Int → List Int → List Int × Nat × Int
  | 0, a, c, acc => (acc, a, c)
  | n + 1, a, c, acc => rdP s n (nm s a c 0 24 4).2.1 (nm s a c 0 24 4).2.2 (acc ++ [((nm s a c 0 24 4).1 : Int)])
theorem rdP_len (s : ByteArray) : ∀ (n a : Nat) (c : Int) (acc : List Int), (rdP s n a c acc).1.length = acc.length + n := by
  intro n
  induction n with
  | zero => intro a c acc; rfl
  | succ n ih => intro a c acc; rw [rdP, ih, List.length_append, List.length_singleton]; omega
theorem rdP_le (s : ByteArray) (hs : s.size ≤ 1048576) : ∀ (n a : Nat) (c : Int) (acc : List Int), a ≤ s.size → (rdP s n a c acc).2.1 ≤ s.size := by
  intro n
  induction n with
  | zero => intro a c acc h; exact h
  | succ n ih => intro a c acc h; rw [rdP]; exact ih _ _ _ (nm_le s hs a h c 0 24 4).2
theorem rdP_bad (s : ByteArray) : ∀ (n a : Nat) (c : Int) (acc : List Int), c ≠ 0 → (rdP s n a c acc).2.2 = c := by
  intro n
  induction n with
  | zero => intro a c acc h; rfl
  | succ n ih => intro a c acc h; rw [rdP, nm_bad s a c 0 24 4 h]; exact ih _ _ _ h
/-- what is behind the path, told the kind -/
noncomputable def rdL (s : ByteArray) (kd a : Nat) (c : Int) : Nat × Nat × Int := if kd = 2 then (0, a, c) else nm s a c 0 5 5
noncomputable def rdF (s : ByteArray) (kd a : Nat) (c : Int) : Nat × Nat × Int := if kd = 3 then nm s a c 0 24 6 else (0, a, c)
theorem rdL_le (s : ByteArray) (hs : s.size ≤ 1048576) (kd a : Nat) (c : Int) (h : a ≤ s.size) : (rdL s kd a c).2.1 ≤ s.size := by unfold rdL; split; exact h; exact (nm_le s hs a h c 0 5 5).2
theorem rdF_le (s : ByteArray) (hs : s.size ≤ 1048576) (kd a : Nat) (c : Int) (h : a ≤ s.size) : (rdF s kd a c).2.1 ≤ s.size := by unfold rdF; split; exact (nm_le s hs a h c 0 24 6).2; exact h
theorem rdL_bad (s : ByteArray) (kd a : Nat) (c : Int) (h : c ≠ 0) : (rdL s kd a c).2.2 = c := by unfold rdL; split; rfl; rw [nm_bad s a c 0 5 5 h]
theorem rdF_bad (s : ByteArray) (kd a : Nat) (c : Int) (h : c ≠ 0) : (rdF s kd a c).2.2 = c := by unfold rdF; split; rw [nm_bad s a c 0 24 6 h]; rfl
/-- the rest of an operation, behind its kind: the operation, the place, what was wrong -/
noncomputable def oP (s : ByteArray) (a : Nat) (c : Int) : List Int × Nat × Int := rdP s (nm s a c 0 12 4).1 (nm s a c 0 12 4).2.1 (nm s a c 0 12 4).2.2 []
noncomputable def oL (s : ByteArray) (kd a : Nat) (c : Int) : Nat × Nat × Int := rdL s kd (oP s a c).2.1 (oP s a c).2.2
noncomputable def oF (s : ByteArray) (kd a : Nat) (c : Int) : Nat × Nat × Int := rdF s kd (oL s kd a c).2.1 (oL s kd a c).2.2
noncomputable def oC (s : ByteArray) (kd a : Nat) (c : Int) : Nat × Nat × Int := rdF s kd (oF s kd a c).2.1 (oF s kd a c).2.2
noncomputable def rdO (s : ByteArray) (kd a : Nat) (c : Int) : S100 := ⟨(kd : Int), (oP s a c).1, ((oL s kd a c).1 : Int), ((oF s kd a c).1 : Int), ((oC s kd a c).1 : Int)⟩
theorem oP_le (s : ByteArray) (hs : s.size ≤ 1048576) (a : Nat) (c : Int) (h : a ≤ s.size) : (oP s a c).2.1 ≤ s.size := rdP_le s hs _ _ _ _ (nm_le s hs a h c 0 12 4).2
theorem oL_le (s : ByteArray) (hs : s.size ≤ 1048576) (kd a : Nat) (c : Int) (h : a ≤ s.size) : (oL s kd a c).2.1 ≤ s.size := rdL_le s hs _ _ _ (oP_le s hs a c h)
theorem oF_le (s : ByteArray) (hs : s.size ≤ 1048576) (kd a : Nat) (c : Int) (h : a ≤ s.size) : (oF s kd a c).2.1 ≤ s.size := rdF_le s hs _ _ _ (oL_le s hs kd a c h)
theorem oC_le (s : ByteArray) (hs : s.size ≤ 1048576) (kd a : Nat) (c : Int) (h : a ≤ s.size) : (oC s kd a c).2.1 ≤ s.size := rdF_le s hs _ _ _ (oF_le s hs kd a c h)
theorem oP_len (s : ByteArray) (hs : s.size ≤ 1048576) (a : Nat) (c : Int) (h : a ≤ s.size) : (oP s a c).1.length ≤ 12 := by
  have := (nm_le s hs a h c 0 12 4).1
  unfold oP
  rw [rdP_len]
  simpa using this
theorem oC_bad (s : ByteArray) (kd a : Nat) (c : Int) (h : c ≠ 0) : (oC s kd a c).2.2 = c := by
  have h1 : (oP s a c).2.2 = c := by unfold oP; rw [rdP_bad]; rw [nm_bad s a c 0 12 4 h]; rw [nm_bad s a c 0 12 4 h]; exact h
  have h2 : (oL s kd a c).2.2 = c := by unfold oL; rw [rdL_bad]; exact h1; rw [h1]; exact h
  have h3 : (oF s kd a c).2.2 = c := by unfold oF; rw [rdF_bad]; exact h2; rw [h2]; exact h
  unfold oC
  rw [rdF_bad]
  exact h3
  rw [h3]
  exact h
/-- the reference: the rest of an operation -/
theorem specRest (s : ByteArray) (hs : s.size ≤ 1048576) (kd a : Nat) (ha : a ≤ s.size) (c : Int) : Ev (fun k => spec_l15Get.j1 k s (a : Int) c (kd : Int) 0 0 0) ((kd : Int), (oP s a c).1, ((oL s kd a c).1 : Int), ((oF s kd a c).1 : Int), ((oC s kd a c).1 : Int), s, ((oC s kd a c).2.1 : Int), (oC s kd a c).2.2) := by
  have hp := PLift.up (oP_le s hs a c ha)
  have hl := PLift.up (oL_le s hs kd a c ha)
  have hf := PLift.up (oF_le s hs kd a c ha)
  have hN := PLift.up (nm_le s hs a ha c 0 12 4)
  refine ev_succ ?_
  simp only [spec_l15Get.j1]
  refine ev_bind (specNum s hs a ha c 12 4) ?_
  dsimp only
  -- the loop
  have key : ∀ (n b : Nat) (e : Int) (acc : List Int) (R : Int × List Int × Int × Int × Int × ByteArray × Int × Int), acc.length + n ≤ 12 → b ≤ s.size → (∀ X, X = rdP s n b e acc → Ev (fun k => spec_l15Get.l0 k 0 s (X.2.1 : Int) X.2.2 (kd : Int) X.1 0 0 0) R) → Ev (fun k => spec_l15Get.l0 k (n : Int) s (b : Int) e (kd : Int) acc 0 0 0) R := by
    intro n
    induction n with
    | zero => intro b e acc R h1 h2 h3; exact h3 _ rfl
    | succ n ih =>
      intro b e acc R h1 h2 h3
      refine ev_succ ?_
      simp only [spec_l15Get.l0]
      refine ev_pos (by omega) (ev_bind (specNum s hs b h2 e 24 4) (ev_pos (by omega) ?_))
      dsimp only
      have e1 : wrap64 (((n + 1 : Nat) : Int) - 1) = (n : Int) := by rw [w64 (by omega) (by omega)]; omega
      rw [e1]
      exact ih _ _ _ R (by rw [List.length_append, List.length_singleton]; omega) (nm_le s hs b h2 e 0 24 4).2 (fun X hX => h3 X (by rw [hX]; rfl))
  refine key _ _ _ [] _ (by simpa using hN.down.1) hN.down.2 ?_
  intro X hX
  have hX' : X = oP s a c := hX
  subst hX'
  clear hX key
  refine ev_succ ?_
  simp only [spec_l15Get.l0]
  refine ev_neg (by decide) ?_
  have last : ∀ R, Ev (fun k => spec_l15Get.j3 k s ((oL s kd a c).2.1 : Int) (oL s kd a c).2.2 (kd : Int) (oP s a c).1 ((oL s kd a c).1 : Int) 0 0) R → Ev (fun k => if (kd : Int) = 2 then (spec_l15Get.j3 k s ((oP s a c).2.1 : Int) (oP s a c).2.2 (kd : Int) (oP s a c).1 0 0 0) else ((spec_l15Num.f k s ((oP s a c).2.1 : Int) (oP s a c).2.2 5 5).bind fun bt174 => (spec_l15Get.j3 k bt174.2.1 bt174.2.2.1 bt174.2.2.2 (kd : Int) (oP s a c).1 bt174.1 0 0))) R := by
    intro R hR
    by_cases h2 : kd = 2
    · have e : oL s kd a c = (0, (oP s a c).2.1, (oP s a c).2.2) := by unfold oL rdL; rw [if_pos h2]
      rw [e] at hR
      exact ev_pos (by omega) hR
    · have e : oL s kd a c = nm s (oP s a c).2.1 (oP s a c).2.2 0 5 5 := by unfold oL rdL; rw [if_neg h2]
      rw [e] at hR
      exact ev_neg (by omega) (ev_bind (specNum s hs _ hp.down _ 5 5) hR)
  refine last _ (ev_succ ?_)
  simp only [spec_l15Get.j3]
  by_cases h3 : kd = 3
  · have e1 : oF s kd a c = nm s (oL s kd a c).2.1 (oL s kd a c).2.2 0 24 6 := by unfold oF rdF; rw [if_pos h3]
    have e2 : oC s kd a c = nm s (oF s kd a c).2.1 (oF s kd a c).2.2 0 24 6 := by unfold oC rdF; rw [if_pos h3]
    refine ev_pos (by omega) (ev_bind (specNum s hs _ hl.down _ 24 6) ?_)
    rw [← e1]
    refine ev_bind (specNum s hs _ hf.down _ 24 6) ?_
    rw [← e2]
    exact Ev.now _
  · have e1 : oF s kd a c = (0, (oL s kd a c).2.1, (oL s kd a c).2.2) := by unfold oF rdF; rw [if_neg h3]
    have e2 : oC s kd a c = (0, (oF s kd a c).2.1, (oF s kd a c).2.2) := by unfold oC rdF; rw [if_neg h3]
    refine ev_neg (by omega) (ev_some ?_)
    rw [e2, e1]
    rfl
theorem implPath (s : ByteArray) (hs : s.size ≤ 1048576) (x : List S100) (n i kd : Nat) (R : List S100 × Int) (N : Nat) (hN12 : N ≤ 12) : ∀ (m j q : Nat) (f : Int) (acc : List Int), acc.length + m ≤ 12 → j + m = N → q ≤ s.size → (∀ X, X = rdP s m q f acc → Ev (fun k => impl_GetScript.l1 k x (n : Int) (i : Int) (N : Int) (N : Int) (tl s X.2.1) X.2.2 (kd : Int) X.1 0 0 0) R) → Ev (fun k => impl_GetScript.l1 k x (n : Int) (i : Int) (N : Int) (j : Int) (tl s q) f (kd : Int) acc 0 0 0) R := by
  intro m
  induction m with
  | zero =>
    intro j q f acc h1 hj h2 h3
    obtain rfl : j = N := by omega
    exact h3 (acc, q, f) rfl
  | succ m ih =>
    intro j q f acc h1 hj h2 h3
    have hk := (nm_le s hs q h2 f 0 24 4).2
    have hj2 := implNum s hs q h2 f 0 24 4
    rw [rdP] at h3
    have e1 : wrap64 ((j : Int) + 1) = ((j + 1 : Nat) : Int) := by clear hk hj2 h3; rw [w64 (by omega) (by omega)]; omega
    have g1 : (j : Int) < (N : Int) := by clear hk hj2 h3; omega
    have g2 : acc.length < 17592186044416 := by clear hk hj2 h3; omega
    have g3 : (acc ++ [((nm s q f 0 24 4).1 : Int)]).length + m ≤ 12 := by clear hk hj2 h3; rw [List.length_append, List.length_singleton]; omega
    have g4 : j + 1 + m = N := by clear hk hj2 h3; omega
    refine ev_succ ?_
    simp only [impl_GetScript.l1]
    refine ev_pos g1 (ev_bind hj2 (ev_pos g2 ?_))
    dsimp only
    rw [e1]
    exact ih (j + 1) _ _ _ g3 g4 hk h3
theorem icast (a b : Nat) : (a : Int) = (b : Int) ↔ a = b := by omega
/-- the program: an operation read, and on -/
theorem implStep (s : ByteArray) (hs : s.size ≤ 1048576) (a : Nat) (ha : a ≤ s.size) (c : Int) (x : List S100) (n i : Nat) (hi : i < n) (hn : n ≤ 60) (hx : x.length ≤ 60) (R : List S100 × Int)
    (hR : Ev (fun k => impl_GetScript.l0 k (x ++ [rdO s (nm s a c 1 3 3).1 (nm s a c 1 3 3).2.1 (nm s a c 1 3 3).2.2]) (n : Int) ((i + 1 : Nat) : Int) (tl s (oC s (nm s a c 1 3 3).1 (nm s a c 1 3 3).2.1 (nm s a c 1 3 3).2.2).2.1) (oC s (nm s a c 1 3 3).1 (nm s a c 1 3 3).2.1 (nm s a c 1 3 3).2.2).2.2) R) :
    Ev (fun k => impl_GetScript.l0 k x (n : Int) (i : Int) (tl s a) c) R := by
  have g0 : (i : Int) < (n : Int) := by omega
  have e0 : wrap64 ((i : Int) + 1) = ((i + 1 : Nat) : Int) := by rw [w64 (by omega) (by omega)]; omega
  have gx : x.length < 2513169434916 := by omega
  have hK := nm_le s hs a ha c 1 3 3
  have iK := implNum s hs a ha c 1 3 3
  generalize (nm s a c 1 3 3) = K at *
  obtain ⟨kd, b, e⟩ := K
  dsimp only at hK iK hR
  have hb := hK.2
  have hp := PLift.up (oP_le s hs b e hb)
  have hl := PLift.up (oL_le s hs kd b e hb)
  have hf := PLift.up (oF_le s hs kd b e hb)
  have hN := PLift.up (nm_le s hs b hb e 0 12 4)
  refine ev_succ ?_
  simp only [impl_GetScript.l0]
  refine ev_pos g0 (ev_bind iK ?_)
  dsimp only
  refine ev_bind (implNum s hs b hb e 0 12 4) ?_
  dsimp only
  refine implPath s hs x n i kd R _ hN.down.1 _ 0 _ _ [] (by simpa using hN.down.1) (Nat.zero_add _) hN.down.2 ?_
  intro X hX
  have hX' : X = oP s b e := hX
  subst hX'
  clear hX
  refine ev_succ ?_
  simp only [impl_GetScript.l1]
  refine ev_neg (Int.lt_irrefl _) ?_
  have last : ∀ R, Ev (fun k => impl_GetScript.j2 k x (n : Int) (i : Int) (tl s (oL s kd b e).2.1) (oL s kd b e).2.2 (kd : Int) (oP s b e).1 ((oL s kd b e).1 : Int) 0 0) R → Ev (fun k => if (kd : Int) = 2 then (impl_GetScript.j2 k x (n : Int) (i : Int) (tl s (oP s b e).2.1) (oP s b e).2.2 (kd : Int) (oP s b e).1 0 0 0) else ((impl_script_number.f k (tl s (oP s b e).2.1) (oP s b e).2.2 0 5 5).bind fun bt424 => (impl_GetScript.j2 k x (n : Int) (i : Int) bt424.2.1 bt424.2.2 (kd : Int) (oP s b e).1 bt424.1 0 0))) R := by
    intro R hR
    by_cases h2 : kd = 2
    · have e' : oL s kd b e = (0, (oP s b e).2.1, (oP s b e).2.2) := by unfold oL rdL; rw [if_pos h2]
      rw [e'] at hR
      exact ev_pos ((icast kd 2).2 h2) hR
    · have e' : oL s kd b e = nm s (oP s b e).2.1 (oP s b e).2.2 0 5 5 := by unfold oL rdL; rw [if_neg h2]
      rw [e'] at hR
      exact ev_neg (fun h => h2 ((icast kd 2).1 h)) (ev_bind (implNum s hs _ hp.down _ 0 5 5) hR)
  refine last _ (ev_succ ?_)
  simp only [impl_GetScript.j2]
  rw [e0]
  unfold rdO at hR
  by_cases h3 : kd = 3
  · have e1 : oF s kd b e = nm s (oL s kd b e).2.1 (oL s kd b e).2.2 0 24 6 := by unfold oF rdF; rw [if_pos h3]
    have e2 : oC s kd b e = nm s (oF s kd b e).2.1 (oF s kd b e).2.2 0 24 6 := by unfold oC rdF; rw [if_pos h3]
    refine ev_pos ((icast kd 3).2 h3) (ev_bind (implNum s hs _ hl.down _ 0 24 6) ?_)
    rw [← e1]
    refine ev_bind (implNum s hs _ hf.down _ 0 24 6) ?_
    rw [← e2]
    exact ev_pos gx hR
  · have e1 : oF s kd b e = (0, (oL s kd b e).2.1, (oL s kd b e).2.2) := by unfold oF rdF; rw [if_neg h3]
    have e2 : oC s kd b e = (0, (oF s kd b e).2.1, (oF s kd b e).2.2) := by unfold oC rdF; rw [if_neg h3]
    rw [e2, e1] at hR
    exact ev_neg (fun h => h3 ((icast kd 3).1 h)) (ev_pos gx hR)
theorem implEnd_bad (c : Int) (hc : c ≠ 0) (x : List S100) (r : ByteArray) : Ev (fun k => if c = 0 then (impl_GetScript.j3 k x (r.toList != ([] : List UInt8)) r c) else (impl_GetScript.j3 k x false r c)) ([], c) := by
  refine ev_neg hc (ev_succ ?_)
  simp only [impl_GetScript.j3]
  exact ev_neg (by decide) (ev_neg hc (Ev.now _))
/-- once something is wrong the program reads on, and says what was -/
theorem implBad (s : ByteArray) (hs : s.size ≤ 1048576) (c : Int) (hc : c ≠ 0) (n : Nat) (hn : n ≤ 60) : ∀ (d i a : Nat) (x : List S100), i + d = n → a ≤ s.size → x.length + d ≤ 60 → Ev (fun k => impl_GetScript.l0 k x (n : Int) (i : Int) (tl s a) c) ([], c) := by
  intro d
  induction d with
  | zero =>
    intro i a x hi ha hx
    refine ev_succ ?_
    simp only [impl_GetScript.l0]
    exact ev_neg (by omega) (implEnd_bad c hc x _)
  | succ d ih =>
    intro i a x hi ha hx
    refine implStep s hs a ha c x n i (by omega) hn (by omega) _ ?_
    rw [nm_bad s a c 1 3 3 hc]
    dsimp only
    rw [oC_bad s 0 a c hc]
    exact ih (i + 1) _ _ (by omega) (oC_le s hs 0 a c ha) (by rw [List.length_append, List.length_singleton]; omega)
theorem specBad (s : ByteArray) (c : Int) (hc : c ≠ 0) (x : List S100) (y : ByteArray) (n a : Int) : Ev (fun k => spec_GetScript.l0 k s x n y a c) ([], c) := by
  have h1 : Ev (fun k => spec_GetScript.j1 k s x y a c) ([], c) := by
    refine ev_succ ?_
    simp only [spec_GetScript.j1]
    refine ev_neg hc (ev_succ ?_)
    simp only [spec_GetScript.j2]
    exact ev_neg (by decide) (ev_neg hc (Ev.now _))
  refine ev_succ ?_
  simp only [spec_GetScript.l0]
  by_cases hn : n > 0
  · exact ev_pos hn (ev_neg hc h1)
  · exact ev_neg hn h1
theorem GetScript_l0 (s : ByteArray) (hs : s.size ≤ 1048576) (n : Nat) (hn : n ≤ 60) : ∀ (d i a : Nat) (x : List S100), i + d = n → a ≤ s.size → x.length + d ≤ 60 → (∀ o ∈ x, o.f1.length ≤ 12) →
    ∃ R : List S100 × Int, OpsB R.1 ∧ Ev (fun k => spec_GetScript.l0 k s x (d : Int) s (a : Int) 0) R ∧ Ev (fun k => impl_GetScript.l0 k x (n : Int) (i : Int) (tl s a) 0) R := by
  have nil : OpsB ([] : List S100) := ⟨by simp, by simp⟩
  intro d
  induction d with
  | zero =>
    intro i a x hi ha hx ho
    by_cases he : a = s.size
    · refine ⟨(x, 0), ⟨by dsimp only; omega, fun o h => by have := ho o h; omega⟩, ev_succ ?_, ev_succ ?_⟩
      · simp only [spec_GetScript.l0]
        refine ev_neg (by omega) (ev_succ ?_)
        simp only [spec_GetScript.j1]
        refine ev_pos (by first | trivial | rfl) (ev_succ ?_)
        simp only [spec_GetScript.j2]
        have e : ((a : Int) != (s.size : Int)) = false := by simp; omega
        rw [e]
        exact ev_neg (by decide) (ev_pos (by first | trivial | rfl) (Ev.now _))
      · simp only [impl_GetScript.l0]
        refine ev_neg (by omega) (ev_pos (by first | trivial | rfl) (ev_succ ?_))
        simp only [impl_GetScript.j3]
        have e : ((tl s a).toList != ([] : List UInt8)) = false := by
          have h0 : (tl s a).toList = [] := by
            rw [Lib.toList_data]
            apply List.length_eq_zero_iff.1
            rw [← Lib.size_eq, tl_size s a]
            omega
          rw [h0]
          rfl
        rw [e]
        exact ev_neg (by decide) (ev_pos (by first | trivial | rfl) (Ev.now _))
    · refine ⟨([], 7), nil, ev_succ ?_, ev_succ ?_⟩
      · simp only [spec_GetScript.l0]
        refine ev_neg (by omega) (ev_succ ?_)
        simp only [spec_GetScript.j1]
        refine ev_pos (by first | trivial | rfl) (ev_succ ?_)
        simp only [spec_GetScript.j2]
        have e : ((a : Int) != (s.size : Int)) = true := by simp; omega
        rw [e]
        exact ev_pos (by first | trivial | rfl) (ev_neg (by decide) (Ev.now _))
      · simp only [impl_GetScript.l0]
        refine ev_neg (by omega) (ev_pos (by first | trivial | rfl) (ev_succ ?_))
        simp only [impl_GetScript.j3]
        have e : ((tl s a).toList != ([] : List UInt8)) = true := by
          have h0 : (tl s a).toList ≠ [] := by
            intro h
            rw [Lib.toList_data] at h
            have := congrArg List.length h
            rw [← Lib.size_eq, tl_size s a] at this
            simp at this
            omega
          exact bne_iff_ne.mpr h0
        rw [e]
        exact ev_pos (by first | trivial | rfl) (ev_neg (by decide) (Ev.now _))
  | succ d ih =>
    intro i a x hi ha hx ho
    have hK := PLift.up (nm_le s hs a ha 0 1 3 3)
    have hI := implStep s hs a ha 0 x n i (by omega) hn (by omega)
    have hS0 := specNum s hs a ha 0 3 3
    have hK0 := PLift.up (nm_le s hs a ha 0 0 3 3)
    -- the reference's own step
    have hS : ∀ (kd b : Nat) (e : Int) (R : List S100 × Int), b ≤ s.size → Ev (fun k => spec_l15Get.f k s (a : Int) 0) ((kd : Int), (oP s b e).1, ((oL s kd b e).1 : Int), ((oF s kd b e).1 : Int), ((oC s kd b e).1 : Int), s, ((oC s kd b e).2.1 : Int), (oC s kd b e).2.2) → Ev (fun k => spec_GetScript.l0 k s (x ++ [rdO s kd b e]) (d : Int) s ((oC s kd b e).2.1 : Int) (oC s kd b e).2.2) R → Ev (fun k => spec_GetScript.l0 k s x ((d + 1 : Nat) : Int) s (a : Int) 0) R := by
      intro kd b e R hb hg hR
      refine ev_succ ?_
      simp only [spec_GetScript.l0]
      have e1 : wrap64 (((d + 1 : Nat) : Int) - 1) = (d : Int) := by rw [w64 (by omega) (by omega)]; omega
      rw [e1]
      exact ev_pos (by omega) (ev_pos (by first | trivial | rfl) (ev_bind hg (ev_pos (by omega) hR)))
    have hG : ∀ (kd b : Nat) (e : Int), b ≤ s.size → (∃ q : Nat × Nat × Int, nm s a 0 0 3 3 = q ∧ q.1 = kd ∧ q.2.1 = b ∧ e = (if q.2.2 = 0 ∧ q.1 = 0 then 3 else q.2.2)) → Ev (fun k => spec_l15Get.f k s (a : Int) 0) ((kd : Int), (oP s b e).1, ((oL s kd b e).1 : Int), ((oF s kd b e).1 : Int), ((oC s kd b e).1 : Int), s, ((oC s kd b e).2.1 : Int), (oC s kd b e).2.2) := by
      rintro kd b e hb ⟨q, hq, rfl, rfl, he⟩
      rw [hq] at hS0
      simp only [spec_l15Get.f]
      refine ev_bind hS0 ?_
      dsimp only
      have hr := specRest s hs q.1 q.2.1 hb e
      by_cases h1 : q.2.2 = 0
      · refine ev_pos h1 (ev_succ ?_)
        simp only [spec_l15Get.j0]
        by_cases h2 : q.1 = 0
        · rw [if_pos ⟨h1, h2⟩] at he
          subst he
          exact ev_pos (by rw [h2]; rfl) hr
        · rw [if_neg (fun h => h2 h.2)] at he
          subst he
          exact ev_neg (by simp; omega) hr
      · rw [if_neg (fun h => h1 h.1)] at he
        subst he
        refine ev_neg h1 (ev_succ ?_)
        simp only [spec_l15Get.j0]
        exact ev_neg (by decide) hr
    by_cases hc : (nm s a 0 1 3 3).2.2 = 0
    · -- the kind is one
      have hsame : nm s a 0 0 3 3 = nm s a 0 1 3 3 ∧ (nm s a 0 1 3 3).1 ≠ 0 := by
        unfold nm at hc ⊢
        rw [if_pos rfl] at hc ⊢
        rw [if_pos rfl]
        by_cases h1 : (rv (tl s a)).2 = 0
        · rw [if_pos h1] at hc; exact absurd (show (1 : Int) = 0 from hc) (by decide)
        · rw [if_neg h1] at hc ⊢
          rw [if_neg h1]
          by_cases h2 : 1 ≤ (rv (tl s a)).1 ∧ (rv (tl s a)).1 ≤ 3
          · rw [if_pos h2, if_pos ⟨Nat.zero_le _, h2.2⟩]
            exact ⟨rfl, by dsimp only; omega⟩
          · rw [if_neg h2] at hc; exact absurd (show (3 : Int) = 0 from hc) (by decide)
      obtain ⟨hs1, hs2⟩ := hsame
      generalize nm s a 0 1 3 3 = K at *
      obtain ⟨kd, b, e⟩ := K
      dsimp only at hc hK hI hs2
      subst hc
      have hb := hK.down.2
      have g := hG kd b 0 hb ⟨_, hs1, rfl, rfl, by dsimp only; rw [if_neg (fun h => hs2 h.2)]⟩
      by_cases hc2 : (oC s kd b 0).2.2 = 0
      · obtain ⟨R, r1, r2, r3⟩ := ih (i + 1) (oC s kd b 0).2.1 (x ++ [rdO s kd b 0]) (by omega) (oC_le s hs kd b 0 hb) (by rw [List.length_append, List.length_singleton]; omega) (fun o h => by
          rcases List.mem_append.1 h with h | h
          · exact ho o h
          · rw [List.mem_singleton.1 h]; exact oP_len s hs b 0 hb)
        refine ⟨R, r1, hS kd b 0 R hb g ?_, hI R ?_⟩
        · rw [hc2]; exact r2
        · rw [hc2]; exact r3
      · refine ⟨([], (oC s kd b 0).2.2), nil, hS kd b 0 _ hb g (specBad s _ hc2 _ s _ _), hI _ ?_⟩
        exact implBad s hs _ hc2 n hn d (i + 1) _ _ (by omega) (oC_le s hs kd b 0 hb) (by rw [List.length_append, List.length_singleton]; omega)
    · -- it is none
      have hdiff : (if (nm s a 0 0 3 3).2.2 = 0 ∧ (nm s a 0 0 3 3).1 = 0 then (3 : Int) else (nm s a 0 0 3 3).2.2) = (nm s a 0 1 3 3).2.2 := by
        unfold nm at hc ⊢
        rw [if_pos rfl] at hc ⊢
        rw [if_pos rfl]
        by_cases h1 : (rv (tl s a)).2 = 0
        · rw [if_pos h1, if_pos h1]; rfl
        · rw [if_neg h1] at hc ⊢
          rw [if_neg h1]
          by_cases h2 : 1 ≤ (rv (tl s a)).1 ∧ (rv (tl s a)).1 ≤ 3
          · rw [if_pos h2] at hc; exact absurd rfl hc
          · rw [if_neg h2]
            by_cases h3 : (rv (tl s a)).1 ≤ 3
            · have h4 : (rv (tl s a)).1 = 0 := by omega
              have hv : (if 0 ≤ (rv (tl s a)).1 ∧ (rv (tl s a)).1 ≤ 3 then ((rv (tl s a)).1, a + (rv (tl s a)).2, (0 : Int)) else (0, a, 3)) = ((rv (tl s a)).1, a + (rv (tl s a)).2, 0) := if_pos ⟨Nat.zero_le _, h3⟩
              rw [hv]
              exact if_pos ⟨rfl, h4⟩
            · have hv : (if 0 ≤ (rv (tl s a)).1 ∧ (rv (tl s a)).1 ≤ 3 then ((rv (tl s a)).1, a + (rv (tl s a)).2, (0 : Int)) else (0, a, 3)) = (0, a, 3) := if_neg (fun h => h3 h.2)
              rw [hv]
              rfl
      have g := hG _ _ _ hK0.down.2 ⟨_, rfl, rfl, rfl, rfl⟩
      rw [hdiff] at g
      have hb := oC_bad s (nm s a 0 0 3 3).1 (nm s a 0 0 3 3).2.1 _ hc
      have hb1 := oC_bad s (nm s a 0 1 3 3).1 (nm s a 0 1 3 3).2.1 _ hc
      refine ⟨([], (nm s a 0 1 3 3).2.2), nil, hS _ _ _ _ hK0.down.2 g ?_, hI _ ?_⟩
      · rw [hb]
        exact specBad s _ hc _ s _ _
      · rw [hb1]
        exact implBad s hs _ hc n hn d (i + 1) _ _ (by omega) (oC_le s hs _ _ _ hK.down.2) (by rw [List.length_append, List.length_singleton]; omega)
theorem GetScript_both (s : ByteArray) (hs : s.size ≤ 1048576) : ∃ R : List S100 × Int, OpsB R.1 ∧ Ev (fun k => spec_GetScript.f k s) R ∧ Ev (fun k => impl_GetScript.f k s) R := by
  have hN := nm_le s hs 0 (Nat.zero_le _) 0 0 60 2
  have h1 := specNum s hs 0 (Nat.zero_le _) 0 60 2
  have h2 := implNum s hs 0 (Nat.zero_le _) 0 0 60 2
  rw [tl_zero s] at h2
  simp only [spec_GetScript.f, impl_GetScript.f, spec_mkl15In.f, impl_mkscript.f]
  generalize nm s 0 0 0 60 2 = q at *
  obtain ⟨n, a, c⟩ := q
  dsimp only at hN h1 h2
  by_cases hc : c = 0
  · subst hc
    obtain ⟨R, r1, r2, r3⟩ := GetScript_l0 s hs n hN.1 n 0 a [] (Nat.zero_add _) hN.2 (by simpa using hN.1) (fun o h => by simp at h)
    exact ⟨R, r1, ev_bindc rfl (ev_bind h1 r2), ev_bindc rfl (ev_bind h2 r3)⟩
  · refine ⟨([], c), ⟨by simp, by simp⟩, ev_bindc rfl (ev_bind h1 (specBad s c hc [] s _ _)), ev_bindc rfl (ev_bind h2 ?_)⟩
    exact implBad s hs c hc n hN.1 n 0 a [] (Nat.zero_add _) hN.2 (by simpa using hN.1)

/-! #### _putTree -/
open Go.Proofs.Ytbiffnahknkoiaa.Cut Go.Proofs.Ytbiffnahknkoiaa.VarN
theorem enc_one (n : Nat) (h : n < 128) : (mkB (encV n)).size = 1 := by
  rw [encV, if_pos h, mkB_size]
  rfl
theorem put_byte (n : Nat) (h : n < 128) : ∃ A : ByteArray, A = mkB (encV n) ∧ A.size = 1 ∧ Ev (fun k => spec_Var.f k (n : Int)) A ∧ Ev (fun k => impl_Var.f k (n : Int)) A := by
  have h' : n ≤ 562949953421311 := by omega
  exact ⟨_, rfl, enc_one n h, specVar_ev n h', implVar_ev n h'⟩
theorem PutTree_l0 (l : List S45) (hl : l.length ≤ 24) (hk : ∀ j, j < l.length → (0 ≤ lbA l j ∧ lbA l j ≤ 5) ∧ 0 ≤ dpA l j ∧ dpA l j ≤ 12) : ∀ (d i : Nat) (x : ByteArray), i + d = l.length → x.size ≤ 10 + 2 * i → ∃ r, Ev (fun k => spec_PutTree.l0 k l x (i : Int)) r ∧ Ev (fun k => impl_PutTree.l0 k x l (l.length : Int) (i : Int)) r := by
  intro d
  induction d with
  | zero =>
    intro i x hi hx
    refine ⟨x, ev_succ ?_, ev_succ ?_⟩
    · simp only [spec_PutTree.l0]
      exact ev_neg (by omega) (Ev.now _)
    · simp only [impl_PutTree.l0]
      exact ev_neg (by omega) (Ev.now _)
  | succ d ih =>
    intro i x hi hx
    obtain ⟨⟨h1, h2⟩, h3, h4⟩ := hk i (by omega)
    obtain ⟨a, ha⟩ : ∃ a : Nat, lbA l i = (a : Int) := ⟨(lbA l i).toNat, by omega⟩
    obtain ⟨b, hb⟩ : ∃ b : Nat, dpA l i = (b : Int) := ⟨(dpA l i).toNat, by omega⟩
    obtain ⟨A, hA, sa, va, ua⟩ := put_byte a (by omega)
    obtain ⟨B, hB, sb, vb, ub⟩ := put_byte b (by omega)
    clear hA hB
    have ew : PLift (wrap64 ((i : Int) + 1) = ((i + 1 : Nat) : Int)) := ⟨by rw [w64 (by omega) (by omega)]; omega⟩
    obtain ⟨r, r1, r2⟩ := ih (i + 1) (x ++ (A ++ B)) (by omega) (by simp only [ByteArray.size_append]; omega)
    refine ⟨r, ev_succ ?_, ev_succ ?_⟩
    · simp only [spec_PutTree.l0]
      rw [rd_f0, rd_f1, ha, hb, ew.down]
      refine ev_pos (by omega) (ev_pos (by omega) (ev_bind va (ev_pos (by omega) (ev_bind vb (ev_pos (by simp only [ByteArray.size_append]; omega) ?_)))))
      rw [ByteArray.append_assoc]
      exact r1
    · simp only [impl_PutTree.l0]
      rw [rd_f0, rd_f1, ha, hb, ew.down]
      exact ev_pos (by omega) (ev_pos (by omega) (ev_pos (by omega) (ev_bind ua (ev_bind ub (ev_pos (by omega) (ev_pos (by simp only [ByteArray.size_append]; omega) r2))))))
theorem PutTree_both (l : List S45) (hm : (l.length : Int) ≤ 9223372036854775806) : ∃ r, Ev (fun k => spec_PutTree.f k l) r ∧ Ev (fun k => impl_PutTree.f k l) r := by
  have t1 := spec_TreeOk_ev l hm
  have t2 := impl_TreeOk_ev l
  simp only [spec_PutTree.f, impl_PutTree.f]
  by_cases h : treeOk l = true
  · obtain ⟨⟨h1, h2⟩, h3⟩ := treeOk_iff.1 h
    obtain ⟨A, hA, sn, v1, v2⟩ := put_byte l.length (by omega)
    clear hA
    obtain ⟨r, r1, r2⟩ := PutTree_l0 l h2 (fun j hj => ⟨(h3 j hj).1, (h3 j hj).2.1⟩) l.length 0 A (by omega) (by omega)
    exact ⟨r, ev_bind t1 (ev_pos h (ev_bind v1 r1)), ev_bind t2 (ev_pos h (ev_bind v2 r2))⟩
  · exact ⟨⟨#[]⟩, ev_bind t1 (ev_neg h (Ev.now _)), ev_bind t2 (ev_neg h (Ev.now _))⟩

end Go.Proofs.Ytbiffnahknkoiaa.QFnExactPatch
