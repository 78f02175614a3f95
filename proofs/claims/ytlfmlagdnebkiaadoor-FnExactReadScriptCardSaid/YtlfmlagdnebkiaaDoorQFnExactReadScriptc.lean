/- What the printed functions of the law FnExactReadScript come to, function by function, from some number of rounds on; each under the bounds that it names. -/
import Derived.Test.YtlfmlagdnebkiaaDoorQFnExactReadScriptb
namespace Go.Proofs.YtlfmlagdnebkiaaDoor.QFnExactReadScript
open Go.RowKit Go.Proofs.YtlfmlagdnebkiaaDoor.PFnExactReadScript Go.Proofs.YtlfmlagdnebkiaaDoorW.PrintWords Go.Proofs.YtlfmlagdnebkiaaDoorW.PrintLast Go.Proofs.YtlfmlagdnebkiaaDoorW.PrintMore Go.Proofs.YtlfmlagdnebkiaaDoor.EvAid Go.Proofs.YtlfmlagdnebkiaaDoor
set_option linter.unusedVariables false
set_option linter.unusedSimpArgs false

/-! #### _readScript -/
open Go.Proofs.YtlfmlagdnebkiaaDoor.Cut
theorem rdOf_map (L : List (List UInt8)) (j : Nat) : rdOf ByteArray.empty (L.map mkB) (j : Int) = mkB (L.getD j []) := rdOf_wd L j
/-- what comes of one line: an operation, and whether it is one -/
def opOf (R : Int × List Int × Int × Int × Int × Bool) : S24 := ⟨R.1, R.2.1, R.2.2.1, R.2.2.2.1, R.2.2.2.2.1⟩
theorem cutL_end (c : UInt8) : ∀ (t : List UInt8), cutL c (t ++ [c]) = cutL c t ++ [[]]
  | [] => by show cutL c [c] = _; simp [cutL]
  | b :: t => by
    have h := cutL_end c t
    rw [List.cons_append, cutL, cutL, h]
    by_cases hb : b = c
    · rw [if_pos hb, if_pos hb]; rfl
    · rw [if_neg hb, if_neg hb]
      obtain ⟨y, r, e⟩ := List.exists_cons_of_ne_nil (cutL_ne c t)
      rw [e]
      rfl
theorem trim_end (t : List UInt8) (c : UInt8) : Lib.trimSuffix (t ++ [c]) [c] = t := by
  unfold Lib.trimSuffix
  have h : Lib.hasSuffix (t ++ [c]) [c] = true := by
    unfold Lib.hasSuffix
    simp
  rw [if_pos h]
  simp
theorem trim_not (s : List UInt8) (c : UInt8) (h : ¬ ∃ t, s = t ++ [c]) : Lib.trimSuffix s [c] = s := by
  unfold Lib.trimSuffix
  by_cases h2 : Lib.hasSuffix s [c] = true
  · exfalso
    apply h
    unfold Lib.hasSuffix at h2
    rw [List.isSuffixOf_iff_suffix] at h2
    obtain ⟨t, ht⟩ := h2
    exact ⟨t, ht.symm⟩
  · rw [if_neg h2]
section
variable (rdL : List UInt8 → Int × List Int × Int × Int × Int × Bool)
theorem specScript_l0 (s : ByteArray) (L : List (List UInt8)) (hL : L.length ≤ 4294967296)
    (hrd : ∀ x ∈ L, Ev (fun k => spec_ReadOp.f k (mkB x)) (rdL x)) (r : List S24 × Bool) :
    ∀ (n i : Nat) (acc : List S24), i + n + 1 = L.length → acc.length = i →
      ((∀ x ∈ (L.drop i).take n, (rdL x).2.2.2.2.2 = true) → Ev (fun k => ((spec_ScriptOk.f k (acc ++ ((L.drop i).take n).map (fun x => opOf (rdL x)))).bind fun t205 => (if t205 = true then ((spec_ScriptText.f k (acc ++ ((L.drop i).take n).map (fun x => opOf (rdL x)))).bind fun t206 => (if t206.toList = s.toList then (some (acc ++ ((L.drop i).take n).map (fun x => opOf (rdL x)), true)) else (some ((([] : List S24), false))))) else (some ((([] : List S24), false)))))) r) →
      ((¬ ∀ x ∈ (L.drop i).take n, (rdL x).2.2.2.2.2 = true) → r = ([], false)) →
      Ev (fun k => spec_ReadScript.l0 k s acc (L.map mkB) (i : Int)) r := by
  intro n
  induction n with
  | zero =>
    intro i acc h ha hgood _
    refine ev_succ ?_
    simp only [spec_ReadScript.l0, List.length_map]
    rw [w64 (x := (i : Int) + 1) (by omega) (by omega)]
    refine ev_neg (by omega) ?_
    have := hgood (by simp)
    simpa using this
  | succ n ih =>
    intro i acc h ha hgood hbad
    have hi : i < L.length := by omega
    have hd : (L.drop i).take (n + 1) = L[i] :: (L.drop (i + 1)).take n := by rw [List.drop_eq_getElem_cons hi, List.take_succ_cons]
    have hg : L.getD i [] = L[i] := by simp [hi]
    refine ev_succ ?_
    simp only [spec_ReadScript.l0, List.length_map]
    rw [w64 (x := (i : Int) + 1) (by omega) (by omega), rdOf_map, hg]
    refine ev_pos (by omega) (ev_pos (by omega) (ev_pos (by omega) (ev_bind (hrd _ (List.getElem_mem hi)) ?_)))
    by_cases hb : (rdL L[i]).2.2.2.2.2 = true
    · refine ev_pos hb (ev_pos (by omega) ?_)
      have e2 : ((i : Int) + 1) = ((i + 1 : Nat) : Int) := by omega
      rw [e2]
      refine ih (i + 1) _ (by omega) (by simp; omega) ?_ ?_
      · intro hall
        have := hgood (by rw [hd]; intro x hx; rcases List.mem_cons.1 hx with h | h; rw [h]; exact hb; exact hall x h)
        rw [hd, List.map_cons] at this
        rw [List.append_assoc]
        exact this
      · intro hn
        exact hbad (fun hall => hn (fun x hx => hall x (by rw [hd]; exact List.mem_cons_of_mem _ hx)))
    · refine ev_neg hb ?_
      rw [hbad (fun hall => hb (hall _ (by rw [hd]; exact List.mem_cons_self)))]
      exact Ev.now _
theorem implScript_l0 (s : ByteArray) (L : List (List UInt8)) (hL : L.length ≤ 4294967296)
    (hrd : ∀ x ∈ L, Ev (fun k => impl_ReadOp.f k (mkB x)) (rdL x)) (r : List S24 × Bool)
    (hend : Ev (fun k => ((impl_ScriptText.f k (L.map (fun x => opOf (rdL x)))).bind fun t322 => (if t322.toList = s.toList then (some (L.map (fun x => opOf (rdL x)), true)) else (some ((([] : List S24), false)))))) r) :
    ∀ (n i : Nat) (acc : List S24), i + n = L.length → acc = (L.take i).map (fun x => opOf (rdL x)) →
      Ev (fun k => impl_ReadScript.l0 k s acc (L.map mkB) (L.length : Int) (i : Int)) r := by
  intro n
  induction n with
  | zero =>
    intro i acc h ha
    refine ev_succ ?_
    simp only [impl_ReadScript.l0, List.length_map]
    refine ev_neg (by omega) ?_
    rw [ha, List.take_of_length_le (by omega)]
    exact hend
  | succ n ih =>
    intro i acc h ha
    have hi : i < L.length := by omega
    have hg : L.getD i [] = L[i] := by simp [hi]
    have hal : acc.length = i := by rw [ha]; simp; omega
    refine ev_succ ?_
    simp only [impl_ReadScript.l0, List.length_map]
    rw [w64 (x := (i : Int) + 1) (by omega) (by omega), rdOf_map, hg]
    refine ev_pos (by omega) (ev_pos (by omega) (ev_pos (by omega) (ev_bind (hrd _ (List.getElem_mem hi)) (ev_pos (by omega) ?_))))
    have e2 : ((i : Int) + 1) = ((i + 1 : Nat) : Int) := by omega
    rw [e2]
    refine ih (i + 1) _ (by omega) ?_
    rw [ha, List.take_add_one, List.getElem?_eq_getElem hi, Option.toList_some, List.map_append]
    rfl
end
theorem ReadScript_both (s : ByteArray) (hz : s.size ≤ 1048576) : ∃ (ops : List S24) (b : Bool), OpsB ops ∧ ops.length ≤ 60 ∧ (∀ o ∈ ops, o.f1.length ≤ 12) ∧ Ev (fun k => spec_ReadScript.f k s) (ops, b) ∧ Ev (fun k => impl_ReadScript.f k s) (ops, b) := by
  have hfm : ∀ x : List UInt8, ∃ R : Int × List Int × Int × Int × Int × Bool, x.length ≤ 1048576 → ((∃ o, opB o = true ∧ R = tup o) ∨ R = none0) ∧ Ev (fun k => spec_ReadOp.f k (mkB x)) R ∧ Ev (fun k => impl_ReadOp.f k (mkB x)) R := by
    intro x
    by_cases h : x.length ≤ 1048576
    · obtain ⟨R, hR⟩ := ReadOp_form (mkB x) (by rw [mkB_size]; exact h)
      exact ⟨R, fun _ => hR⟩
    · exact ⟨none0, fun h2 => absurd h2 h⟩
  obtain ⟨rdL, hrd⟩ := Classical.axiomOfChoice hfm
  have hsz : s.data.toList.length ≤ 1048576 := by rw [← Lib.size_eq]; exact hz
  have hcut := l23Cut_ev s 10 (by omega)
  have hgen : ∀ (l : List UInt8), l.length ≤ 1048576 → (∀ x ∈ cutL 10 l, x.length ≤ 1048576) ∧ (cutL 10 l).length ≤ 1048577 := fun l hl => ⟨fun x hx => Nat.le_trans (mem_le 10 l x hx) hl, by have := cutL_len 10 l; omega⟩
  -- what lines give
  have hform : ∀ (L : List (List UInt8)), (∀ x ∈ L, x.length ≤ 1048576) → L.length ≤ 1048577 →
      OpsB (L.map (fun x => opOf (rdL x))) ∧ (scriptB (L.map (fun x => opOf (rdL x))) = true → (∀ x ∈ L, (rdL x).2.2.2.2.2 = true) ∧ L.length ≤ 60 ∧ ∀ o ∈ L.map (fun x => opOf (rdL x)), o.f1.length ≤ 12) := by
    intro L h1 h2
    have hlen : ∀ x ∈ L, ((opOf (rdL x)).f1.length ≤ 12) ∧ (opB (opOf (rdL x)) = true → (rdL x).2.2.2.2.2 = true) := by
      intro x hx
      rcases (hrd x (h1 x hx)).1 with ⟨o, hb, e⟩ | e
      · rw [e]
        refine ⟨?_, fun _ => rfl⟩
        have hb' := hb
        simp only [opB, Bool.and_eq_true, pathB, decide_eq_true_eq] at hb'
        show o.f1.length ≤ 12
        have := hb'.1.2
        omega
      · rw [e]
        exact ⟨by decide, fun h => absurd h (by decide)⟩
    refine ⟨⟨by rw [List.length_map]; omega, ?_⟩, ?_⟩
    · intro o ho
      obtain ⟨x, hx, rfl⟩ := List.mem_map.1 ho
      have := (hlen x hx).1
      omega
    · intro hs
      unfold scriptB at hs
      rw [Bool.and_eq_true, decide_eq_true_eq, List.length_map] at hs
      refine ⟨fun x hx => (hlen x hx).2 (List.all_eq_true.1 hs.1 _ (List.mem_map.2 ⟨x, hx, rfl⟩)), by omega, ?_⟩
      intro o ho
      obtain ⟨x, hx, rfl⟩ := List.mem_map.1 ho
      exact (hlen x hx).1
  -- the lines but the last, as the reference reads them
  have hspec : ∀ (M : List (List UInt8)) (z : List UInt8) (ops : List S24) (b : Bool), cutL 10 s.data.toList = M ++ [z] →
      ((∀ x ∈ M, (rdL x).2.2.2.2.2 = true) → Ev (fun k => ((spec_ScriptOk.f k (M.map (fun x => opOf (rdL x)))).bind fun t205 => (if t205 = true then ((spec_ScriptText.f k (M.map (fun x => opOf (rdL x)))).bind fun t206 => (if t206.toList = s.toList then (some (M.map (fun x => opOf (rdL x)), true)) else (some ((([] : List S24), false))))) else (some ((([] : List S24), false)))))) (ops, b)) →
      ((¬ ∀ x ∈ M, (rdL x).2.2.2.2.2 = true) → (ops, b) = ([], false)) → Ev (fun k => spec_ReadScript.f k s) (ops, b) := by
    intro M z ops b hM h1 h2
    have h3 := hgen _ hsz
    rw [hM] at h3 hcut
    simp only [spec_ReadScript.f]
    refine ev_bind hcut ?_
    have hlM : (M ++ [z]).length = M.length + 1 := by simp
    have hT : ((M ++ [z]).drop 0).take M.length = M := by simp
    have := specScript_l0 rdL s (M ++ [z]) (by omega) (fun x hx => (hrd x (h3.1 x hx)).2.1) (ops, b) M.length 0 [] (by omega) rfl
    rw [hT, List.nil_append] at this
    exact this h1 h2
  have himpl : ∀ (L : List (List UInt8)) (ops : List S24) (b : Bool), s.data.toList ≠ [] → cutL 10 (Lib.trimSuffix s.data.toList [10]) = L → (Lib.trimSuffix s.data.toList [10]).length ≤ 1048576 →
      Ev (fun k => ((impl_ScriptText.f k (L.map (fun x => opOf (rdL x)))).bind fun t322 => (if t322.toList = s.toList then (some (L.map (fun x => opOf (rdL x)), true)) else (some ((([] : List S24), false)))))) (ops, b) → Ev (fun k => impl_ReadScript.f k s) (ops, b) := by
    intro L ops b hne hL hl h
    have h3 := hgen _ hl
    rw [hL] at h3
    simp only [impl_ReadScript.f]
    refine ev_bindc rfl (ev_neg ?_ (ev_bindc (a := mkB (Lib.trimSuffix s.data.toList [10])) ?_ ?_))
    · intro e
      rw [Lib.toList_data] at e
      exact hne e
    · unfold strings_TrimSuffix.f
      rw [if_pos (by omega)]
      rfl
    · refine ev_bind (a := (cutL 10 (mkB (Lib.trimSuffix s.data.toList [10])).data.toList).map mkB) ⟨0, fun k _ => split_eq k (mkB (Lib.trimSuffix s.data.toList [10])) 10 (by rw [mkB_size]; omega)⟩ ?_
      rw [mkB_list, hL, List.length_map]
      exact implScript_l0 rdL s L (by omega) (fun x hx => (hrd x (h3.1 x hx)).2.2) (ops, b) h L.length 0 [] (by omega) rfl
  by_cases hend : ∃ t, s.data.toList = t ++ [10]
  · obtain ⟨t, ht⟩ := hend
    have htl : t.length ≤ 1048576 := by rw [ht] at hsz; simp at hsz; omega
    have e1 : cutL 10 s.data.toList = cutL 10 t ++ [[]] := by rw [ht]; exact cutL_end 10 t
    have e2 : Lib.trimSuffix s.data.toList [10] = t := by rw [ht]; exact trim_end t 10
    have hne : s.data.toList ≠ [] := by rw [ht]; simp
    obtain ⟨g1, g2⟩ := hgen t htl
    obtain ⟨hO, hok⟩ := hform (cutL 10 t) g1 g2
    obtain ⟨r, r1, r2, _, rs, ri⟩ := ScriptText_form _ hO
    have hso := spec_ScriptOk_ev _ hO
    by_cases hc : scriptB ((cutL 10 t).map (fun x => opOf (rdL x))) = true ∧ r = s
    · refine ⟨_, true, hO, by rw [List.length_map]; exact (hok hc.1).2.1, (hok hc.1).2.2, hspec _ [] _ true e1 (fun _ => ?_) (fun h => absurd (hok hc.1).1 h), himpl _ _ true hne (by rw [e2]) (by rw [e2]; exact htl) ?_⟩
      · exact ev_bind hso (ev_pos hc.1 (ev_bind rs (ev_pos (by rw [hc.2]) (Ev.now _))))
      · exact ev_bind ri (ev_pos (by rw [hc.2]) (Ev.now _))
    · have hrs : r ≠ s := by
        intro e
        apply hc
        refine ⟨?_, e⟩
        by_cases hb : scriptB ((cutL 10 t).map (fun x => opOf (rdL x))) = true
        · exact hb
        · exfalso
          have h0 := r1 (by simpa using hb)
          rw [e] at h0
          exact hne (by rw [h0])
      have hrl : ¬ r.toList = s.toList := fun e => hrs (list_eq.1 e)
      refine ⟨[], false, ⟨by simp, by simp⟩, by simp, by simp, hspec _ [] _ false e1 (fun _ => ?_) (fun _ => rfl), himpl _ _ false hne (by rw [e2]) (by rw [e2]; exact htl) ?_⟩
      · by_cases hb : scriptB ((cutL 10 t).map (fun x => opOf (rdL x))) = true
        · exact ev_bind hso (ev_pos hb (ev_bind rs (ev_neg hrl (Ev.now _))))
        · exact ev_bind hso (ev_neg hb (Ev.now _))
      · exact ev_bind ri (ev_neg hrl (Ev.now _))
  · have e2 := trim_not s.data.toList 10 hend
    by_cases hne : s.data.toList = []
    · -- the empty text
      have hs : s = ⟨#[]⟩ := by rw [← mkB_of s, hne]; rfl
      refine ⟨[], true, ⟨by simp, by simp⟩, by simp, by simp, hspec [] [] _ true (by rw [hne]; rfl) (fun _ => ?_) (fun h => absurd (fun x hx => by cases hx) h), ?_⟩
      · obtain ⟨r, r1, r2, r3, rs, ri⟩ := ScriptText_form ([] : List S24) ⟨by simp, by simp⟩
        have hr := r3 rfl
        exact ev_bind (spec_ScriptOk_ev [] ⟨by simp, by simp⟩) (ev_pos rfl (ev_bind rs (ev_pos (by rw [hr, hs]) (Ev.now _))))
      · simp only [impl_ReadScript.f]
        exact ev_bindc rfl (ev_pos (by rw [hs]; exact Lib.toList_data _) (Ev.now _))
    · have hnot : ∀ r : ByteArray, (r = ⟨#[]⟩ ∨ ∃ y, r.data.toList = y ++ [10]) → ¬ r.toList = s.toList := by
        intro r hr e
        have e3 := list_eq.1 e
        rcases hr with h | ⟨y, h⟩
        · exact hne (by rw [← e3, h])
        · exact hend ⟨y, by rw [← e3]; exact h⟩
      obtain ⟨M, z, hM⟩ : ∃ M z, cutL 10 s.data.toList = M ++ [z] := ⟨_, _, (List.dropLast_concat_getLast (cutL_ne 10 s.data.toList)).symm⟩
      obtain ⟨g1, g2⟩ := hgen _ hsz
      obtain ⟨hO, _⟩ := hform _ g1 g2
      obtain ⟨r, _, r2, _, _, ri⟩ := ScriptText_form _ hO
      refine ⟨[], false, ⟨by simp, by simp⟩, by simp, by simp, hspec M z _ false hM (fun _ => ?_) (fun _ => rfl), himpl _ _ false hne (by rw [e2]) (by rw [e2]; exact hsz) ?_⟩
      · rw [hM] at g1 g2
        obtain ⟨hO2, _⟩ := hform M (fun x hx => g1 x (List.mem_append_left _ hx)) (by simp at g2; omega)
        obtain ⟨r', _, r2', _, rs', _⟩ := ScriptText_form _ hO2
        by_cases hb : scriptB (M.map (fun x => opOf (rdL x))) = true
        · exact ev_bind (spec_ScriptOk_ev _ hO2) (ev_pos hb (ev_bind rs' (ev_neg (hnot _ r2') (Ev.now _))))
        · exact ev_bind (spec_ScriptOk_ev _ hO2) (ev_neg hb (Ev.now _))
      · exact ev_bind ri (ev_neg (hnot _ r2) (Ev.now _))

end Go.Proofs.YtlfmlagdnebkiaaDoor.QFnExactReadScript
