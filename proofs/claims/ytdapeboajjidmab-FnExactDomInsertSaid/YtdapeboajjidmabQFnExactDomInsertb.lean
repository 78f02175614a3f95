/- What the printed functions of the law FnExactDomInsert come to, function by function, from some number of rounds on; each under the bounds that it names. -/
import Derived.Test.YtdapeboajjidmabQFnExactDomInserta
namespace Go.Proofs.Ytdapeboajjidmab.QFnExactDomInsert
open Go.RowKit Go.Proofs.Ytdapeboajjidmab.PFnExactDomInsert Go.Proofs.YtdapeboajjidmabW.PrintWords Go.Proofs.YtdapeboajjidmabW.PrintLast Go.Proofs.YtdapeboajjidmabW.PrintMore Go.Proofs.Ytdapeboajjidmab.EvAid Go.Proofs.Ytdapeboajjidmab
set_option linter.unusedVariables false
set_option linter.unusedSimpArgs false

/-! #### spec_DomOk -/
theorem rdOf_nat (M : List Bool) (j : Nat) : rdOf false M (j : Int) = M.getD j false := id rfl
theorem ok_l1 (D : List S72) (hm : D.length ≤ 24) (M : List Bool) (hM : M.length = D.length) (hw : ∀ i, i < D.length → M.getD i false = true → ∃ d L, Links.WC (ptr D) ((ptr D).first i) d L) : ∀ (d j : Nat), j + d = D.length → ∃ b, Ev (fun q => spec_DomOk.l1 q M (j : Int) D) b ∧ (b = true ↔ ∀ i, j ≤ i → i < D.length → (M.getD i false = true → Links.Links (ptr D) i) ∧ (M.getD i false = false → isEmpty D i)) := by
  intro d
  induction d with
  | zero =>
    intro j h
    refine ⟨true, ev_succ ?_, ⟨fun _ i h1 h2 => by omega, fun _ => rfl⟩⟩
    simp only [spec_DomOk.l1]
    exact ev_neg (by omega) (Ev.now _)
  | succ d ih =>
    intro j h
    have step : ∀ {b' : Bool}, (b' = true ↔ ∀ i, j + 1 ≤ i → i < D.length → (M.getD i false = true → Links.Links (ptr D) i) ∧ (M.getD i false = false → isEmpty D i)) → ((M.getD j false = true → Links.Links (ptr D) j) ∧ (M.getD j false = false → isEmpty D j)) → (b' = true ↔ ∀ i, j ≤ i → i < D.length → (M.getD i false = true → Links.Links (ptr D) i) ∧ (M.getD i false = false → isEmpty D i)) := by
      intro b' hb hj
      refine hb.trans ⟨fun h i h1 h2 => ?_, fun h i h1 h2 => h i (by omega) h2⟩
      by_cases e : i = j
      · subst e; exact hj
      · exact h i (by omega) h2
    obtain ⟨b', he, hb⟩ := ih (j + 1) (by omega)
    by_cases hj : M.getD j false = true
    · obtain ⟨d', L, hW⟩ := hw j (by omega) hj
      obtain ⟨c, hc, hcb⟩ := links_ev D hm j (by omega) hW
      by_cases hct : c = true
      · refine ⟨b', ev_succ ?_, step hb ⟨fun _ => hcb.1 hct, fun h => by rw [hj] at h; cases h⟩⟩
        simp only [spec_DomOk.l1]
        rw [w64 (x := (j : Int) + 1) (by omega) (by omega), rdOf_nat]
        exact ev_pos (by omega) (ev_pos (by omega) (ev_pos (by omega) (ev_pos hj (ev_bind hc (ev_pos hct he)))))
      · refine ⟨false, ev_succ ?_, ⟨fun h => (by cases h), fun h => absurd (hcb.2 ((h j (Nat.le_refl _) (by omega)).1 hj)) hct⟩⟩
        simp only [spec_DomOk.l1]
        rw [w64 (x := (j : Int) + 1) (by omega) (by omega), rdOf_nat]
        exact ev_pos (by omega) (ev_pos (by omega) (ev_pos (by omega) (ev_pos hj (ev_bind hc (ev_neg hct (Ev.now _))))))
    · have hj' : M.getD j false = false := by simpa using hj
      by_cases hem : isEmpty D j
      · refine ⟨b', ev_succ ?_, step hb ⟨fun h => absurd h hj, fun _ => hem⟩⟩
        simp only [spec_DomOk.l1]
        rw [w64 (x := (j : Int) + 1) (by omega) (by omega), rdOf_nat, rd_dn]
        refine ev_pos (by omega) (ev_pos (by omega) (ev_pos (by omega) (ev_neg hj (ev_bindc rfl (ev_neg ?_ he)))))
        exact fun hc => (emptyN_iff (dn D j)).1 hc hem
      · refine ⟨false, ev_succ ?_, ⟨fun h => (by cases h), fun h => absurd ((h j (Nat.le_refl _) (by omega)).2 hj') hem⟩⟩
        simp only [spec_DomOk.l1]
        rw [w64 (x := (j : Int) + 1) (by omega) (by omega), rdOf_nat, rd_dn]
        refine ev_pos (by omega) (ev_pos (by omega) (ev_pos (by omega) (ev_neg hj (ev_bindc rfl (ev_pos ?_ (Ev.now _))))))
        exact (emptyN_iff (dn D j)).2 hem
/-- what is asked behind the walk, from its j-th node on -/
def OkFrom (D : List S72) (S : List Nat) (A B : List Nat) : Prop :=
  (B.Nodup ∧ ∀ x ∈ B, x ∉ A) ∧ (∀ x ∈ B, (ptr D).live x = true ∧ (ptr D).lab x = true) ∧ ∀ i, i < D.length → (i ∈ S → Links.Links (ptr D) i) ∧ (i ∉ S → isEmpty D i)
theorem ok_l0 (D : List S72) (hm : D.length ≤ 24) (S : List Nat) (hSl : S.length ≤ 24) (hS : ∀ x ∈ S, x < D.length) (hw : ∀ x ∈ S, ∃ d L, Links.WC (ptr D) ((ptr D).first x) d L) : ∀ (B A : List Nat) (M : List Bool), A ++ B = S → M.length = D.length → (∀ x, x < D.length → (M.getD x false = true ↔ x ∈ A)) → ∃ b, Ev (fun q => spec_DomOk.l0 q (ofN S) M (A.length : Int) D) b ∧ (b = true ↔ OkFrom D S A B) := by
  intro B
  induction B with
  | nil =>
    intro A M hAB hM hA
    rw [List.append_nil] at hAB
    subst hAB
    obtain ⟨b, he, hb⟩ := ok_l1 D hm M hM (fun i hi h => hw i ((hA i hi).1 h)) D.length 0 (by omega)
    refine ⟨b, ev_succ ?_, hb.trans ⟨fun h => ⟨⟨List.nodup_nil, (fun x hx => by cases hx)⟩, (fun x hx => by cases hx), fun i hi => ?_⟩, fun h i _ hi => ?_⟩⟩
    · simp only [spec_DomOk.l0]
      rw [ofN_length]
      exact ev_neg (by omega) he
    · have h0 := h i (Nat.zero_le _) hi
      refine ⟨fun hx => h0.1 ((hA i hi).2 hx), fun hx => h0.2 ?_⟩
      have : ¬ M.getD i false = true := fun e => hx ((hA i hi).1 e)
      simpa using this
    · have h0 := h.2.2 i hi
      refine ⟨fun e => h0.1 ((hA i hi).1 e), fun e => h0.2 (fun hx => ?_)⟩
      have := (hA i hi).2 hx
      rw [e] at this
      cases this
  | cons s B ih =>
    intro A M hAB hM hA
    have hsS : s ∈ S := by rw [← hAB]; exact List.mem_append_right _ List.mem_cons_self
    have hs := hS s hsS
    have hlen : A.length + (B.length + 1) = S.length := by rw [← hAB, List.length_append, List.length_cons]
    have hrd : rd (ofN S) (A.length : Int) = (s : Int) := by
      rw [ofN_rd (by omega), ← hAB, List.getD_eq_getElem?_getD, List.getElem?_append_right (Nat.le_refl _), Nat.sub_self]
      rfl
    by_cases hin : s ∈ A
    · refine ⟨false, ev_succ ?_, ⟨fun h => (by cases h), fun h => absurd hin (h.1.2 s List.mem_cons_self)⟩⟩
      simp only [spec_DomOk.l0]
      rw [hrd, ofN_length, rdOf_nat]
      exact ev_pos (by omega) (ev_pos (by omega) (ev_pos (by omega) (ev_pos (by omega) (ev_pos ((hA s hs).2 hin) (Ev.now _)))))
    · have hms : ¬ M.getD s false = true := fun e => hin ((hA s hs).1 e)
      by_cases hv : (dn D s).f0 = true
      · by_cases hl : 0 ≤ (dn D s).f1 ∧ (dn D s).f1 ≤ 5
        · obtain ⟨b, he, hb⟩ := ih (A ++ [s]) (M.set s true) (by rw [List.append_assoc]; exact hAB) (by rw [List.length_set]; exact hM) (fun x hx => by
            rw [List.getD_eq_getElem?_getD, List.getElem?_set]
            by_cases e : s = x
            · subst e
              rw [if_pos rfl, if_pos (by omega)]
              simp
            · rw [if_neg e, ← List.getD_eq_getElem?_getD, hA x hx, List.mem_append, List.mem_singleton]
              exact ⟨.inl, fun h => h.elim id (fun h => absurd h.symm e)⟩)
          refine ⟨b, ev_succ ?_, hb.trans ⟨fun h => ?_, fun h => ?_⟩⟩
          · simp only [spec_DomOk.l0]
            rw [hrd, ofN_length, rdOf_nat, rd_dn, w64 (x := (A.length : Int) + 1) (by omega) (by omega), Int.toNat_natCast]
            refine ev_pos (by omega) (ev_pos (by omega) (ev_pos (by omega) (ev_pos (by omega) (ev_neg hms (ev_pos (by omega) (ev_pos hv (ev_bindc (spec_LabelOk_eq _) (ev_pos (decide_eq_true hl) ?_))))))))
            rw [List.length_append, List.length_singleton] at he
            exact he
          · obtain ⟨⟨h1, h2⟩, h3, h4⟩ := h
            refine ⟨⟨List.nodup_cons.2 ⟨fun hx => h2 s hx (List.mem_append_right _ List.mem_cons_self), h1⟩, fun x hx => ?_⟩, fun x hx => ?_, h4⟩
            · rcases List.mem_cons.1 hx with rfl | hx
              · exact hin
              · exact fun ha => h2 x hx (List.mem_append_left _ ha)
            · rcases List.mem_cons.1 hx with rfl | hx
              · exact ⟨hv, decide_eq_true hl⟩
              · exact h3 x hx
          · obtain ⟨⟨h1, h2⟩, h3, h4⟩ := h
            have h1' := List.nodup_cons.1 h1
            refine ⟨⟨h1'.2, fun x hx ha => ?_⟩, fun x hx => h3 x (List.mem_cons_of_mem _ hx), h4⟩
            rcases List.mem_append.1 ha with ha | ha
            · exact h2 x (List.mem_cons_of_mem _ hx) ha
            · rw [List.mem_singleton] at ha
              subst ha
              exact h1'.1 hx
        · refine ⟨false, ev_succ ?_, ⟨fun h => (by cases h), fun h => absurd (of_decide_eq_true (h.2.1 s List.mem_cons_self).2) hl⟩⟩
          simp only [spec_DomOk.l0]
          rw [hrd, ofN_length, rdOf_nat, rd_dn]
          refine ev_pos (by omega) (ev_pos (by omega) (ev_pos (by omega) (ev_pos (by omega) (ev_neg hms (ev_pos (by omega) (ev_pos hv (ev_bindc (spec_LabelOk_eq _) (ev_neg ?_ (Ev.now _)))))))))
          rw [decide_eq_false hl]
          decide
      · refine ⟨false, ev_succ ?_, ⟨fun h => (by cases h), fun h => absurd (h.2.1 s List.mem_cons_self).1 hv⟩⟩
        simp only [spec_DomOk.l0]
        rw [hrd, ofN_length, rdOf_nat, rd_dn]
        exact ev_pos (by omega) (ev_pos (by omega) (ev_pos (by omega) (ev_pos (by omega) (ev_neg hms (ev_pos (by omega) (ev_neg hv (Ev.now _)))))))
theorem spec_DomOk_ev (D : List S72) : ∃ b, Ev (fun q => spec_DomOk.f q D) b ∧ (b = true ↔ DomG D) := by
  have e0 : rd_T72 D 0 = dn D 0 := id rfl
  have bad : Ev (fun q => spec_DomOk.j0 q true D) false := by
    refine ev_succ ?_
    simp only [spec_DomOk.j0]
    exact ev_pos trivial (Ev.now _)
  have no : ¬ DomG D → (false = true ↔ DomG D) := fun h => ⟨fun e => (by cases e), fun g => absurd g h⟩
  by_cases hn : 1 ≤ D.length ∧ D.length ≤ 24
  · by_cases hv : (dn D 0).f0 = true
    · by_cases h2 : (dn D 0).f2 = -1
      · by_cases h5 : (dn D 0).f5 = -1
        · by_cases h6 : (dn D 0).f6 = -1
          · have head : ∀ {b : Bool}, Ev (fun q => spec_DomOk.j0 q false D) b → Ev (fun q => spec_DomOk.f q D) b := by
              intro b hb
              simp only [spec_DomOk.f]
              rw [e0, h6]
              exact ev_bindc (l1In_eq _ _ _) (ev_pos (decide_eq_true (by omega)) (ev_pos (by omega) (ev_pos hv (ev_pos h2 (ev_pos h5 hb)))))
            have hG : DomG D ↔ Links.OkW (ptr D) (isEmpty D) := ⟨fun h => (Links.OkG_iff hn.2).1 h.2.2.2.2, fun h => ⟨hn, h2, h5, h6, (Links.OkG_iff hn.2).2 h⟩⟩
            obtain ⟨O, Dp, he, k2, hc⟩ := walk_all D hn.1 hn.2
            rcases hc with ⟨hO, L1, hW, eO⟩ | ⟨hO, hno⟩
            · subst eO
              rw [ofN_length] at hO
              have hr : ∀ x ∈ 0 :: L1.map Prod.fst, x < D.length := by
                intro x hx
                rcases List.mem_cons.1 hx with rfl | hx
                · omega
                · obtain ⟨y, hy, rfl⟩ := Links.mem_fst hx
                  exact hW.2.2.range y hy
              have hu : ∀ x ∈ 0 :: L1.map Prod.fst, ∃ d L, Links.WC (ptr D) ((ptr D).first x) d L := by
                intro x hx
                rcases List.mem_cons.1 hx with rfl | hx
                · exact ⟨_, _, hW.2.2⟩
                · obtain ⟨y, hy, rfl⟩ := Links.mem_fst hx
                  exact hW.2.2.under y hy
              obtain ⟨b, hb, hbi⟩ := ok_l0 D hn.2 (0 :: L1.map Prod.fst) hO hr hu (0 :: L1.map Prod.fst) [] (List.replicate D.length false) rfl (by simp) (fun x hx => by simp [List.getD_eq_getElem?_getD, List.getElem?_replicate, hx])
              refine ⟨b, head (ev_succ ?_), hbi.trans ?_⟩
              · simp only [spec_DomOk.j0]
                refine ev_neg (by decide) (ev_bind he (ev_neg ?_ (ev_pos (by omega) (ev_pos (by omega) ?_))))
                · show ¬ ((ofN (0 :: L1.map Prod.fst)).length : Int) > 24
                  rw [ofN_length]; omega
                · rw [Int.toNat_natCast]; exact hb
              · rw [hG]
                constructor
                · rintro ⟨⟨a, _⟩, c, d⟩
                  exact ⟨L1, hW, hO, a, c, d⟩
                · rintro ⟨L', hW', _, a, c, d⟩
                  have eL : L' = L1 := hW'.2.2.det hW.2.2
                  subst eL
                  exact ⟨⟨a, fun x _ h => by cases h⟩, c, d⟩
            · refine ⟨false, head (ev_succ ?_), no ?_⟩
              · simp only [spec_DomOk.j0]
                exact ev_neg (by decide) (ev_bind he (ev_pos (show (O.length : Int) > 24 by omega) (Ev.now _)))
              · rw [hG]
                rintro ⟨L, hW, hl, _⟩
                have := hno L hW
                rw [List.length_cons, List.length_map] at hl
                omega
          · refine ⟨false, ?_, no (fun h => h6 h.2.2.2.1)⟩
            simp only [spec_DomOk.f]
            rw [e0]
            refine ev_bindc (l1In_eq _ _ _) (ev_pos (decide_eq_true (by omega)) (ev_pos (by omega) (ev_pos hv (ev_pos h2 (ev_pos h5 ?_)))))
            rw [show ((dn D 0).f6 != -1) = true from by simpa using h6]
            exact bad
        · refine ⟨false, ?_, no (fun h => h5 h.2.2.1)⟩
          simp only [spec_DomOk.f]
          rw [e0]
          exact ev_bindc (l1In_eq _ _ _) (ev_pos (decide_eq_true (by omega)) (ev_pos (by omega) (ev_pos hv (ev_pos h2 (ev_neg h5 bad)))))
      · refine ⟨false, ?_, no (fun h => h2 h.2.1)⟩
        simp only [spec_DomOk.f]
        rw [e0]
        exact ev_bindc (l1In_eq _ _ _) (ev_pos (decide_eq_true (by omega)) (ev_pos (by omega) (ev_pos hv (ev_neg h2 bad))))
    · refine ⟨false, ?_, no (fun h => ?_)⟩
      · simp only [spec_DomOk.f]
        rw [e0]
        exact ev_bindc (l1In_eq _ _ _) (ev_pos (decide_eq_true (by omega)) (ev_pos (by omega) (ev_neg hv bad)))
      · obtain ⟨_, _, _, _, L, hg, _⟩ := h
        exact hv hg.2.2.1
  · refine ⟨false, ?_, no (fun h => hn h.1)⟩
    simp only [spec_DomOk.f]
    refine ev_bindc (l1In_eq _ _ _) (ev_neg ?_ bad)
    rw [decide_eq_false (by omega)]
    decide

/-! #### _kidsTo -/
/-- the kids up to place j -/
def kidsTo (l : List S62) (i j : Nat) : List Int := ((List.range' (i + 1) (j - (i + 1))).filter fun k => decide (dpA l k = dpA l i + 1)).map Int.ofNat
theorem kidsTo_step (l : List S62) (i j : Nat) (h : i < j) : kidsTo l i (j + 1) = kidsTo l i j ++ (if dpA l j = dpA l i + 1 then [(j : Int)] else []) := by
  unfold kidsTo
  have e : j + 1 - (i + 1) = (j - (i + 1)) + 1 := by omega
  have e2 : i + 1 + 1 * (j - (i + 1)) = j := by omega
  rw [e, List.range'_concat, List.filter_append, List.map_append, e2]
  congr 1
  by_cases hd : dpA l j = dpA l i + 1
  · rw [if_pos hd]; simp [hd]
  · rw [if_neg hd]; simp [hd]
theorem kidsTo_length (l : List S62) (i j : Nat) : (kidsTo l i j).length ≤ j := by
  unfold kidsTo
  rw [List.length_map]
  have := List.length_filter_le (fun k => decide (dpA l k = dpA l i + 1)) (List.range' (i + 1) (j - (i + 1)))
  rw [List.length_range'] at this
  omega
theorem kidsI_nat {l : List S62} {i : Nat} (h : hasB l (i : Int) = true) : kidsI l (i : Int) = (Tree.kids l.length (dpA l) i).map Int.ofNat := by unfold kidsI; rw [if_pos h]; rfl

/-! #### _nodeAt -/
/-- the number of what was found, or -1 -/
def optI : Option Nat → Int
  | some k => (k : Int)
  | none => -1
/-- the node that a path leads to, or -1 -/
def nodeI (l : List S62) (p : List Int) : Int := if treeOk l = true then optI (Tree.goDown l.length (dpA l) 0 p) else -1
theorem nodeI_nat {l : List S62} {p : List Int} (h : 0 ≤ nodeI l p) : ∃ k : Nat, nodeI l p = (k : Int) ∧ k < l.length ∧ treeOk l = true ∧ Tree.goDown l.length (dpA l) 0 p = some k := by
  unfold nodeI at h ⊢
  by_cases ht : treeOk l = true
  · rw [if_pos ht] at h ⊢
    have h24 := (treeOk_iff.1 ht).1
    cases hg : Tree.goDown l.length (dpA l) 0 p with
    | none => rw [hg] at h; simp [optI] at h
    | some k => exact ⟨k, rfl, Tree.goDown_lt p 0 k (by omega) hg, ht, rfl⟩
  · rw [if_neg ht] at h; omega
theorem kidsI_ok {l : List S62} {i : Nat} (ht : treeOk l = true) (hi : i < l.length) : kidsI l (i : Int) = (Tree.kids l.length (dpA l) i).map Int.ofNat := by
  unfold kidsI
  rw [if_pos (hasB_iff.2 ⟨ht, by omega, by omega⟩), Int.toNat_natCast]
theorem rd_nat (ks : List Nat) (x : Int) (h0 : 0 ≤ x) (h : x < (ks.length : Int)) : rd (ks.map Int.ofNat) x = ((ks.getD x.toNat 0 : Nat) : Int) := by
  unfold rd
  rw [List.getD_eq_getElem?_getD, List.getElem?_map, List.getD_eq_getElem?_getD, List.getElem?_eq_getElem (by omega)]
  rfl
theorem drop_rd (p : List Int) (j : Nat) (h : j < p.length) : p.drop j = rd p (j : Int) :: p.drop (j + 1) := by
  rw [List.drop_eq_getElem_cons h]
  congr 1
  simp [rd, h]

/-! #### _domFrom -/
/-- the first and the last of a row, -1 where it is empty -/
def firstI (K : List Int) : Int := if (K.length : Int) > 0 then rd K 0 else -1
def lastI (K : List Int) : Int := if (K.length : Int) > 0 then rd K ((K.length : Int) - 1) else -1
/-- what stands ahead of place r, and behind it -/
def prevI (K : List Int) (r : Int) : Int := if r > 0 then rd K (r - 1) else -1
def nextI (K : List Int) (r : Int) : Int := if r + 1 < (K.length : Int) then rd K (r + 1) else -1
/-- a tree's node with its pointers -/
def nodeD (l : List S62) (j : Nat) : S72 :=
  ⟨true, lbA l j, parI l (j : Int), firstI (kidsI l (j : Int)), lastI (kidsI l (j : Int)),
    if parI l (j : Int) ≥ 0 then prevI (kidsI l (parI l (j : Int))) (rankI l (j : Int)) else -1,
    if parI l (j : Int) ≥ 0 then nextI (kidsI l (parI l (j : Int))) (rankI l (j : Int)) else -1⟩
def domT (l : List S62) : List S72 := if treeOk l = true then (List.range l.length).map (nodeD l) else []
theorem idxJ_range (K : List Int) (x : Int) : idxJ K x = -1 ∨ (0 ≤ idxJ K x ∧ idxJ K x < (K.length : Int)) := by
  unfold idxJ
  by_cases h : x ∈ K
  · rw [if_pos h]
    have := List.idxOf_lt_length_of_mem h
    omega
  · rw [if_neg h]; exact .inl rfl
theorem domFrom_snoc (l : List S62) (i : Nat) : (List.range i).map (nodeD l) ++ [nodeD l i] = (List.range (i + 1)).map (nodeD l) := by
  rw [List.range_succ, List.map_append]; rfl
theorem kidsI_neg (l : List S62) {p : Int} (h : p < 0) : kidsI l p = [] := by
  unfold kidsI
  rw [if_neg]
  intro hh
  have := (hasB_iff.1 hh).2.1
  omega
theorem kids_of_par {l : List S62} {i : Nat} (ht : treeOk l = true) (hi : i < l.length) (h : parI l (i : Int) ≥ 0) : ((kidsI l (parI l (i : Int))).length : Int) > 0 := by
  have hh : hasB l (i : Int) = true := hasB_iff.2 ⟨ht, by omega, by omega⟩
  have e : parI l (i : Int) = Tree.par (dpA l) i := by unfold parI; rw [if_pos hh]; rfl
  have hv := treeOk_vd ht
  by_cases h0 : i = 0
  · subst h0
    rw [e, Tree.par_root] at h
    omega
  · obtain ⟨p, e1, a, _, _, _, m⟩ := Tree.par_spec hv (by omega) hi
    rw [e, e1, kidsI_ok ht (by omega)]
    have := List.length_pos_of_mem m
    simp only [List.length_map]
    omega

/-! #### _pathH -/
/-- the path of a node; empty where there is no such node -/
noncomputable def pathH (l : List S62) (i : Int) : List Int := if hasB l i = true then Tree.pathTo l.length (dpA l) i.toNat else []
theorem parI_nat {l : List S62} {i : Nat} (ht : treeOk l = true) (hi : i < l.length) : parI l (i : Int) = Tree.par (dpA l) i := by
  unfold parI
  rw [if_pos (hasB_iff.2 ⟨ht, by omega, by omega⟩)]; rfl
theorem rankI_nat {l : List S62} {i : Nat} (ht : treeOk l = true) (hi : i < l.length) (h0 : 0 < i) : rankI l (i : Int) = ((Tree.rank l.length (dpA l) i : Nat) : Int) := by
  obtain ⟨p, e, a, _, _, _, m⟩ := Tree.par_spec (treeOk_vd ht) h0 hi
  unfold rankI Tree.rank
  rw [parI_nat ht hi, e, if_neg (by omega), kidsI_ok ht (by omega), Int.toNat_natCast]
  unfold idxJ
  have hm : ((i : Nat) : Int) ∈ (Tree.kids l.length (dpA l) p).map Int.ofNat := List.mem_map.2 ⟨i, m, rfl⟩
  rw [if_pos hm]
  congr 1
  have hn : ((Tree.kids l.length (dpA l) p).map Int.ofNat).Nodup := by
    refine List.Pairwise.map _ ?_ (Tree.kids_nodup (n := l.length) (D := dpA l) (i := p))
    intro a b hab hc
    exact hab (Int.ofNat.inj hc)
  have h1 := List.idxOf_lt_length_of_mem m
  have h2 : ((Tree.kids l.length (dpA l) p).map Int.ofNat)[(Tree.kids l.length (dpA l) p).idxOf i]'(by simpa using h1) = ((i : Nat) : Int) := by
    rw [List.getElem_map, List.getElem_idxOf h1]; rfl
  have h3 := List.Nodup.idxOf_getElem hn ((Tree.kids l.length (dpA l) p).idxOf i) (by simpa using h1)
  rw [h2] at h3
  exact h3
theorem pathH_node {l : List S62} {i : Nat} (ht : treeOk l = true) (hi : i < l.length) : pathH l (i : Int) = Tree.pathTo l.length (dpA l) i := by
  unfold pathH
  rw [if_pos (hasB_iff.2 ⟨ht, by omega, by omega⟩), Int.toNat_natCast]
theorem pathH_length {l : List S62} {i : Nat} (ht : treeOk l = true) (hi : i < l.length) : ((pathH l (i : Int)).length : Int) = dpA l i := by
  rw [pathH_node ht hi]
  exact Tree.pathTo_length (treeOk_vd ht) i hi
theorem nodeI_pathH {l : List S62} {i : Nat} (ht : treeOk l = true) (hi : i < l.length) : nodeI l (pathH l (i : Int)) = (i : Int) := by
  unfold nodeI
  rw [if_pos ht, pathH_node ht hi, Tree.goDown_pathTo (treeOk_vd ht) i hi]
  rfl
theorem pathH_nodeI {l : List S62} {q : List Int} (h : 0 ≤ nodeI l q) : pathH l (nodeI l q) = q := by
  obtain ⟨k, e, hk, ht, hg⟩ := nodeI_nat h
  rw [e, pathH_node ht hk]
  exact Tree.pathTo_goDown (treeOk_vd ht) q k hg

/-! #### _visit -/
/-- the begins of a node's kids and its end, one behind the other -/
theorem bounds_zero {n : Nat} {D : Nat → Int} {i : Nat} (hv : Tree.Vd n D) (hi : i < n) : (Tree.bounds n D i).getD 0 0 = i + 1 := by
  have g := @Tree.eo_gt n D i
  have hb : Tree.IsB n D i (i + 1) := by
    refine ⟨by omega, ?_⟩
    by_cases h : i + 1 < Tree.eo n D i
    · exact .inr ⟨h, Tree.first_kid hv hi h⟩
    · exact .inl (by omega)
  have := (Tree.bounds_at hb).1
  rwa [Tree.cnt_self] at this
theorem bounds_kid {n : Nat} {D : Nat → Int} {i r : Nat} (h : r < (Tree.kids n D i).length) : (Tree.bounds n D i).getD r 0 = (Tree.kids n D i).getD r 0 := by
  unfold Tree.bounds
  exact Tree.getD_left h
theorem bounds_last {n : Nat} {D : Nat → Int} {i : Nat} : (Tree.bounds n D i).getD (Tree.kids n D i).length 0 = Tree.eo n D i := by
  unfold Tree.bounds
  rw [Tree.getD_right (Nat.le_refl _), Nat.sub_self]
  rfl
theorem kid_mem {n : Nat} {D : Nat → Int} {i r : Nat} (h : r < (Tree.kids n D i).length) : (Tree.kids n D i).getD r 0 ∈ Tree.kids n D i := by
  rw [List.getD_eq_getElem?_getD, List.getElem?_eq_getElem h]
  exact List.getElem_mem h
theorem bounds_succ {n : Nat} {D : Nat → Int} {i r : Nat} (hv : Tree.Vd n D) (hi : i < n) (h : r < (Tree.kids n D i).length) : (Tree.bounds n D i).getD (r + 1) 0 = Tree.eo n D ((Tree.kids n D i).getD r 0) := by
  have hm := kid_mem h
  have hr := Tree.idxOf_getD Tree.kids_nodup (l := Tree.kids n D i) (d := 0) h
  rw [Tree.rank_cnt hm] at hr
  generalize hk : (Tree.kids n D i).getD r 0 = k at *
  obtain ⟨k1, k2, k3⟩ := Tree.mem_kids.1 hm
  have g := @Tree.eo_gt n D k
  have ne := Tree.eo_nest hi k1 k2
  have hb : Tree.IsB n D i (Tree.eo n D k) := by
    refine ⟨by omega, ?_⟩
    by_cases h2 : Tree.eo n D k < Tree.eo n D i
    · exact .inr ⟨h2, Tree.next_kid hv k1 k2 hi k3 h2⟩
    · exact .inl (by omega)
  have h1 := (Tree.bounds_at hb).1
  have c1 := Tree.cnt_split D (D i + 1) (a := i + 1) (b := k) (c := Tree.eo n D k) (by omega) (by omega)
  have c2 := Tree.cnt_split D (D i + 1) (a := k) (b := k + 1) (c := Tree.eo n D k) (by omega) (by omega)
  have c3 := Tree.cnt_one k3
  have c4 : Tree.cnt D (D i + 1) (k + 1) (Tree.eo n D k) = 0 := Tree.cnt_none (fun t t1 t2 => by have := Tree.eo_in (n := n) (D := D) (i := k) (t := t) (by omega) t2; omega)
  rw [c1, hr, c2, c3, c4] at h1
  exact h1
theorem eo_root {n : Nat} {D : Nat → Int} (hv : Tree.Vd n D) : Tree.eo n D 0 = n := by
  obtain ⟨v1, v2, v3⟩ := hv
  exact Tree.eo_eq (by omega) (Nat.le_refl _) (fun t h1 h2 => by have := (v3 t h1 h2).1; omega) (fun h => absurd h (Nat.lt_irrefl _))
/-- the first m places, as numbers -/
def upTo (m : Nat) : List Int := (List.range m).map Int.ofNat
theorem upTo_length (m : Nat) : (upTo m).length = m := by simp [upTo]
theorem upTo_succ (m : Nat) : upTo m ++ [(m : Int)] = upTo (m + 1) := by unfold upTo; rw [List.range_succ, List.map_append]; rfl
theorem mem_upTo {m : Nat} {x : Int} : x ∈ upTo m ↔ 0 ≤ x ∧ x < (m : Int) := by
  unfold upTo
  rw [List.mem_map]
  constructor
  · rintro ⟨a, ha, rfl⟩
    have := List.mem_range.1 ha
    exact ⟨Int.natCast_nonneg a, by show ((a : Nat) : Int) < _; omega⟩
  · rintro ⟨h1, h2⟩
    exact ⟨x.toNat, List.mem_range.2 (by omega), by show ((x.toNat : Nat) : Int) = x; omega⟩
theorem upTo_rd {m i : Nat} (h : i < m) : rd (upTo m) (i : Int) = (i : Int) := by
  unfold rd upTo
  rw [Int.toNat_natCast, List.getD_eq_getElem?_getD, List.getElem?_map, List.getElem?_range h]
  rfl
/-- what stands at a place of the linked tree of a tree -/
theorem domT_at {l : List S62} {i : Nat} (ht : treeOk l = true) (hi : i < l.length) : rd_T72 (domT l) (i : Int) = nodeD l i := by
  unfold domT
  rw [if_pos ht]
  show ((List.range l.length).map (nodeD l)).getD i _ = _
  rw [List.getD_eq_getElem?_getD, List.getElem?_map, List.getElem?_range hi]
  rfl
theorem domT_len {l : List S62} (ht : treeOk l = true) : (domT l).length = l.length := by
  unfold domT
  rw [if_pos ht]
  simp
section
variable {l : List S62} {i : Nat} (ht : treeOk l = true) (hi : i < l.length)
include ht hi
theorem kids_len : (kidsI l (i : Int)).length = (Tree.kids l.length (dpA l) i).length := by rw [kidsI_ok ht hi, List.length_map]
theorem kids_rd {r : Nat} (h : r < (Tree.kids l.length (dpA l) i).length) : rd (kidsI l (i : Int)) (r : Int) = (((Tree.kids l.length (dpA l) i).getD r 0 : Nat) : Int) := by
  rw [kidsI_ok ht hi, rd_nat _ _ (by omega) (by omega), Int.toNat_natCast]
/-- the kid at place r, -1 behind the last -/
def kidV (l : List S62) (i r : Nat) : Int := if r < (Tree.kids l.length (dpA l) i).length then (((Tree.kids l.length (dpA l) i).getD r 0 : Nat) : Int) else -1
/-- the kid ahead of place r, -1 ahead of the first -/
def lastV (l : List S62) (i r : Nat) : Int := if r = 0 then -1 else (((Tree.kids l.length (dpA l) i).getD (r - 1) 0 : Nat) : Int)
theorem first_is : firstI (kidsI l (i : Int)) = kidV l i 0 := by
  unfold firstI kidV
  rw [kids_len ht hi]
  by_cases h : 0 < (Tree.kids l.length (dpA l) i).length
  · rw [if_pos (by omega), if_pos h]
    exact kids_rd ht hi h
  · rw [if_neg (by omega), if_neg h]
theorem last_is : lastI (kidsI l (i : Int)) = lastV l i (Tree.kids l.length (dpA l) i).length := by
  unfold lastI lastV
  rw [kids_len ht hi]
  by_cases h : 0 < (Tree.kids l.length (dpA l) i).length
  · rw [if_pos (by omega), if_neg (by omega)]
    have e : (((Tree.kids l.length (dpA l) i).length : Nat) : Int) - 1 = (((Tree.kids l.length (dpA l) i).length - 1 : Nat) : Int) := by omega
    rw [e]
    exact kids_rd ht hi (by omega)
  · rw [if_neg (by omega), if_pos (by omega)]
theorem kid_node {r : Nat} (h : r < (Tree.kids l.length (dpA l) i).length) : ∃ k : Nat, (Tree.kids l.length (dpA l) i).getD r 0 = k ∧ i < k ∧ k < l.length ∧ dpA l k = dpA l i + 1 ∧ (nodeD l k).f2 = (i : Int) ∧ (nodeD l k).f5 = lastV l i r ∧ (nodeD l k).f6 = kidV l i (r + 1) := by
  have hm := kid_mem h
  have hr := Tree.idxOf_getD Tree.kids_nodup (l := Tree.kids l.length (dpA l) i) (d := 0) h
  refine ⟨_, rfl, ?_⟩
  generalize hk : (Tree.kids l.length (dpA l) i).getD r 0 = k at *
  obtain ⟨k1, k2, k3⟩ := Tree.mem_kids.1 hm
  have kl := Tree.kids_lt hi hm
  have hp : parI l (k : Int) = (i : Int) := by rw [parI_nat ht kl]; exact Tree.par_of_kid hm
  have hrk : rankI l (k : Int) = (r : Int) := by
    rw [rankI_nat ht kl (by omega)]
    unfold Tree.rank
    rw [← parI_nat ht kl, hp, Int.toNat_natCast, hr]
  refine ⟨k1, kl, k3, hp, ?_, ?_⟩
  · show (if parI l (k : Int) ≥ 0 then prevI (kidsI l (parI l (k : Int))) (rankI l (k : Int)) else -1) = _
    rw [hp, if_pos (by omega), hrk]
    unfold prevI lastV
    by_cases h0 : r = 0
    · rw [if_neg (by omega), if_pos h0]
    · rw [if_pos (by omega), if_neg h0]
      have e : (r : Int) - 1 = ((r - 1 : Nat) : Int) := by omega
      rw [e]
      exact kids_rd ht hi (by omega)
  · show (if parI l (k : Int) ≥ 0 then nextI (kidsI l (parI l (k : Int))) (rankI l (k : Int)) else -1) = _
    rw [hp, if_pos (by omega), hrk]
    unfold nextI kidV
    rw [kids_len ht hi]
    by_cases h1 : r + 1 < (Tree.kids l.length (dpA l) i).length
    · rw [if_pos (by omega), if_pos h1]
      have e : (r : Int) + 1 = ((r + 1 : Nat) : Int) := by omega
      rw [e]
      exact kids_rd ht hi h1
    · rw [if_neg (by omega), if_neg h1]
end

/-! #### impl_Dom_visit -/
theorem visit_ok {l : List S62} (ht : treeOk l = true) : ∀ (d i : Nat), i + d = l.length → i < l.length → Ev (fun q => impl_Dom_visit.f q (domT l) (i : Int) (dpA l i) (l.take i) (upTo i)) (l.take (Tree.eo l.length (dpA l) i), upTo (Tree.eo l.length (dpA l) i), true) := by
  have h24 := (treeOk_iff.1 ht).1
  have hv := treeOk_vd ht
  have hlen := domT_len ht
  intro d
  induction d using Nat.strongRecOn with
  | _ d ih =>
    intro i hid hi
    have di := dp_range ht hi
    have li := lb_range ht hi
    have el := Tree.eo_le (D := dpA l) hi
    refine ev_succ ?_
    simp only [impl_Dom_visit.f]
    rw [domT_at ht hi]
    refine ev_pos (by omega) (ev_pos (by omega) (ev_pos rfl (ev_bindc (LabelOk_eq _) (ev_pos (decide_eq_true li) ?_))))
    rw [decide_eq_false (by omega)]
    refine ev_succ ?_
    simp only [impl_Dom_visit.j0]
    refine ev_neg (by decide) (ev_pos (by rw [List.length_take]; omega) (ev_pos (by rw [upTo_length]; omega) ?_))
    have e1 : l.take i ++ [(⟨lbA l i, dpA l i⟩ : S62)] = l.take (i + 1) := by rw [List.take_succ_eq_append_getElem hi, getD_node l i hi]
    have key : ∀ (m r : Nat), r + m = (Tree.kids l.length (dpA l) i).length → Ev (fun q => impl_Dom_visit.l0 q (i : Int) (dpA l i) (l.take ((Tree.bounds l.length (dpA l) i).getD r 0)) (upTo ((Tree.bounds l.length (dpA l) i).getD r 0)) (lastV l i r) (kidV l i r) (domT l) (nodeD l i).f0 (nodeD l i).f1 (nodeD l i).f2 (nodeD l i).f3 (nodeD l i).f4 (nodeD l i).f5 (nodeD l i).f6) (l.take (Tree.eo l.length (dpA l) i), upTo (Tree.eo l.length (dpA l) i), true) := by
      intro m
      induction m with
      | zero =>
        intro r hr
        have e : r = (Tree.kids l.length (dpA l) i).length := by omega
        subst e
        refine ev_succ ?_
        simp only [impl_Dom_visit.l0]
        refine ev_pos (by unfold kidV; rw [if_neg (Nat.lt_irrefl _)]) (ev_some ?_)
        rw [bounds_last]
        have : (nodeD l i).f4 = lastV l i (Tree.kids l.length (dpA l) i).length := last_is ht hi
        rw [this]
        simp
      | succ m ihm =>
        intro r hr
        have hrl : r < (Tree.kids l.length (dpA l) i).length := by omega
        obtain ⟨k, hk, k1, k2, k3, k4, k5, k6⟩ := kid_node ht hi hrl
        have hkv : kidV l i r = (k : Int) := by unfold kidV; rw [if_pos hrl, hk]
        have hb : (Tree.bounds l.length (dpA l) i).getD r 0 = k := by rw [bounds_kid hrl, hk]
        have hb2 : (Tree.bounds l.length (dpA l) i).getD (r + 1) 0 = Tree.eo l.length (dpA l) k := by rw [bounds_succ hv hi hrl, hk]
        have ihk := ih (l.length - k) (by omega) k (by omega) k2
        have ihr := ihm (r + 1) (by omega)
        rw [hb2] at ihr
        refine ev_succ ?_
        simp only [impl_Dom_visit.l0]
        rw [hkv, hb, hlen]
        refine ev_neg (by omega) (ev_bindc (within_eq _ _ _) (ev_pos ?_ (ev_bind (containsI_ev _ _ (by rw [upTo_length]; omega)) (ev_neg ?_ (ev_pos (by omega) (ev_pos (by omega) ?_))))))
        · rw [w64 (by omega) (by omega)]
          exact decide_eq_true (by omega)
        · simp only [decide_eq_true_eq, mem_upTo]
          omega
        · rw [domT_at ht k2]
          refine ev_pos k4 ?_
          rw [k5]
          have e5 : (lastV l i r != lastV l i r) = false := by simp
          rw [e5]
          refine ev_succ ?_
          simp only [impl_Dom_visit.j2]
          rw [w64 (x := dpA l i + 1) (by omega) (by omega), ← k3, domT_at ht k2, hlen]
          refine ev_neg (by decide) (ev_bind ihk (ev_pos rfl (ev_pos (by omega) (ev_pos (by omega) ?_))))
          rw [k6]
          have e7 : lastV l i (r + 1) = (k : Int) := by unfold lastV; rw [if_neg (by omega), Nat.add_sub_cancel, hk]
          rw [e7] at ihr
          exact ihr
    have k0 := key (Tree.kids l.length (dpA l) i).length 0 (by omega)
    rw [bounds_zero hv hi, ← e1, ← upTo_succ] at k0
    have e3 : (nodeD l i).f3 = kidV l i 0 := first_is ht hi
    have e2 : lastV l i 0 = -1 := rfl
    rw [e2, ← e3] at k0
    exact k0

/-! #### impl_Dom_walked -/
theorem walked_ok {l : List S62} (ht : treeOk l = true) : Ev (fun q => impl_Dom_walked.f q (domT l)) (l, upTo l.length, true) := by
  have h24 := (treeOk_iff.1 ht).1
  have hv := treeOk_vd ht
  have hlen := domT_len ht
  have hroot : parI l ((0 : Nat) : Int) = -1 := by rw [parI_nat ht (by omega)]; exact Tree.par_root
  have key : ∀ (d i : Nat), i + d = l.length → Ev (fun q => impl_Dom_walked.l0 q l (upTo l.length) true (domT l) (l.length : Int) (i : Int)) (l, upTo l.length, true) := by
    intro d
    induction d with
    | zero =>
      intro i h
      refine ev_succ ?_
      simp only [impl_Dom_walked.l0]
      exact ev_neg (by omega) (Ev.now _)
    | succ d ih =>
      intro i h
      refine ev_succ ?_
      simp only [impl_Dom_walked.l0]
      refine ev_pos (by omega) (ev_pos (by omega) (ev_pos (by omega) (ev_pos trivial (ev_bind (containsI_ev _ _ (by rw [upTo_length]; omega)) (ev_pos ?_ ?_)))))
      · simp only [decide_eq_true_eq, mem_upTo]
        omega
      · rw [w64 (x := (i : Int) + 1) (by omega) (by omega)]
        exact ih (i + 1) (by omega)
  simp only [impl_Dom_walked.f]
  have e0 : rd_T72 (domT l) 0 = nodeD l 0 := domT_at ht (i := 0) (by omega)
  rw [hlen, e0]
  have f2 : (nodeD l 0).f2 = -1 := hroot
  have f5 : (nodeD l 0).f5 = -1 := by show (if parI l ((0 : Nat) : Int) ≥ 0 then _ else (-1 : Int)) = -1; rw [hroot]; rfl
  have f6 : (nodeD l 0).f6 = -1 := by show (if parI l ((0 : Nat) : Int) ≥ 0 then _ else (-1 : Int)) = -1; rw [hroot]; rfl
  refine ev_bindc (within_eq _ _ _) (ev_pos (decide_eq_true (by omega)) (ev_pos (by omega) (ev_pos f2 (ev_pos f5 (ev_succ ?_)))))
  simp only [impl_Dom_walked.j0]
  have hvis := visit_ok ht l.length 0 (by omega) (by omega)
  rw [eo_root hv, List.take_length] at hvis
  have d0 : dpA l 0 = 0 := hv.2.1
  rw [d0] at hvis
  rw [f6, hlen]
  exact ev_neg (by decide) (ev_bind hvis (key l.length 0 (by omega)))

/-! #### slices_Grow_int -/
theorem Grow_int_eq (n : Int) (h0 : 0 ≤ n) (h1 : n ≤ 17592186044416) : slices_Grow_int.f [] n = some [] := by
  unfold slices_Grow_int.f
  rw [if_pos ⟨rfl, h0, h1⟩]

/-! #### _flat -/
theorem flat_take_le {α : Type} (ls : List (List α)) (i : Nat) : (ls.take i).flatten.length ≤ ls.flatten.length := by
  conv => rhs; rw [← List.take_append_drop i ls]
  rw [List.flatten_append, List.length_append]
  omega
theorem flat_succ {α : Type} (ls : List (List α)) (i : Nat) (h : i < ls.length) : (ls.take (i + 1)).flatten = (ls.take i).flatten ++ ls[i] := by
  rw [List.take_succ_eq_append_getElem h, List.flatten_append]
  simp

/-! #### slices_Concat_int -/
theorem Concat_int_rd (ls : List (List Int)) (i : Nat) (h : i < ls.length) : rd_L5 ls (i : Int) = ls[i] := by
  show ls.getD ((i : Int)).toNat _ = _
  rw [Int.toNat_natCast]
  simp [h]
theorem Concat_int_l1 (ls : List (List Int)) (hb : ls.flatten.length ≤ 1099511627776) (hl : ls.length ≤ 1048576) : ∀ (d i : Nat), i + d = ls.length → Ev (fun k => slices_Concat_int.l1 k (ls.take i).flatten ls (ls.length : Int) (i : Int)) ls.flatten := by
  intro d
  induction d with
  | zero =>
    intro i h
    refine ev_succ ?_
    simp only [slices_Concat_int.l1]
    exact ev_neg (by omega) (ev_some (by rw [List.take_of_length_le (by omega)]))
  | succ d ih =>
    intro i h
    refine ev_succ ?_
    simp only [slices_Concat_int.l1]
    have hi : i < ls.length := by omega
    rw [Concat_int_rd ls i hi]
    have e := flat_succ ls i hi
    have hle := flat_take_le ls (i + 1)
    rw [e, List.length_append] at hle
    refine ev_pos (by omega) (ev_pos (by omega) (ev_pos (by omega) (ev_pos (by omega) ?_)))
    rw [w64 (x := (i : Int) + 1) (by omega) (by omega), ← e]
    exact ih (i + 1) (by omega)
theorem Concat_int_l0 (ls : List (List Int)) (hb : ls.flatten.length ≤ 1099511627776) (hl : ls.length ≤ 1048576) : ∀ (d i : Nat), i + d = ls.length → Ev (fun k => slices_Concat_int.l0 k ls ((ls.take i).flatten.length : Int) ls (ls.length : Int) (i : Int)) ls.flatten := by
  intro d
  induction d with
  | zero =>
    intro i h
    refine ev_succ ?_
    simp only [slices_Concat_int.l0]
    have hle := flat_take_le ls i
    refine ev_neg (by omega) (ev_bindc (Grow_int_eq _ (by omega) (by omega)) ?_)
    have := Concat_int_l1 ls hb hl ls.length 0 (by omega)
    exact this
  | succ d ih =>
    intro i h
    refine ev_succ ?_
    simp only [slices_Concat_int.l0]
    have hi : i < ls.length := by omega
    rw [Concat_int_rd ls i hi]
    have e := flat_succ ls i hi
    have hle := flat_take_le ls (i + 1)
    rw [e, List.length_append] at hle
    rw [w64 (x := ((ls.take i).flatten.length : Int) + (ls[i].length : Int)) (by omega) (by omega), w64 (x := (i : Int) + 1) (by omega) (by omega)]
    refine ev_pos (by omega) (ev_pos (by omega) (ev_pos (by omega) (ev_neg (by omega) ?_)))
    have := ih (i + 1) (by omega)
    rw [e, List.length_append] at this
    have e2 : (((ls.take i).flatten.length + ls[i].length : Nat) : Int) = ((ls.take i).flatten.length : Int) + (ls[i].length : Int) := by omega
    have e3 : ((i + 1 : Nat) : Int) = (i : Int) + 1 := by omega
    rw [e2, e3] at this
    exact this
theorem Concat_int_ev (ls : List (List Int)) (hb : ls.flatten.length ≤ 1099511627776) (hl : ls.length ≤ 1048576) : Ev (fun k => slices_Concat_int.f k ls) ls.flatten := by
  simp only [slices_Concat_int.f]
  exact Concat_int_l0 ls hb hl ls.length 0 (by omega)

/-! #### _relink -/
theorem dn_set (Y : List S72) (a x : Nat) (v : S72) (h : a < Y.length) : dn (Y.set a v) x = if x = a then v else dn Y x := by
  unfold dn
  rw [List.getD_eq_getElem?_getD, List.getElem?_set]
  by_cases e : a = x
  · subst e; rw [if_pos rfl, if_pos h, if_pos rfl]; rfl
  · rw [if_neg e, if_neg (Ne.symm e), ← List.getD_eq_getElem?_getD]
theorem dn_setF (Y : List S72) (q x : Nat) (v : Int) (h : q < Y.length) : dn (setF Y (q : Int) v) x = if x = q then ⟨(dn Y q).f0, (dn Y q).f1, (dn Y q).f2, v, (dn Y q).f4, (dn Y q).f5, (dn Y q).f6⟩ else dn Y x := by
  unfold setF; rw [Int.toNat_natCast, dn_set _ _ _ _ h]; rfl
theorem dn_setL (Y : List S72) (q x : Nat) (v : Int) (h : q < Y.length) : dn (setL Y (q : Int) v) x = if x = q then ⟨(dn Y q).f0, (dn Y q).f1, (dn Y q).f2, (dn Y q).f3, v, (dn Y q).f5, (dn Y q).f6⟩ else dn Y x := by
  unfold setL; rw [Int.toNat_natCast, dn_set _ _ _ _ h]; rfl
theorem dn_setP (Y : List S72) (q x : Nat) (v : Int) (h : q < Y.length) : dn (setP Y (q : Int) v) x = if x = q then ⟨(dn Y q).f0, (dn Y q).f1, v, (dn Y q).f3, (dn Y q).f4, (dn Y q).f5, (dn Y q).f6⟩ else dn Y x := by
  unfold setP; rw [Int.toNat_natCast, dn_set _ _ _ _ h]; rfl
theorem dn_setV (Y : List S72) (q x : Nat) (v : Int) (h : q < Y.length) : dn (setV Y (q : Int) v) x = if x = q then ⟨(dn Y q).f0, (dn Y q).f1, (dn Y q).f2, (dn Y q).f3, (dn Y q).f4, v, (dn Y q).f6⟩ else dn Y x := by
  unfold setV; rw [Int.toNat_natCast, dn_set _ _ _ _ h]; rfl
theorem dn_setN (Y : List S72) (q x : Nat) (v : Int) (h : q < Y.length) : dn (setN Y (q : Int) v) x = if x = q then ⟨(dn Y q).f0, (dn Y q).f1, (dn Y q).f2, (dn Y q).f3, (dn Y q).f4, (dn Y q).f5, v⟩ else dn Y x := by
  unfold setN; rw [Int.toNat_natCast, dn_set _ _ _ _ h]; rfl
/-- kid t of a list -/
def kx (ks : List Nat) (t : Nat) : Nat := ks.getD t 0
def pvx (ks : List Nat) (t : Nat) : Int := if t = 0 then -1 else (kx ks (t - 1) : Int)
/-- the kid behind kid t, of the first m -/
def nxx (ks : List Nat) (m t : Nat) : Int := if t + 1 < m then (kx ks (t + 1) : Int) else -1
def Nn (X : List S72) (q : Nat) (ks : List Nat) (t : Nat) (nx : Int) : S72 := ⟨(dn X (kx ks t)).f0, (dn X (kx ks t)).f1, (q : Int), (dn X (kx ks t)).f3, (dn X (kx ks t)).f4, pvx ks t, nx⟩
def Qn (X : List S72) (q : Nat) (a b : Int) : S72 := ⟨(dn X q).f0, (dn X q).f1, (dn X q).f2, a, b, (dn X q).f5, (dn X q).f6⟩
/-- the first m kids are relinked: all of them know the next of the first m2 -/
structure Relk (X : List S72) (q : Nat) (ks : List Nat) (m m2 : Nat) (lst : Int) (Y : List S72) : Prop where
  len : Y.length = X.length
  par : dn Y q = Qn X q (if m = 0 then -1 else (kx ks 0 : Int)) lst
  kid : ∀ t, t < m → dn Y (kx ks t) = Nn X q ks t (nxx ks m2 t)
  oth : ∀ x, x ≠ q → (∀ t, t < m → kx ks t ≠ x) → dn Y x = dn X x
/-- a list of nodes that may become the kids of one -/
structure Fit (X : List S72) (q : Nat) (ks : List Nat) : Prop where
  hq : q < X.length
  r : ∀ t, t < ks.length → kx ks t < X.length
  ne : ∀ t, t < ks.length → kx ks t ≠ q
  inj : ∀ s t, s < ks.length → t < ks.length → kx ks s = kx ks t → s = t
theorem Fit.of {X : List S72} {q : Nat} {ks : List Nat} (hq : q < X.length) (hn : ks.Nodup) (hr : ∀ c ∈ ks, c < X.length) (hne : q ∉ ks) : Fit X q ks := by
  have hk : ∀ t (h : t < ks.length), kx ks t = ks[t] := fun t h => by unfold kx; rw [List.getD_eq_getElem?_getD, List.getElem?_eq_getElem h]; rfl
  refine ⟨hq, fun t h => ?_, fun t h => ?_, fun s t hs ht e => ?_⟩
  · rw [hk t h]; exact hr _ (List.getElem_mem h)
  · rw [hk t h]; intro e; exact hne (e ▸ List.getElem_mem h)
  · rw [hk s hs, hk t ht] at e
    have hp := List.pairwise_iff_getElem.1 hn
    rcases Nat.lt_trichotomy s t with h | h | h
    · exact absurd e (hp s t hs ht h)
    · exact h
    · exact absurd e.symm (hp t s ht hs h)
theorem Relk.eq {X : List S72} {q : Nat} {ks : List Nat} {m m2 : Nat} {lst : Int} {Y Z : List S72} (h : Relk X q ks m m2 lst Y) (h' : Relk X q ks m m2 lst Z) : Y = Z := by
  have hd : ∀ x, dn Y x = dn Z x := by
    intro x
    by_cases hq : x = q
    · subst hq; rw [h.par, h'.par]
    · by_cases ht : ∃ t, t < m ∧ kx ks t = x
      · obtain ⟨t, h1, rfl⟩ := ht
        rw [h.kid t h1, h'.kid t h1]
      · have hn : ∀ t, t < m → kx ks t ≠ x := fun t h1 h2 => ht ⟨t, h1, h2⟩
        rw [h.oth x hq hn, h'.oth x hq hn]
  refine List.ext_getElem (h.len.trans h'.len.symm) fun x h1 h2 => ?_
  have e := hd x
  unfold dn at e
  rw [List.getD_eq_getElem?_getD, List.getD_eq_getElem?_getD, List.getElem?_eq_getElem h1, List.getElem?_eq_getElem h2] at e
  exact e
theorem kx_rd {ks : List Nat} {m : Nat} (h : m < ks.length) : rd (ofN ks) (m : Int) = (kx ks m : Int) := ofN_rd h
theorem relk_start {X : List S72} {q : Nat} (ks : List Nat) (m2 : Nat) (hq : q < X.length) : Relk X q ks 0 m2 (-1) (setL (setF X (q : Int) (-1)) (q : Int) (-1)) := by
  refine ⟨by rw [setL_length, setF_length], ?_, fun t h => absurd h (Nat.not_lt_zero _), fun x hx _ => ?_⟩
  · rw [dn_setL _ _ _ _ (by rw [setF_length]; exact hq), dn_setF _ _ _ _ hq, if_pos rfl, if_pos rfl, if_pos rfl]
    rfl
  · rw [dn_setL _ _ _ _ (by rw [setF_length]; exact hq), if_neg hx, dn_setF _ _ _ _ hq, if_neg hx]
section
variable {X : List S72} {q : Nat} {ks : List Nat}
/-- the last of the first m kids, where all are there -/
def lsx (ks : List Nat) (m : Nat) : Int := if m = ks.length ∧ m ≠ 0 then (kx ks (m - 1) : Int) else -1
theorem l17Set_step (hf : Fit X q ks) {m : Nat} (hm : m < ks.length) {Y : List S72} (h : Relk X q ks m ks.length (lsx ks m) Y) :
    Relk X q ks (m + 1) ks.length (lsx ks (m + 1)) ((spec_l17Set.s2 (spec_l17Set.s1 Y (q : Int) (ofN ks) (m : Int)) (q : Int) (ofN ks) (m : Int)).set (rd (ofN ks) (m : Int)).toNat (spec_l17Set.e Y (q : Int) (ofN ks) (m : Int))) := by
  have hl : lsx ks m = -1 := by unfold lsx; rw [if_neg (by omega)]
  have hq : q < Y.length := by rw [h.len]; exact hf.hq
  have e1 : ∀ x, dn (spec_l17Set.s1 Y (q : Int) (ofN ks) (m : Int)) x = if x = q then Qn X q (kx ks 0 : Int) (-1) else dn Y x := by
    intro x
    unfold spec_l17Set.s1
    by_cases h0 : 0 < m
    · rw [if_pos (show (0 : Int) < (m : Int) by omega)]
      by_cases hx : x = q
      · subst hx; rw [if_pos rfl, h.par, hl, if_neg (show ¬ m = 0 by omega)]
      · rw [if_neg hx]
    · have e0 : m = 0 := by omega
      subst e0
      rw [if_neg (show ¬ (0 : Int) < ((0 : Nat) : Int) by omega), dn_setF _ _ _ _ hq, kx_rd hm]
      by_cases hx : x = q
      · rw [if_pos hx, if_pos hx, h.par, hl]; rfl
      · rw [if_neg hx, if_neg hx]
  have l1 : (spec_l17Set.s1 Y (q : Int) (ofN ks) (m : Int)).length = X.length := by
    unfold spec_l17Set.s1; split
    · exact h.len
    · rw [setF_length]; exact h.len
  generalize spec_l17Set.s1 Y (q : Int) (ofN ks) (m : Int) = Y1 at e1 l1
  have e2 : ∀ x, dn (spec_l17Set.s2 Y1 (q : Int) (ofN ks) (m : Int)) x = if x = q then Qn X q (kx ks 0 : Int) (lsx ks (m + 1)) else dn Y x := by
    intro x
    unfold spec_l17Set.s2 lsx
    rw [ofN_length]
    by_cases h0 : m + 1 < ks.length
    · rw [if_pos (show (m : Int) + 1 < (ks.length : Int) by omega), if_neg (show ¬ (m + 1 = ks.length ∧ m + 1 ≠ 0) by omega)]; exact e1 x
    · rw [if_neg (show ¬ (m : Int) + 1 < (ks.length : Int) by omega), if_pos (show m + 1 = ks.length ∧ m + 1 ≠ 0 by omega), dn_setL _ _ _ _ (by rw [l1]; exact hf.hq), kx_rd hm]
      by_cases hx : x = q
      · rw [if_pos hx, if_pos hx, e1, if_pos rfl, Nat.add_sub_cancel]; rfl
      · rw [if_neg hx, if_neg hx, e1, if_neg hx]
  have l2 : (spec_l17Set.s2 Y1 (q : Int) (ofN ks) (m : Int)).length = X.length := by
    unfold spec_l17Set.s2; split
    · exact l1
    · rw [setL_length]; exact l1
  generalize spec_l17Set.s2 Y1 (q : Int) (ofN ks) (m : Int) = Y2 at e2 l2
  have hk : dn Y (kx ks m) = dn X (kx ks m) := h.oth _ (hf.ne m hm) (fun t ht e => by have := hf.inj t m (by omega) hm e; omega)
  have ee : spec_l17Set.e Y (q : Int) (ofN ks) (m : Int) = Nn X q ks m (nxx ks ks.length m) := by
    have ep : spec_l17Set.pv (ofN ks) (m : Int) = pvx ks m := by
      unfold spec_l17Set.pv pvx
      by_cases h0 : m = 0
      · rw [if_neg (by omega), if_pos h0]
      · rw [if_pos (by omega), if_neg h0, show (m : Int) - 1 = ((m - 1 : Nat) : Int) by omega, kx_rd (by omega)]
    have en : spec_l17Set.nx (ofN ks) (m : Int) = nxx ks ks.length m := by
      unfold spec_l17Set.nx nxx
      rw [ofN_length]
      by_cases h0 : m + 1 < ks.length
      · rw [if_pos (by omega), if_pos h0, show (m : Int) + 1 = ((m + 1 : Nat) : Int) by omega, kx_rd h0]
      · rw [if_neg (by omega), if_neg h0]
    unfold spec_l17Set.e Nn
    rw [ep, en, kx_rd hm, rd_dn, hk]
  rw [kx_rd hm, Int.toNat_natCast, ee]
  have ds : ∀ x, dn (Y2.set (kx ks m) (Nn X q ks m (nxx ks ks.length m))) x = if x = kx ks m then Nn X q ks m (nxx ks ks.length m) else dn Y2 x := fun x => dn_set _ _ _ _ (by rw [l2]; exact hf.r m hm)
  refine ⟨by rw [List.length_set]; exact l2, ?_, fun t ht => ?_, fun x hx ht => ?_⟩
  · rw [ds, if_neg (Ne.symm (hf.ne m hm)), e2, if_pos rfl, if_neg (by omega)]
  · rw [ds]
    by_cases e : t = m
    · subst e; rw [if_pos rfl]
    · rw [if_neg (fun e' => e (hf.inj t m (by omega) hm e')), e2, if_neg (hf.ne t (by omega)), h.kid t (by omega)]
  · rw [ds, if_neg (Ne.symm (ht m (by omega))), e2, if_neg hx, h.oth x hx (fun t h1 => ht t (by omega))]
theorem l17Set_l0 (hf : Fit X q ks) (hk : ks.length < 1000000) : ∀ (d m : Nat) (Y : List S72), m + d = ks.length → Relk X q ks m ks.length (lsx ks m) Y → ∃ Z, Ev (fun k => spec_l17Set.l0 k (q : Int) (ofN ks) (m : Int) Y) Z ∧ Relk X q ks ks.length ks.length (lsx ks ks.length) Z := by
  intro d
  induction d with
  | zero =>
    intro m Y h hY
    have e : m = ks.length := by omega
    subst e
    refine ⟨Y, ev_succ ?_, hY⟩
    simp only [spec_l17Set.l0]
    rw [ofN_length]
    exact ev_neg (by omega) (Ev.now _)
  | succ d ih =>
    intro m Y h hY
    have hm : m < ks.length := by omega
    obtain ⟨Z, h1, h2⟩ := ih (m + 1) _ (by omega) (l17Set_step hf hm hY)
    have hr := hf.r m hm
    have hl := hY.len
    refine ⟨Z, ev_succ ?_, h2⟩
    simp only [spec_l17Set.l0]
    rw [ofN_length]
    exact ev_pos (by omega) (ev_pos (by omega) (ev_pos (by omega) (ev_pos (by rw [kx_rd hm]; omega) (ev_pos (by rw [kx_rd hm]; omega) h1))))
/-- the last of the first m kids -/
def lkx (ks : List Nat) (m : Nat) : Int := if m = 0 then -1 else (kx ks (m - 1) : Int)
theorem link_step (hf : Fit X q ks) {m : Nat} (hm : m < ks.length) {Y : List S72} (h : Relk X q ks m m (lkx ks m) Y) :
    Relk X q ks (m + 1) (m + 1) (lkx ks (m + 1)) (setL (impl_Dom_link.b (impl_Dom_link.a Y (q : Int) (rd (ofN ks) (m : Int))) (q : Int) (ofN ks) (m : Int)) (q : Int) (rd (ofN ks) (m : Int))) := by
  rw [kx_rd hm]
  have hr : kx ks m < Y.length := by rw [h.len]; exact hf.r m hm
  have hq : q < Y.length := by rw [h.len]; exact hf.hq
  have hne := hf.ne m hm
  have hk : dn Y (kx ks m) = dn X (kx ks m) := h.oth _ hne (fun t ht e => by have := hf.inj t m (by omega) hm e; omega)
  have ea : ∀ x, dn (impl_Dom_link.a Y (q : Int) (kx ks m : Int)) x = if x = kx ks m then ⟨(dn X (kx ks m)).f0, (dn X (kx ks m)).f1, (q : Int), (dn X (kx ks m)).f3, (dn X (kx ks m)).f4, -1, -1⟩ else dn Y x := by
    intro x
    unfold impl_Dom_link.a
    rw [dn_setN _ _ _ _ (by rw [setV_length, setP_length]; exact hr), dn_setV _ _ _ _ (by rw [setP_length]; exact hr), dn_setV _ _ _ _ (by rw [setP_length]; exact hr), dn_setP _ _ _ _ hr, dn_setP _ _ _ _ hr, if_pos rfl, if_pos rfl, hk]
    by_cases hx : x = kx ks m
    · rw [if_pos hx, if_pos hx]
    · rw [if_neg hx, if_neg hx, if_neg hx, if_neg hx]
  have la := link_a_length Y (q : Int) (kx ks m : Int)
  generalize impl_Dom_link.a Y (q : Int) (kx ks m : Int) = Y1 at ea la
  have hl : lkx ks (m + 1) = (kx ks m : Int) := by unfold lkx; rw [if_neg (by omega), Nat.add_sub_cancel]
  by_cases h0 : m = 0
  · subst h0
    have eb : impl_Dom_link.b Y1 (q : Int) (ofN ks) ((0 : Nat) : Int) = setF Y1 (q : Int) (kx ks 0 : Int) := by unfold impl_Dom_link.b; rw [if_pos (show ((0 : Nat) : Int) = 0 from rfl), kx_rd hm]
    rw [eb]
    have ds : ∀ x, dn (setL (setF Y1 (q : Int) (kx ks 0 : Int)) (q : Int) (kx ks 0 : Int)) x = if x = q then Qn X q (kx ks 0 : Int) (kx ks 0 : Int) else dn Y1 x := by
      intro x
      rw [dn_setL _ _ _ _ (by rw [setF_length, la]; exact hq), dn_setF _ _ _ _ (by rw [la]; exact hq), dn_setF _ _ _ _ (by rw [la]; exact hq), if_pos rfl, ea q, if_neg (Ne.symm hne), h.par]
      by_cases hx : x = q
      · rw [if_pos hx, if_pos hx]; rfl
      · rw [if_neg hx, if_neg hx, if_neg hx]
    refine ⟨by rw [setL_length, setF_length, la]; exact h.len, ?_, fun t ht => ?_, fun x hx ht => ?_⟩
    · rw [ds, if_pos rfl, hl, if_neg (by omega)]
    · have e : t = 0 := by omega
      subst e
      rw [ds, if_neg hne, ea, if_pos rfl]
      unfold Nn pvx nxx
      rw [if_pos rfl, if_neg (by omega)]
    · rw [ds, if_neg hx, ea, if_neg (Ne.symm (ht 0 (by omega))), h.oth x hx (fun t h1 => absurd h1 (Nat.not_lt_zero _))]
  · have hm1 : m - 1 < ks.length := by omega
    have hne1 := hf.ne (m - 1) hm1
    have hr1 : kx ks (m - 1) < Y1.length := by rw [la, h.len]; exact hf.r _ hm1
    have hd1 : kx ks (m - 1) ≠ kx ks m := fun e => by have := hf.inj _ _ hm1 hm e; omega
    have eb : impl_Dom_link.b Y1 (q : Int) (ofN ks) (m : Int) = setN (setV Y1 (kx ks m : Int) (kx ks (m - 1) : Int)) (kx ks (m - 1) : Int) (kx ks m : Int) := by
      unfold impl_Dom_link.b
      rw [if_neg (by omega), show (m : Int) - 1 = ((m - 1 : Nat) : Int) by omega, kx_rd hm, kx_rd hm1]
    rw [eb]
    have ds : ∀ x, dn (setL (setN (setV Y1 (kx ks m : Int) (kx ks (m - 1) : Int)) (kx ks (m - 1) : Int) (kx ks m : Int)) (q : Int) (kx ks m : Int)) x = if x = q then Qn X q (kx ks 0 : Int) (kx ks m : Int) else if x = kx ks (m - 1) then Nn X q ks (m - 1) (kx ks m : Int) else if x = kx ks m then Nn X q ks m (-1) else dn Y1 x := by
      intro x
      rw [dn_setL _ _ _ _ (by rw [setN_length, setV_length, la]; exact hq), dn_setN _ _ _ _ (by rw [setV_length]; exact hr1), dn_setN _ _ _ _ (by rw [setV_length]; exact hr1), dn_setV _ _ _ _ (by rw [la]; exact hr), dn_setV _ _ _ _ (by rw [la]; exact hr), dn_setV _ _ _ _ (by rw [la]; exact hr)]
      rw [if_neg (Ne.symm hne1), if_neg (Ne.symm hne), if_neg hd1, ea q, if_neg (Ne.symm hne), ea (kx ks (m - 1)), if_neg hd1, ea (kx ks m), if_pos rfl, h.par, if_neg h0, h.kid (m - 1) (by omega)]
      by_cases hx : x = q
      · rw [if_pos hx, if_pos hx]; rfl
      · rw [if_neg hx, if_neg hx]
        by_cases hx1 : x = kx ks (m - 1)
        · rw [if_pos hx1, if_pos hx1]; rfl
        · rw [if_neg hx1, if_neg hx1]
          by_cases hx2 : x = kx ks m
          · rw [if_pos hx2, if_pos hx2]
            unfold Nn pvx
            rw [if_neg h0]
          · rw [if_neg hx2, if_neg hx2]
    refine ⟨by rw [setL_length, setN_length, setV_length, la]; exact h.len, ?_, fun t ht => ?_, fun x hx ht => ?_⟩
    · rw [ds, if_pos rfl, hl, if_neg (by omega)]
    · rw [ds, if_neg (hf.ne t (by omega))]
      by_cases e1 : t = m - 1
      · subst e1
        rw [if_pos rfl]
        unfold nxx
        rw [if_pos (by omega), show m - 1 + 1 = m by omega]
      · rw [if_neg (fun e' => e1 (hf.inj t (m - 1) (by omega) hm1 e'))]
        by_cases e2 : t = m
        · subst e2
          rw [if_pos rfl]
          unfold nxx
          rw [if_neg (by omega)]
        · rw [if_neg (fun e' => e2 (hf.inj t m (by omega) hm e')), ea, if_neg (fun e' => e2 (hf.inj t m (by omega) hm e')), h.kid t (by omega)]
          unfold nxx
          rw [if_pos (by omega), if_pos (by omega)]
    · rw [ds, if_neg hx, if_neg (Ne.symm (ht (m - 1) (by omega))), if_neg (Ne.symm (ht m (by omega))), ea, if_neg (Ne.symm (ht m (by omega))), h.oth x hx (fun t h1 => ht t (by omega))]
theorem link_l0 (hf : Fit X q ks) (hk : ks.length < 1000000) : ∀ (d m : Nat) (Y : List S72), m + d = ks.length → Relk X q ks m m (lkx ks m) Y → ∃ Z, Ev (fun k => impl_Dom_link.l0 k (q : Int) (ofN ks) (m : Int) Y) Z ∧ Relk X q ks ks.length ks.length (lkx ks ks.length) Z := by
  intro d
  induction d with
  | zero =>
    intro m Y h hY
    have e : m = ks.length := by omega
    subst e
    refine ⟨Y, ev_succ ?_, hY⟩
    simp only [impl_Dom_link.l0]
    rw [ofN_length]
    exact ev_neg (by omega) (Ev.now _)
  | succ d ih =>
    intro m Y h hY
    have hm : m < ks.length := by omega
    obtain ⟨Z, h1, h2⟩ := ih (m + 1) _ (by omega) (link_step hf hm hY)
    have hr := hf.r m hm
    have hl := hY.len
    refine ⟨Z, ev_succ ?_, h2⟩
    simp only [impl_Dom_link.l0]
    rw [ofN_length]
    refine ev_pos (by omega) (ev_pos (by omega) (ev_pos (by omega) (ev_pos (by rw [kx_rd hm]; omega) (ev_pos (by rw [kx_rd hm]; omega) (ev_pos ?_ h1)))))
    by_cases h0 : m = 0
    · exact .inl (by omega)
    · refine .inr ?_
      have hr1 := hf.r (m - 1) (by omega)
      rw [show (m : Int) - 1 = ((m - 1 : Nat) : Int) by omega, kx_rd (by omega)]
      omega
/-- both ways of relinking come to the same -/
theorem relink_both (hf : Fit X q ks) (hk : ks.length < 1000000) : ∃ Z, Ev (fun k => spec_l17Set.f k X (q : Int) (ofN ks)) Z ∧ Ev (fun k => impl_Dom_link.f k X (q : Int) (ofN ks)) Z ∧ Relk X q ks ks.length ks.length (lkx ks ks.length) Z := by
  have h0 : lsx ks 0 = -1 := by unfold lsx; rw [if_neg (by omega)]
  have h1 : lkx ks 0 = -1 := by unfold lkx; rw [if_pos rfl]
  obtain ⟨Z, e1, r1⟩ := l17Set_l0 hf hk ks.length 0 _ (by omega) (by rw [h0]; exact relk_start ks ks.length hf.hq)
  obtain ⟨Z', e2, r2⟩ := link_l0 hf hk ks.length 0 _ (by omega) (by rw [h1]; exact relk_start ks 0 hf.hq)
  have hl : lsx ks ks.length = lkx ks ks.length := by
    unfold lsx lkx
    by_cases e : ks.length = 0
    · rw [if_neg (by omega), if_pos e]
    · rw [if_pos ⟨rfl, e⟩, if_neg e]
  rw [hl] at r1
  have ez := r1.eq r2
  subst ez
  have hq := hf.hq
  refine ⟨Z, ?_, ?_, r1⟩
  · simp only [spec_l17Set.f]
    exact ev_pos (by omega) (ev_pos (by omega) e1)
  · simp only [impl_Dom_link.f]
    exact ev_pos (by omega) (ev_pos (by omega) e2)
end

/-! #### _isLive -/
theorem isLive_both (D : List S72) (hm : D.length ≤ 1099511627776) (i : Int) : ∃ b, Ev (fun q => spec_l17Live.f q D i) b ∧ Ev (fun q => impl_Dom_isLive.f q D i) b ∧ (b = true → 0 ≤ i ∧ i < (D.length : Int)) := by
  obtain ⟨b1, h1, e1⟩ := spec_DomOk_ev D
  obtain ⟨T, S, b2, h2, e2, _⟩ := walked_all D hm
  have e : b2 = b1 := Bool.eq_iff_iff.2 (e2.trans e1.symm)
  subst e
  have h2' : Ev (fun q => impl_DomOk.f q D) b2 := by
    simp only [impl_DomOk.f]
    exact ev_bind h2 (Ev.now _)
  by_cases hb : b2 = true
  · by_cases hr : 0 ≤ i ∧ i ≤ (D.length : Int) - 1
    · refine ⟨(rd_T72 D i).f0, ?_, ?_, fun _ => by omega⟩
      · simp only [spec_l17Live.f]
        rw [w64 (x := (D.length : Int) - 1) (by omega) (by omega)]
        exact ev_bind h1 (ev_pos hb (ev_bindc (l1In_eq _ _ _) (ev_pos (decide_eq_true hr) (ev_pos (by omega) (ev_pos (by omega) (Ev.now _))))))
      · simp only [impl_Dom_isLive.f]
        rw [w64 (x := (D.length : Int) - 1) (by omega) (by omega)]
        exact ev_bind h2' (ev_pos hb (ev_bindc (within_eq _ _ _) (ev_pos (decide_eq_true hr) (ev_pos (by omega) (ev_pos (by omega) (Ev.now _))))))
    · refine ⟨false, ?_, ?_, fun h => by cases h⟩
      · simp only [spec_l17Live.f]
        rw [w64 (x := (D.length : Int) - 1) (by omega) (by omega)]
        refine ev_bind h1 (ev_pos hb (ev_bindc (l1In_eq _ _ _) ?_))
        rw [decide_eq_false hr]
        exact ev_neg (by decide) (Ev.now _)
      · simp only [impl_Dom_isLive.f]
        rw [w64 (x := (D.length : Int) - 1) (by omega) (by omega)]
        refine ev_bind h2' (ev_pos hb (ev_bindc (within_eq _ _ _) ?_))
        rw [decide_eq_false hr]
        exact ev_neg (by decide) (Ev.now _)
  · refine ⟨false, ?_, ?_, fun h => by cases h⟩
    · simp only [spec_l17Live.f]
      exact ev_bind h1 (ev_neg hb (Ev.now _))
    · simp only [impl_Dom_isLive.f]
      exact ev_bind h2' (ev_neg hb (Ev.now _))

/-! #### _dom -/
theorem live_all (D : List S72) (hm : D.length ≤ 1099511627776) (i : Int) : ∃ b, Ev (fun q => spec_l17Live.f q D i) b ∧ Ev (fun q => impl_Dom_isLive.f q D i) b ∧ (b = true → DomG D ∧ 0 ≤ i ∧ i < (D.length : Int) ∧ (rd_T72 D i).f0 = true) := by
  obtain ⟨b1, h1, e1⟩ := spec_DomOk_ev D
  obtain ⟨b, h2, h3, h4⟩ := isLive_both D hm i
  refine ⟨b, h2, h3, fun hb => ?_⟩
  have hr := h4 hb
  by_cases hb1 : b1 = true
  · have h5 : Ev (fun q => spec_l17Live.f q D i) ((rd_T72 D i).f0) := by
      simp only [spec_l17Live.f]
      rw [w64 (x := (D.length : Int) - 1) (by omega) (by omega)]
      exact ev_bind h1 (ev_pos hb1 (ev_bindc (l1In_eq _ _ _) (ev_pos (decide_eq_true (by omega)) (ev_pos (by omega) (ev_pos (by omega) (Ev.now _))))))
    have h6 := ev_uniq h5 h2
    exact ⟨e1.1 hb1, hr.1, hr.2, h6.trans hb⟩
  · have h5 : Ev (fun q => spec_l17Live.f q D i) false := by
      simp only [spec_l17Live.f]
      exact ev_bind h1 (ev_neg hb1 (Ev.now _))
    have h6 := ev_uniq h5 h2
    rw [hb] at h6
    cases h6
theorem kids_evs (D : List S72) : ∀ {k : Int} {ks : List Nat}, Links.CH (ptr D) k ks → ∀ (acc : List Int), acc.length + ks.length ≤ 1000000 → Ev (fun q => spec_l17Kids.l0 q acc k D) (acc ++ ofN ks) ∧ Ev (fun q => impl_Dom_kids.l0 q acc k D) (acc ++ ofN ks) := by
  intro k ks h
  induction h with
  | nil hk =>
    intro acc _
    refine ⟨ev_succ ?_, ev_succ ?_⟩
    · simp only [spec_l17Kids.l0]
      exact ev_pos hk (ev_some (by simp [ofN]))
    · simp only [impl_Dom_kids.l0]
      exact ev_pos hk (ev_some (by simp [ofN]))
  | @cons k ks c hk hc h1 ih =>
    intro acc hl
    rw [List.length_cons] at hl
    have hc' : c < D.length := hc
    obtain ⟨i1, i2⟩ := ih (acc ++ [(c : Int)]) (by rw [List.length_append, List.length_singleton]; omega)
    have e : (acc ++ [(c : Int)]) ++ ofN ks = acc ++ ofN (c :: ks) := by
      rw [List.append_assoc]
      rfl
    rw [e] at i1 i2
    subst hk
    refine ⟨ev_succ ?_, ev_succ ?_⟩
    · simp only [spec_l17Kids.l0]
      exact ev_neg (by omega) (ev_pos (by omega) (ev_pos (by omega) (ev_pos (by omega) i1)))
    · simp only [impl_Dom_kids.l0]
      exact ev_neg (by omega) (ev_pos (by omega) (ev_pos (by omega) (ev_pos (by omega) i2)))
theorem kids_evf (D : List S72) (i : Nat) (hi : i < D.length) {ks : List Nat} (h : Links.CH (ptr D) ((ptr D).first i) ks) (hl : ks.length ≤ 1000000) : Ev (fun q => spec_l17Kids.f q D (i : Int)) (ofN ks) ∧ Ev (fun q => impl_Dom_kids.f q D (i : Int)) (ofN ks) := by
  obtain ⟨h1, h2⟩ := kids_evs D h [] (by simpa using hl)
  refine ⟨?_, ?_⟩
  · simp only [spec_l17Kids.f]
    exact ev_pos (by omega) (ev_pos (by omega) h1)
  · simp only [impl_Dom_kids.f]
    exact ev_pos (by omega) (ev_pos (by omega) h2)
/-- a node in use is one of the tree's -/
theorem live_in {D : List S72} (hG : DomG D) {i : Nat} (hi : i < D.length) (hv : (dn D i).f0 = true) : ∃ T d, Links.Fam (ptr D) T ∧ (i, d) ∈ T := by
  obtain ⟨L, _, hF, he⟩ := hG.2.2.2.2.fam
  by_cases hm : i ∈ ((0, (0 : Int)) :: L).map Prod.fst
  · obtain ⟨x, hx, rfl⟩ := Links.mem_fst hm
    exact ⟨_, x.2, hF, hx⟩
  · have h : dn D i = emptyN := he i hi hm
    rw [h] at hv
    cases hv
theorem nodup_small {D : List S72} (hG : DomG D) {K : List Nat} (hn : K.Nodup) (hr : ∀ c ∈ K, c < D.length) : K.length ≤ 24 := Nat.le_trans (Links.nodup_le hn hr) hG.1.2
theorem ofN_append (a b : List Nat) : ofN (a ++ b) = ofN a ++ ofN b := by unfold ofN; rw [List.map_append]

end Go.Proofs.Ytdapeboajjidmab.QFnExactDomInsert
