/- What the printed functions of the law FnExactDomInsert come to, function by function, from some number of rounds on; each under the bounds that it names. -/
import Derived.Test.YtdapeboajjidmabQFnExactDomInsertb
namespace Go.Proofs.Ytdapeboajjidmab.QFnExactDomInsert
open Go.RowKit Go.Proofs.Ytdapeboajjidmab.PFnExactDomInsert Go.Proofs.YtdapeboajjidmabW.PrintWords Go.Proofs.YtdapeboajjidmabW.PrintLast Go.Proofs.YtdapeboajjidmabW.PrintMore Go.Proofs.Ytdapeboajjidmab.EvAid Go.Proofs.Ytdapeboajjidmab
set_option linter.unusedVariables false
set_option linter.unusedSimpArgs false

/-! #### impl_DomInsert -/
theorem free_l0 (D : List S72) (hm : D.length ≤ 1000000) : ∀ (d j : Nat), j + d = D.length → (∃ i, j ≤ i ∧ i < D.length ∧ (dn D i).f0 = false ∧ Ev (fun q => spec_l17Free.l0 q (j : Int) D) (i : Int) ∧ Ev (fun q => slices_IndexFunc_DomNode.l0 q D (D.length : Int) (j : Int)) (i : Int)) ∨ ((∀ i, j ≤ i → i < D.length → (dn D i).f0 = true) ∧ Ev (fun q => spec_l17Free.l0 q (j : Int) D) (D.length : Int) ∧ Ev (fun q => slices_IndexFunc_DomNode.l0 q D (D.length : Int) (j : Int)) (-1)) := by
  intro d
  induction d with
  | zero =>
    intro j h
    refine .inr ⟨fun i h1 h2 => by omega, ev_succ ?_, ev_succ ?_⟩
    · simp only [spec_l17Free.l0]
      exact ev_neg (by omega) (Ev.now _)
    · simp only [slices_IndexFunc_DomNode.l0]
      exact ev_neg (by omega) (Ev.now _)
  | succ d ih =>
    intro j h
    by_cases hv : (dn D j).f0 = true
    · have stepS : ∀ {r : Int}, Ev (fun q => spec_l17Free.l0 q ((j + 1 : Nat) : Int) D) r → Ev (fun q => spec_l17Free.l0 q (j : Int) D) r := by
        intro r hr
        refine ev_succ ?_
        simp only [spec_l17Free.l0]
        rw [w64 (x := (j : Int) + 1) (by omega) (by omega), rd_dn]
        exact ev_pos (by omega) (ev_pos (by omega) (ev_pos hv hr))
      have stepI : ∀ {r : Int}, Ev (fun q => slices_IndexFunc_DomNode.l0 q D (D.length : Int) ((j + 1 : Nat) : Int)) r → Ev (fun q => slices_IndexFunc_DomNode.l0 q D (D.length : Int) (j : Int)) r := by
        intro r hr
        refine ev_succ ?_
        simp only [slices_IndexFunc_DomNode.l0]
        rw [w64 (x := (j : Int) + 1) (by omega) (by omega), rd_dn]
        exact ev_pos (by omega) (ev_pos (by omega) (ev_pos (by omega) (ev_bindc rfl (ev_neg (by rw [hv]; decide) hr))))
      rcases ih (j + 1) (by omega) with ⟨i, h1, h2, h3, h4, h5⟩ | ⟨h3, h4, h5⟩
      · exact .inl ⟨i, by omega, h2, h3, stepS h4, stepI h5⟩
      · refine .inr ⟨fun i h1 h2 => ?_, stepS h4, stepI h5⟩
        by_cases e : i = j
        · subst e; exact hv
        · exact h3 i (by omega) h2
    · have hv' : (dn D j).f0 = false := by simpa using hv
      refine .inl ⟨j, Nat.le_refl _, by omega, hv', ev_succ ?_, ev_succ ?_⟩
      · simp only [spec_l17Free.l0]
        rw [rd_dn]
        exact ev_pos (by omega) (ev_pos (by omega) (ev_neg hv (Ev.now _)))
      · simp only [slices_IndexFunc_DomNode.l0]
        rw [rd_dn]
        exact ev_pos (by omega) (ev_pos (by omega) (ev_pos (by omega) (ev_bindc rfl (ev_pos (by rw [hv']; decide) (Ev.now _)))))
/-- where the new node comes, and the tree with room for it -/
theorem room_at {D : List S72} (hG : DomG D) : ∃ (i : Nat) (X : List S72), i < X.length ∧ i ≤ D.length ∧ X.length ≤ 25 ∧ (dn X i) = emptyN ∧ (∀ x, x < D.length → dn X x = dn D x) ∧ D.length ≤ X.length ∧ (i = 24 → X.length = 25) ∧
    Ev (fun q => spec_l17Free.f q D) (i : Int) ∧ ((i < D.length ∧ X = D ∧ Ev (fun q => slices_IndexFunc_DomNode.f q D) (i : Int)) ∨ (i = D.length ∧ X = D ++ [emptyN] ∧ Ev (fun q => slices_IndexFunc_DomNode.f q D) (-1))) := by
  have hl := hG.1.2
  rcases free_l0 D (by omega) D.length 0 (by omega) with ⟨i, _, h2, h3, h4, h5⟩ | ⟨h3, h4, h5⟩
  · have he : dn D i = emptyN := by
      obtain ⟨L, hg, hF, he⟩ := hG.2.2.2.2.fam
      by_cases hm : i ∈ ((0, (0 : Int)) :: L).map Prod.fst
      · exfalso
        obtain ⟨h6, h7, h8⟩ := Links.GT_iff.1 hg
        rw [List.map_cons, List.mem_cons] at hm
        have hv : (dn D i).f0 = true := by
          rcases hm with rfl | hm
          · exact h7.1
          · obtain ⟨x, hx, rfl⟩ := Links.mem_fst hm
            exact (h8 x hx).1
        rw [h3] at hv
        cases hv
      · exact he i h2 hm
    refine ⟨i, D, h2, by omega, by omega, he, fun _ _ => rfl, Nat.le_refl _, fun e => by omega, ?_, .inl ⟨h2, rfl, ?_⟩⟩
    · simp only [spec_l17Free.f]; exact h4
    · simp only [slices_IndexFunc_DomNode.f]; exact h5
  · have hx : (D ++ [emptyN]).length = D.length + 1 := by simp
    refine ⟨D.length, D ++ [emptyN], by omega, Nat.le_refl _, by omega, ?_, fun x hx => ?_, by omega, fun e => by omega, ?_, .inr ⟨rfl, rfl, ?_⟩⟩
    · unfold dn
      rw [List.getD_eq_getElem?_getD, List.getElem?_append_right (Nat.le_refl _), Nat.sub_self]
      rfl
    · unfold dn
      rw [List.getD_eq_getElem?_getD, List.getElem?_append_left hx, ← List.getD_eq_getElem?_getD]
    · simp only [spec_l17Free.f]; exact h4
    · simp only [slices_IndexFunc_DomNode.f]; exact h5
theorem drop_take_ofN (K : List Nat) (a b : Nat) : ((ofN K).take b).drop a = ofN ((K.take b).drop a) := by unfold ofN; rw [← List.map_take, ← List.map_drop]
theorem grow_eq {X : List S72} (h : X.length < 1000000) : l16Grow X = some (X ++ [emptyN]) := by unfold l16Grow; rw [if_pos h]; rfl
/-- the relinking part of both insertions -/
theorem ins_both (D X : List S72) (i p : Nat) (lab : Int) (K : List Nat) (fr ct : Nat) (hD : D.length ≤ 24) (hX : X.length ≤ 25) (hi : i < X.length) (hp : p < X.length) (hip : p ≠ i) (hK : K.Nodup) (hKr : ∀ c ∈ K, c < X.length) (hpK : p ∉ K) (hiK : i ∉ K) (hl : K.length ≤ 24) (h1 : fr + ct ≤ K.length) :
    ∃ (Z : List S72) (b : Bool), Z.length = X.length ∧ (b = true ↔ DomG Z) ∧ Ev (fun k => spec_DomInsert.j2 k (p : Int) (fr : Int) (ct : Int) lab (ofN K) (i : Int) D X) (if b = true then (Z, (i : Int)) else (D, -1)) ∧ Ev (fun k => impl_DomInsert.j2 k (p : Int) (fr : Int) (ct : Int) lab (ofN K) (i : Int) D X) (if b = true then (Z, (i : Int)) else (D, -1)) := by
  have c1 : spec_l16Copy.f D = some D := by
    simp only [spec_l16Copy.f, Option.bind_some, List.nil_append, List.length_nil]
    exact if_pos (by omega)
  have c2 : impl_domCopy.f D = some D := by
    simp only [impl_domCopy.f, slices_Clone_DomNode.f, Option.bind_some, List.nil_append, List.length_nil]
    rw [if_pos (by omega)]
    rfl
  have hsub : ∀ {a b : Nat}, ((K.take b).drop a).Sublist K := fun {a b} => (List.drop_sublist _ _).trans (List.take_sublist _ _)
  obtain ⟨X1, hX1⟩ : ∃ X1, X1 = (X.set i ⟨true, (dn X i).f1, (dn X i).f2, (dn X i).f3, (dn X i).f4, (dn X i).f5, (dn X i).f6⟩) := ⟨_, rfl⟩
  obtain ⟨X2, hX2⟩ : ∃ X2, X2 = (X1.set i ⟨(dn X1 i).f0, lab, (dn X1 i).f2, (dn X1 i).f3, (dn X1 i).f4, (dn X1 i).f5, (dn X1 i).f6⟩) := ⟨_, rfl⟩
  have l2 : X2.length = X.length := by rw [hX2, hX1, List.length_set, List.length_set]
  have hf1 : Fit X2 i ((K.take (fr + ct)).drop fr) := by
    refine Fit.of (by omega) (hK.sublist hsub) (fun c hc => ?_) (fun hc => hiK (hsub.subset hc))
    have := hKr c (hsub.subset hc)
    omega
  obtain ⟨Z1, z1, z2, z3⟩ := relink_both hf1 (by rw [List.length_drop, List.length_take]; omega)
  have lz1 : Z1.length = X.length := z3.len.trans l2
  have hf2 : Fit Z1 p (K.take fr ++ ([i] ++ K.drop (fr + ct))) := by
    refine Fit.of (by omega) ?_ (fun c hc => ?_) (fun hc => ?_)
    · have hsp : (K.take fr ++ K.drop (fr + ct)).Sublist K := by
        have e : K.drop (fr + ct) = (K.drop fr).drop ct := by rw [List.drop_drop]
        have h2 : (K.take fr ++ (K.drop fr).drop ct).Sublist (K.take fr ++ K.drop fr) := List.Sublist.append (List.Sublist.refl _) (List.drop_sublist _ _)
        rw [List.take_append_drop] at h2
        rw [e]; exact h2
      have hnd := hK.sublist hsp
      rw [List.nodup_append] at hnd ⊢
      refine ⟨hnd.1, ?_, fun a ha c hc e => ?_⟩
      · rw [List.singleton_append, List.nodup_cons]
        exact ⟨fun h => hiK (List.mem_of_mem_drop h), hnd.2.1⟩
      · rw [List.singleton_append, List.mem_cons] at hc
        rcases hc with rfl | hc
        · exact hiK (List.mem_of_mem_take (e ▸ ha))
        · exact hnd.2.2 a ha c hc e
    · rcases List.mem_append.1 hc with hc | hc
      · have := hKr c (List.mem_of_mem_take hc); omega
      · rw [List.singleton_append, List.mem_cons] at hc
        rcases hc with rfl | hc
        · omega
        · have := hKr c (List.mem_of_mem_drop hc); omega
    · rcases List.mem_append.1 hc with hc | hc
      · exact hpK (List.mem_of_mem_take hc)
      · rw [List.singleton_append, List.mem_cons] at hc
        rcases hc with e | hc
        · exact hip e
        · exact hpK (List.mem_of_mem_drop hc)
  have hl2 : (K.take fr ++ ([i] ++ K.drop (fr + ct))).length ≤ 25 := by
    simp only [List.length_append, List.length_take, List.length_drop, List.length_singleton]; omega
  obtain ⟨Z2, y1, y2, y3⟩ := relink_both hf2 (by omega)
  have lz2 : Z2.length = X.length := y3.len.trans lz1
  obtain ⟨b, hb1, hb2⟩ := spec_DomOk_ev Z2
  obtain ⟨T, S, b2, hw, hw2, _⟩ := walked_all Z2 (by omega)
  have eb : b2 = b := Bool.eq_iff_iff.2 (hw2.trans hb2.symm)
  subst eb
  have hb3 : Ev (fun q => impl_DomOk.f q Z2) b2 := by
    simp only [impl_DomOk.f]
    exact ev_bind hw (Ev.now _)
  have e0 : ((fr : Int) + (ct : Int)) = ((fr + ct : Nat) : Int) := by omega
  have e1 : ofN K = ofN K := rfl
  have t1 : ((ofN K).take (((fr + ct : Nat) : Int)).toNat).drop ((fr : Int)).toNat = ofN ((K.take (fr + ct)).drop fr) := by rw [Int.toNat_natCast, Int.toNat_natCast, drop_take_ofN]
  have t2 : (ofN K).take ((fr : Int)).toNat = ofN (K.take fr) := by rw [Int.toNat_natCast]; unfold ofN; rw [List.map_take]
  have t3 : (ofN K).drop (((fr + ct : Nat) : Int)).toNat = ofN (K.drop (fr + ct)) := by rw [Int.toNat_natCast]; unfold ofN; rw [List.map_drop]
  refine ⟨Z2, b2, lz2, hb2, ev_succ ?_, ev_succ ?_⟩
  · simp only [spec_DomInsert.j2]
    rw [e0, w64 (x := ((fr + ct : Nat) : Int)) (by omega) (by omega), t1, t2, t3, ofN_length, rd_dn, Int.toNat_natCast, ← hX1]
    refine ev_pos (by omega) (ev_pos (by omega) (ev_bindc rfl (ev_bindc rfl (ev_pos (by omega) (ev_pos (by omega) (ev_pos (by omega) (ev_bindc rfl (ev_pos ?_ (ev_bindc rfl (ev_pos (by omega) (ev_bindc rfl (ev_pos ?_ (ev_bindc rfl (ev_bindc rfl (ev_pos ?_ (ev_bindc rfl (ev_pos (by omega) (ev_bindc rfl (ev_pos ?_ ?_)))))))))))))))))))
    · simp only [ofN_length, List.length_nil, List.length_drop, List.length_take]; omega
    · simp only [ofN_length, List.length_nil, List.length_take]; omega
    · simp only [ofN_length, List.nil_append, List.length_take, List.length_cons, List.length_nil]; omega
    · simp only [ofN_length, List.nil_append, List.length_append, List.length_take, List.length_cons, List.length_nil, List.length_drop]; omega
    · rw [rd_dn, ← hX2, List.nil_append, List.nil_append]
      have ek : (ofN (K.take fr) ++ [(i : Int)]) ++ ofN (K.drop (fr + ct)) = ofN (K.take fr ++ ([i] ++ K.drop (fr + ct))) := by rw [ofN_append, ofN_append, List.append_assoc]; rfl
      rw [ek]
      refine ev_bind z1 (ev_bind y1 (ev_bind hb1 ?_))
      by_cases hb : b2 = true
      · exact ev_eq (r := (Z2, (i : Int))) (ev_pos hb (Ev.now _)) (by rw [if_pos hb])
      · exact ev_eq (r := (D, -1)) (ev_neg hb (ev_bindc c1 (Ev.now _))) (by rw [if_neg hb])
  · simp only [impl_DomInsert.j2]
    rw [e0, w64 (x := ((fr + ct : Nat) : Int)) (by omega) (by omega), t1, t2, t3, ofN_length, rd_dn, Int.toNat_natCast, ← hX1]
    have ek : [ofN (K.take fr), [(i : Int)], ofN (K.drop (fr + ct))].flatten = ofN (K.take fr ++ ([i] ++ K.drop (fr + ct))) := by
      rw [ofN_append, ofN_append]
      simp
      rfl
    have hc := Concat_int_ev [ofN (K.take fr), [(i : Int)], ofN (K.drop (fr + ct))] (by rw [ek, ofN_length]; omega) (by show 3 ≤ 1048576; omega)
    rw [ek] at hc
    refine ev_pos (by omega) (ev_pos (by omega) (ev_bindc rfl (ev_pos (by omega) (ev_pos (by omega) (ev_pos (by omega) ?_)))))
    rw [rd_dn, ← hX2]
    refine ev_bind z2 (ev_pos (by omega) (ev_pos (by omega) (ev_bind hc (ev_bind y2 (ev_bind hb3 ?_)))))
    by_cases hb : b2 = true
    · exact ev_eq (r := (Z2, (i : Int))) (ev_pos hb (Ev.now _)) (by rw [if_pos hb])
    · exact ev_eq (r := (D, -1)) (ev_neg hb (ev_bindc c2 (Ev.now _))) (by rw [if_neg hb])
theorem insert_both (D : List S72) (hm : D.length ≤ 1099511627776) (p fr ct lab : Int) (b1 : -9223372036854775808 ≤ fr ∧ fr ≤ 9223372036854775807) : ∃ R : List S72 × Int, R.1.length ≤ D.length + 1 ∧ Ev (fun k => spec_DomInsert.f k D p fr ct lab) R ∧ Ev (fun k => impl_DomInsert.f k D p fr ct lab) R := by
  obtain ⟨b, h1, h2, hb⟩ := live_all D hm p
  have c1 : spec_l16Copy.f D = some D := by
    simp only [spec_l16Copy.f, Option.bind_some, List.nil_append, List.length_nil]
    exact if_pos (by omega)
  have c2 : impl_domCopy.f D = some D := by
    simp only [impl_domCopy.f, slices_Clone_DomNode.f, Option.bind_some, List.nil_append, List.length_nil]
    rw [if_pos (by omega)]
    rfl
  have badS : Ev (fun k => spec_DomInsert.j0 k p fr ct lab true D D) (D, (-1 : Int)) := by
    refine ev_succ ?_
    simp only [spec_DomInsert.j0]
    exact ev_pos trivial (Ev.now _)
  have badI : Ev (fun k => impl_DomInsert.j0 k p fr ct lab true D) (D, (-1 : Int)) := by
    refine ev_succ ?_
    simp only [impl_DomInsert.j0]
    exact ev_pos trivial (ev_bindc c2 (Ev.now _))
  by_cases hbt : b = true
  · obtain ⟨hG, hp0, hp1, hv⟩ := hb hbt
    obtain ⟨q, rfl⟩ : ∃ q : Nat, p = (q : Int) := ⟨p.toNat, by omega⟩
    have hq : q < D.length := by omega
    by_cases hx : 0 ≤ lab ∧ lab ≤ 5
    · obtain ⟨T, d, hF, hT⟩ := live_in hG hq (show (dn D q).f0 = true from hv)
      obtain ⟨K, hK, hKn, hqK, hKT⟩ := hF.kidsOf hT
      have hKr := hK.range
      have hKl := nodup_small hG hKn hKr
      obtain ⟨kq1, kq2⟩ := kids_evf D q hq hK (by omega)
      have startS : ∀ {R : List S72 × Int}, Ev (fun k => if decide (0 ≤ fr ∧ fr ≤ (K.length : Int)) = true then (spec_l1In.f ct 0 (wrap64 ((K.length : Int) - fr))).bind fun t => spec_DomInsert.j1 k (q : Int) fr ct lab (ofN K) (!t) D D else spec_DomInsert.j1 k (q : Int) fr ct lab (ofN K) true D D) R → Ev (fun k => spec_DomInsert.f k D (q : Int) fr ct lab) R := by
        intro R hR
        simp only [spec_DomInsert.f]
        refine ev_bindc c1 (ev_bind h1 (ev_pos hbt (ev_bindc (spec_LabelOk_eq _) ?_)))
        rw [decide_eq_true hx]
        refine ev_succ ?_
        simp only [spec_DomInsert.j0]
        refine ev_neg (by decide) (ev_bind kq1 ?_)
        rw [ofN_length]
        exact ev_bindc (l1In_eq _ _ _) hR
      have startI : ∀ {R : List S72 × Int}, Ev (fun k => if decide (0 ≤ fr ∧ fr ≤ (K.length : Int)) = true then (impl_within.f ct 0 (wrap64 ((K.length : Int) - fr))).bind fun t => impl_DomInsert.j1 k (q : Int) fr ct lab (ofN K) (!t) D else impl_DomInsert.j1 k (q : Int) fr ct lab (ofN K) true D) R → Ev (fun k => impl_DomInsert.f k D (q : Int) fr ct lab) R := by
        intro R hR
        simp only [impl_DomInsert.f]
        refine ev_bind h2 (ev_pos hbt (ev_bindc (LabelOk_eq _) ?_))
        rw [decide_eq_true hx]
        refine ev_succ ?_
        simp only [impl_DomInsert.j0]
        refine ev_neg (by decide) (ev_bind kq2 ?_)
        rw [ofN_length]
        exact ev_bindc (within_eq _ _ _) hR
      have bad1S : Ev (fun k => spec_DomInsert.j1 k (q : Int) fr ct lab (ofN K) true D D) (D, (-1 : Int)) := by
        refine ev_succ ?_
        simp only [spec_DomInsert.j1]
        exact ev_pos trivial (Ev.now _)
      have bad1I : Ev (fun k => impl_DomInsert.j1 k (q : Int) fr ct lab (ofN K) true D) (D, (-1 : Int)) := by
        refine ev_succ ?_
        simp only [impl_DomInsert.j1]
        exact ev_pos trivial (ev_bindc c2 (Ev.now _))
      by_cases hf : 0 ≤ fr ∧ fr ≤ (K.length : Int)
      · have ew : wrap64 ((K.length : Int) - fr) = (K.length : Int) - fr := w64 (by omega) (by omega)
        by_cases hc : 0 ≤ ct ∧ ct ≤ (K.length : Int) - fr
        · obtain ⟨f, rfl⟩ : ∃ f : Nat, fr = (f : Int) := ⟨fr.toNat, by omega⟩
          obtain ⟨c, rfl⟩ : ∃ c : Nat, ct = (c : Int) := ⟨ct.toNat, by omega⟩
          obtain ⟨i, X, hiX, hiD, hX, heX, hsame, hDX, h24, eF, hI⟩ := room_at hG
          have hqi : q ≠ i := by
            rintro rfl
            rw [hsame q hq] at heX
            have : (dn D q).f0 = true := hv
            rw [heX] at this
            cases this
          have hlive : ∀ {a : Nat} {e : Int}, (a, e) ∈ T → (dn D a).f0 = true := by
            intro a e ha
            obtain ⟨L, hg, hF2, _⟩ := hG.2.2.2.2.fam
            obtain ⟨_, h7, h8⟩ := Links.GT_iff.1 hg
            by_cases h0 : a = 0
            · subst h0; exact h7.1
            · obtain ⟨y, hy, e1, _, _⟩ := hF.up _ ha h0
              have hr : a < D.length := hF.range _ ha
              have hnz : dn D a ≠ emptyN := by
                intro he
                have e2 : (dn D a).f2 = (y.1 : Int) := e1
                rw [he] at e2
                have e3 : (-1 : Int) = (y.1 : Int) := e2
                omega
              have hm : a ∈ ((0, (0 : Int)) :: L).map Prod.fst := by
                apply Classical.byContradiction
                intro hn
                obtain ⟨L', hg', _, he'⟩ := hG.2.2.2.2
                have eL : L' = L := hg'.2.2.2.2.walk.1.det hg.2.2.2.2.walk.1
                subst eL
                exact hnz (he' a hr (by simpa using hn))
              rw [List.map_cons, List.mem_cons] at hm
              rcases hm with rfl | hm
              · exact absurd rfl h0
              · obtain ⟨x, hx, rfl⟩ := Links.mem_fst hm
                exact (h8 x hx).1
          have hiK : i ∉ K := by
            intro hk
            have h3 := hlive (hKT i hk).1
            have hr := hKr i hk
            rw [hsame i hr] at heX
            rw [heX] at h3
            cases h3
          have hKX : ∀ a ∈ K, a < X.length := fun a ha => by have h3 : a < D.length := hKr a ha; omega
          obtain ⟨Z, bz, hZ, hbz, es, ei⟩ := ins_both D X i q lab K f c hG.1.2 hX hiX (by omega) hqi hKn hKX hqK hiK hKl (by omega)
          have eif : Ev (fun k => if decide (0 ≤ (f : Int) ∧ (f : Int) ≤ (K.length : Int)) = true then (impl_within.f (c : Int) 0 (wrap64 ((K.length : Int) - (f : Int)))).bind fun t => impl_DomInsert.j1 k (q : Int) (f : Int) (c : Int) lab (ofN K) (!t) D else impl_DomInsert.j1 k (q : Int) (f : Int) (c : Int) lab (ofN K) true D) (if bz = true then (Z, (i : Int)) else (D, -1)) := by
            refine ev_pos (decide_eq_true hf) (ev_bindc (within_eq _ _ _) ?_)
            rw [ew, decide_eq_true hc]
            refine ev_succ ?_
            simp only [impl_DomInsert.j1]
            refine ev_neg (by decide) (ev_bindc c2 ?_)
            rcases hI with ⟨h5, rfl, h6⟩ | ⟨h5, rfl, h6⟩
            · exact ev_bind h6 (ev_neg (by omega) ei)
            · subst h5
              exact ev_bind h6 (ev_pos (by omega) (ev_bindc (grow_eq (by omega)) ei))
          by_cases hi24 : i = 24
          · have hno : bz = false := by
              have hnz : ¬ DomG Z := fun h => by have := h.1.2; have := h24 hi24; omega
              cases hbb : bz with
              | false => rfl
              | true => exact absurd (hbz.1 hbb) hnz
            rw [if_neg (by rw [hno]; decide)] at eif
            refine ⟨(D, -1), by show D.length ≤ _; omega, startS ?_, startI eif⟩
            refine ev_pos (decide_eq_true hf) (ev_bindc (l1In_eq _ _ _) ?_)
            rw [ew, decide_eq_true hc]
            refine ev_succ ?_
            simp only [spec_DomInsert.j1]
            exact ev_neg (by decide) (ev_bind eF (ev_pos (by omega) (Ev.now _)))
          · refine ⟨_, ?_, startS ?_, startI eif⟩
            · split
              · show Z.length ≤ _
                rcases hI with ⟨h5, rfl, h6⟩ | ⟨h5, rfl, h6⟩
                · omega
                · rw [hZ, List.length_append, List.length_singleton]; exact Nat.le_refl _
              · show D.length ≤ _; omega
            · refine ev_pos (decide_eq_true hf) (ev_bindc (l1In_eq _ _ _) ?_)
              rw [ew, decide_eq_true hc]
              refine ev_succ ?_
              simp only [spec_DomInsert.j1]
              refine ev_neg (by decide) (ev_bind eF (ev_neg (by omega) ?_))
              rcases hI with ⟨h5, rfl, h6⟩ | ⟨h5, rfl, h6⟩
              · exact ev_neg (by omega) es
              · subst h5
                exact ev_pos (by omega) (ev_bindc (grow_eq (by omega)) es)
        · refine ⟨(D, -1), by show D.length ≤ _; omega, startS ?_, startI ?_⟩
          · refine ev_pos (decide_eq_true hf) (ev_bindc (l1In_eq _ _ _) ?_)
            rw [ew, decide_eq_false hc]
            exact bad1S
          · refine ev_pos (decide_eq_true hf) (ev_bindc (within_eq _ _ _) ?_)
            rw [ew, decide_eq_false hc]
            exact bad1I
      · refine ⟨(D, -1), by show D.length ≤ _; omega, startS ?_, startI ?_⟩
        · exact ev_neg (by rw [decide_eq_false hf]; decide) bad1S
        · exact ev_neg (by rw [decide_eq_false hf]; decide) bad1I
    · refine ⟨(D, -1), by show D.length ≤ _; omega, ?_, ?_⟩
      · simp only [spec_DomInsert.f]
        refine ev_bindc c1 (ev_bind h1 (ev_pos hbt (ev_bindc (spec_LabelOk_eq _) ?_)))
        rw [decide_eq_false hx]
        exact badS
      · simp only [impl_DomInsert.f]
        refine ev_bind h2 (ev_pos hbt (ev_bindc (LabelOk_eq _) ?_))
        rw [decide_eq_false hx]
        exact badI
  · refine ⟨(D, -1), by show D.length ≤ _; omega, ?_, ?_⟩
    · simp only [spec_DomInsert.f]
      exact ev_bindc c1 (ev_bind h1 (ev_neg hbt badS))
    · simp only [impl_DomInsert.f]
      exact ev_bind h2 (ev_neg hbt badI)

end Go.Proofs.Ytdapeboajjidmab.QFnExactDomInsert
