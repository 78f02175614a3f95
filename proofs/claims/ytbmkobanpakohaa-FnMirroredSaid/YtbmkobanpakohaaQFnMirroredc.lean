/- What the printed functions of the law FnMirrored come to, function by function, from some number of rounds on; each under the bounds that it names. -/
import Derived.Test.YtbmkobanpakohaaQFnMirroredb
namespace Go.Proofs.Ytbmkobanpakohaa.QFnMirrored
open Go.RowKit Go.Proofs.Ytbmkobanpakohaa.PFnMirrored Go.Proofs.YtbmkobanpakohaaW.PrintWords Go.Proofs.YtbmkobanpakohaaW.PrintLast Go.Proofs.YtbmkobanpakohaaW.PrintMore Go.Proofs.Ytbmkobanpakohaa.EvAid Go.Proofs.Ytbmkobanpakohaa
set_option linter.unusedVariables false
set_option linter.unusedSimpArgs false

/-! #### _mirRose -/
/-- a forest as nodes, in preorder -/
def encS (d : Nat) (F : Dist.Fo) : List S61 := (Tree.enc d F).map (fun x => ⟨x.1, (x.2 : Int)⟩)
theorem encS_app (d : Nat) (A B : Dist.Fo) : encS d (Dist.Fo.app A B) = encS d A ++ encS d B := by unfold encS; rw [Tree.enc_app, List.map_append]
theorem encS_len (d : Nat) (F : Dist.Fo) : (encS d F).length = Dist.Fo.size F := by unfold encS; rw [List.length_map, Tree.enc_length]
theorem encS_lb (d : Nat) (F : Dist.Fo) (j : Nat) (h : j < (Tree.enc d F).length) : lbA (encS d F) j = ((Tree.enc d F)[j]).1 ∧ dpA (encS d F) j = (((Tree.enc d F)[j]).2 : Int) := by
  have e : (encS d F).getD j z61 = ⟨((Tree.enc d F)[j]).1, (((Tree.enc d F)[j]).2 : Int)⟩ := by
    unfold encS
    rw [List.getD_eq_getElem?_getD, List.getElem?_map, List.getElem?_eq_getElem h]
    rfl
  unfold lbA dpA
  rw [e]
  exact ⟨rfl, rfl⟩
theorem encS_seg (v : Int) (k : Dist.Fo) : Tree.Seg (encS 0 (.snoc .nil v k)).length (dpA (encS 0 (.snoc .nil v k))) (lbA (encS 0 (.snoc .nil v k))) 0 0 (.snoc .nil v k) :=
  ⟨by rw [encS_len, Nat.zero_add]; exact Nat.le_refl _, fun j h => by rw [Nat.zero_add]; exact encS_lb 0 _ j h, fun h => by rw [encS_len, Nat.zero_add] at h; exact absurd h (Nat.lt_irrefl _)⟩
/-- each tree is read as one -/
theorem tree_ex {l : List S61} (h : treeOk l = true) : ∃ v k, l = encS 0 (.snoc .nil v k) := by
  obtain ⟨b, hok⟩ := treeOk_iff.1 h
  cases l with
  | nil => simp at b
  | cons x t =>
    have dpx : ∀ j, j < t.length → dpA (x :: t) (j + 1) = dpA t j := fun j _ => rfl
    have h0 := hok 0 (by simp)
    have hx : x.f1 = 0 := by
      have := h0.2.2
      rw [if_pos rfl] at this
      exact this
    obtain ⟨K, hK⟩ := Tree.dec_ex t.length (t.map (fun y => (y.f0, y.f1.toNat))) 1 (by rw [List.length_map]; exact Nat.le_refl _) (fun y hy => by
      obtain ⟨z, hz, rfl⟩ := List.mem_map.1 hy
      obtain ⟨j, hj, rfl⟩ := List.getElem_of_mem hz
      have h1 := (hok (j + 1) (by rw [List.length_cons]; omega)).2.2
      rw [if_neg (by omega)] at h1
      have e : dpA (x :: t) (j + 1) = t[j].f1 := by unfold dpA; simp [hj]
      rw [e] at h1
      show 1 ≤ t[j].f1.toNat
      omega) (fun h1 => by
      rw [List.length_map] at h1
      have h2 := (hok 1 (by rw [List.length_cons]; omega)).2.2
      rw [if_neg (by omega)] at h2
      have e : dpA (x :: t) 1 = t[0].f1 := by unfold dpA; simp [h1]
      have e2 : dpA (x :: t) (1 - 1) = 0 := hx
      rw [e, e2] at h2
      rw [List.getElem_map]
      show t[0].f1.toNat = 1
      omega) (fun i h1 => by
      rw [List.length_map] at h1
      have h2 := (hok (i + 2) (by rw [List.length_cons]; omega)).2.2
      rw [if_neg (by omega)] at h2
      have e : dpA (x :: t) (i + 2) = t[i + 1].f1 := by unfold dpA; simp [h1]
      have e2 : dpA (x :: t) (i + 2 - 1) = t[i].f1 := by
        rw [show i + 2 - 1 = i + 1 by omega]
        unfold dpA
        simp [show i < t.length by omega]
      rw [e, e2] at h2
      rw [List.getElem_map, List.getElem_map]
      show t[i + 1].f1.toNat ≤ t[i].f1.toNat + 1
      omega)
    refine ⟨x.f0, K, ?_⟩
    unfold encS
    rw [Tree.enc, Tree.enc, List.nil_append, List.map_cons, hK, List.map_map]
    refine List.cons_eq_cons.2 ⟨?_, ?_⟩
    · exact node_ext rfl hx
    · have key : t.map ((fun x : Int × Nat => (⟨x.1, (x.2 : Int)⟩ : S61)) ∘ fun y => (y.f0, y.f1.toNat)) = t.map id := by
        refine List.map_congr_left (fun y hy => ?_)
        obtain ⟨j, hj, rfl⟩ := List.getElem_of_mem hy
        have h1 := (hok (j + 1) (by rw [List.length_cons]; omega)).2.1
        have e : dpA (x :: t) (j + 1) = t[j].f1 := by unfold dpA; simp [hj]
        rw [e] at h1
        refine node_ext rfl ?_
        show ((t[j].f1.toNat : Nat) : Int) = t[j].f1
        omega
      rw [key, List.map_id]
theorem mirF_seg {l : List S61} : ∀ (F : Dist.Fo) (s d f : Nat), Dist.Fo.size F ≤ f → Tree.Seg l.length (dpA l) (lbA l) s d F → (Tree.kidsR (dpA l) s (s + Dist.Fo.size F) d).reverse.flatMap (mirF l f) = encS d (Dist.Fo.rev F)
  | .nil, s, d, f, _, _ => by
    rw [Dist.Fo.rev]
    simp [Tree.kidsR, Dist.Fo.size, encS, Tree.enc]
  | .snoc r v k, s, d, f, hf, h => by
    obtain ⟨h1, ⟨h2, h3⟩, h4, h5⟩ := h.parts
    rw [Dist.Fo.size] at hf
    obtain ⟨f, rfl⟩ : ∃ f', f = f' + 1 := ⟨f - 1, by omega⟩
    have i1 := mirF_seg r s d (f + 1) (by omega) h1
    have i2 := mirF_seg k (s + Dist.Fo.size r + 1) (d + 1) f (by omega) h4
    rw [Tree.kidsR_seg h, List.reverse_append, List.flatMap_append, i1, List.reverse_singleton, List.flatMap_singleton, mirF, Tree.kids_seg h, i2, h2, h3, Dist.Fo.rev, encS_app]
    rfl
theorem mirT_enc {l : List S61} (h : treeOk l = true) {v : Int} {k : Dist.Fo} (e : l = encS 0 (.snoc .nil v k)) : mirT l = encS 0 (.snoc .nil v (Dist.Fo.rev k)) := by
  have hs := encS_seg v k
  rw [← e] at hs
  have hl : l.length = Dist.Fo.size (.snoc .nil v k) := by rw [e, encS_len]
  have h1 := mirF_seg (.snoc .nil v k) 0 0 l.length (by rw [hl]; exact Nat.le_refl _) hs
  rw [Tree.kidsR_seg hs] at h1
  have e0 : Tree.kidsR (dpA l) 0 (0 + Dist.Fo.size .nil) 0 = [] := by simp [Tree.kidsR, Dist.Fo.size]
  rw [e0] at h1
  have e1 : Dist.Fo.rev (.snoc .nil v k) = .snoc .nil v (Dist.Fo.rev k) := by rw [Dist.Fo.rev]; rfl
  rw [e1] at h1
  unfold mirT
  rw [if_pos h]
  simpa [Dist.Fo.size] using h1
theorem treeOk_enc {v : Int} {k : Dist.Fo} (h24 : Dist.Fo.size (.snoc .nil v k) ≤ 24) (hin : ∀ x, x ∈ Tree.enc 0 (.snoc .nil v k) → (0 ≤ x.1 ∧ x.1 ≤ 5) ∧ x.2 ≤ 12) : treeOk (encS 0 (.snoc .nil v k)) = true := by
  refine treeOk_iff.2 ⟨⟨by rw [encS_len, Dist.Fo.size]; omega, by rw [encS_len]; exact h24⟩, fun j hj => ?_⟩
  have hl := Tree.enc_length (.snoc .nil v k) 0
  rw [encS_len, ← hl] at hj
  have h1 := encS_lb 0 (.snoc .nil v k) j hj
  have h2 := hin _ (List.getElem_mem hj)
  refine ⟨by rw [h1.1]; exact h2.1, by rw [h1.2]; omega, ?_⟩
  cases j with
  | zero =>
    rw [if_pos rfl, h1.2]
    rfl
  | succ j =>
    rw [if_neg (by omega), Nat.add_sub_cancel, h1.2, (encS_lb 0 (.snoc .nil v k) j (by omega)).2]
    have h3 := Tree.enc_steps (.snoc .nil v k) 0 j hj
    have h4 : (Tree.enc 0 (.snoc .nil v k))[j + 1] ∈ Tree.enc 1 k := by
      have e : (Tree.enc 0 (.snoc .nil v k))[j + 1] = (Tree.enc 1 k)[j]'(by rw [Tree.enc_length] at hj ⊢; simp only [Dist.Fo.size] at hj; omega) := by
        simp [Tree.enc]
      rw [e]
      exact List.getElem_mem _
    have h5 := Tree.enc_deep k 1 _ h4
    omega
theorem enc_in {l : List S61} (h : treeOk l = true) {v : Int} {k : Dist.Fo} (e : l = encS 0 (.snoc .nil v k)) : ∀ x, x ∈ Tree.enc 0 (.snoc .nil v k) → (0 ≤ x.1 ∧ x.1 ≤ 5) ∧ x.2 ≤ 12 := by
  intro x hx
  obtain ⟨j, hj, rfl⟩ := List.getElem_of_mem hx
  have h1 := encS_lb 0 (.snoc .nil v k) j hj
  rw [← e] at h1
  have hl : j < l.length := by rw [e, encS_len, ← Tree.enc_length (.snoc .nil v k) 0]; exact hj
  have h2 := lb_range h hl
  have h3 := dp_range h hl
  rw [h1.1] at h2
  rw [h1.2] at h3
  exact ⟨h2, by omega⟩
theorem mir_treeOk {l : List S61} (h : treeOk l = true) : treeOk (mirT l) = true := by
  obtain ⟨v, k, e⟩ := tree_ex h
  rw [mirT_enc h e]
  have b := (treeOk_iff.1 h).1.2
  rw [e, encS_len, Dist.Fo.size] at b
  refine treeOk_enc (by rw [Dist.Fo.size, Dist.Fo.size_rev]; exact b) (fun x hx => enc_in h e x ?_)
  rw [Tree.enc, Tree.enc, List.nil_append, List.mem_cons] at hx ⊢
  rcases hx with hx | hx
  · exact .inl hx
  · exact .inr ((Tree.enc_rev k 1).mem_iff.1 hx)
theorem mir_mir {l : List S61} (h : treeOk l = true) : mirT (mirT l) = l := by
  obtain ⟨v, k, e⟩ := tree_ex h
  have e2 := mirT_enc h e
  rw [mirT_enc (mir_treeOk h) e2, Dist.Fo.rev_rev, ← e]
theorem mir_perm {l : List S61} (h : treeOk l = true) : (mirT l).Perm l := by
  obtain ⟨v, k, e⟩ := tree_ex h
  rw [mirT_enc h e]
  conv => rhs; rw [e]
  unfold encS
  refine List.Perm.map _ ?_
  rw [Tree.enc, Tree.enc, Tree.enc]
  exact List.Perm.append_left _ (List.Perm.cons _ (Tree.enc_rev k 1))
theorem fo_enc {l : List S61} (h : treeOk l = true) {v : Int} {k : Dist.Fo} (e : l = encS 0 (.snoc .nil v k)) : (ptI l h).fo 0 (l.length - 1) = k ∧ lbA l 0 = v := by
  have hs := encS_seg v k
  rw [← e] at hs
  obtain ⟨_, ⟨h2, h3⟩, h4, _⟩ := hs.parts
  have hl : l.length - 1 = Dist.Fo.size k := by rw [e, encS_len, Dist.Fo.size, Dist.Fo.size]; omega
  have h5 := Tree.fo_seg (treeOk_vd h) (pol_order h) k 1 1 (Nat.le_refl _) h4
  rw [hl]
  simp only [Nat.sub_self, Nat.zero_add] at h5
  exact ⟨h5, h2⟩
theorem rootD_mir {a b : List S61} (ha : treeOk a = true) (hb : treeOk b = true) (D I R : List Int) : rootD (mirT a) (mirT b) D I R = rootD a b D I R := by
  by_cases hc : costB D I R = true
  · have ha2 := mir_treeOk ha
    have hb2 := mir_treeOk hb
    obtain ⟨v, k, e⟩ := tree_ex ha
    obtain ⟨v', k', e'⟩ := tree_ex hb
    rw [rootD_ok ha2 hb2 hc, rootD_ok ha hb hc]
    obtain ⟨f1, f2⟩ := fo_enc ha e
    obtain ⟨f3, f4⟩ := fo_enc hb e'
    obtain ⟨g1, g2⟩ := fo_enc ha2 (mirT_enc ha e)
    obtain ⟨g3, g4⟩ := fo_enc hb2 (mirT_enc hb e')
    rw [f1, f2, f3, f4, g1, g2, g3, g4, Dist.dist_rev]
  · unfold rootD
    rw [dif_neg (fun x => hc x.2.2), dif_neg (fun x => hc x.2.2)]
/-- the leaves of a tree -/
def leavesN (l : List S61) : Nat := ((List.range l.length).filter fun t => decide (Tree.eo l.length (dpA l) t = t + 1)).length
theorem leaves_enc {l : List S61} {v : Int} {k : Dist.Fo} (e : l = encS 0 (.snoc .nil v k)) : leavesN l = Tree.leaves (.snoc .nil v k) := by
  have hs := encS_seg v k
  rw [← e] at hs
  have hl : l.length = Dist.Fo.size (.snoc .nil v k) := by rw [e, encS_len]
  have h1 := Tree.leaves_seg (.snoc .nil v k) 0 0 hs
  unfold leavesN
  rw [List.range_eq_range', hl] at *
  exact h1
theorem leaves_mir {l : List S61} (h : treeOk l = true) : leavesN (mirT l) = leavesN l := by
  obtain ⟨v, k, e⟩ := tree_ex h
  rw [leaves_enc (mirT_enc h e), leaves_enc e]
  have h1 := Tree.leaves_rev (.snoc .nil v k)
  have e1 : Dist.Fo.rev (.snoc .nil v k) = .snoc .nil v (Dist.Fo.rev k) := by rw [Dist.Fo.rev]; rfl
  rw [e1] at h1
  exact h1

/-! #### _leavesH -/
def leavesTo (l : List S61) (t : Nat) : Nat := ((List.range t).filter fun t => decide (Tree.eo l.length (dpA l) t = t + 1)).length
theorem leavesTo_step (l : List S61) (t : Nat) : leavesTo l (t + 1) = leavesTo l t + (if Tree.eo l.length (dpA l) t = t + 1 then 1 else 0) := by
  unfold leavesTo
  rw [List.range_succ, List.filter_append, List.length_append]
  by_cases c : Tree.eo l.length (dpA l) t = t + 1
  · simp [c]
  · simp [c]
theorem leavesTo_le (l : List S61) (t : Nat) : leavesTo l t ≤ t := by
  unfold leavesTo
  have := List.length_filter_le (fun t => decide (Tree.eo l.length (dpA l) t = t + 1)) (List.range t)
  rw [List.length_range] at this
  exact this
theorem impl_LeavesOf_ev {l : List S61} (h : treeOk l = true) : Ev (fun k => impl_LeavesOf.f k l) (leavesN l : Int) := by
  have b := (treeOk_iff.1 h).1
  have key : ∀ d t, t + d = l.length → Ev (fun k => impl_LeavesOf.l0 k l (leavesTo l t : Int) (l.length : Int) (t : Int)) (leavesN l : Int) := by
    intro d
    induction d with
    | zero =>
      intro t ht
      refine ev_succ ?_
      simp only [impl_LeavesOf.l0]
      exact ev_neg (by omega) (ev_some (by rw [show t = l.length by omega]; rfl))
    | succ d ih =>
      intro t ht
      have h2 := ih (t + 1) (by omega)
      have hle := leavesTo_le l t
      rw [leavesTo_step] at h2
      refine ev_succ ?_
      simp only [impl_LeavesOf.l0]
      rw [w64 (x := (t : Int) + 1) (by omega) (by omega), w64 (x := (leavesTo l t : Int) + 1) (by omega) (by omega)]
      refine ev_pos (by omega) (ev_bind (endOf_ev l t (by omega) b.2) ?_)
      by_cases c : Tree.eo l.length (dpA l) t = t + 1
      · rw [if_pos c] at h2
        exact ev_pos (by omega) h2
      · rw [if_neg c] at h2
        exact ev_neg (by omega) h2
  simp only [impl_LeavesOf.f]
  have h1 := impl_TreeOk_ev l
  rw [h] at h1
  exact ev_bind h1 (ev_pos rfl (key l.length 0 (by omega)))
theorem spec_LeavesOf_ev {l : List S61} (h : treeOk l = true) : Ev (fun k => spec_LeavesOf.f k l) (leavesN l : Int) := by
  have b := (treeOk_iff.1 h).1
  have key : ∀ d t, t + d = l.length → Ev (fun k => spec_LeavesOf.l0 k l (leavesTo l t : Int) (t : Int)) (leavesN l : Int) := by
    intro d
    induction d with
    | zero =>
      intro t ht
      refine ev_succ ?_
      simp only [spec_LeavesOf.l0]
      refine ev_neg (by omega) (ev_succ ?_)
      simp only [spec_LeavesOf.j1]
      exact ev_neg (by simp) (ev_some (by rw [show t = l.length by omega]; rfl))
    | succ d ih =>
      intro t ht
      have h2 := ih (t + 1) (by omega)
      have hle := leavesTo_le l t
      rw [leavesTo_step] at h2
      have h1 := spec_TreeOk_ev l (by omega)
      rw [h] at h1
      have hh : hasB l (t : Int) = true := hasB_iff.2 ⟨h, by omega, by omega⟩
      have h5 := spec_EndOf_ev l (t : Int) (by omega)
      have e5 : endI l (t : Int) = (Tree.eo l.length (dpA l) t : Int) := by unfold endI; rw [if_pos hh, Int.toNat_natCast]
      rw [e5] at h5
      refine ev_succ ?_
      simp only [spec_LeavesOf.l0]
      refine ev_pos (by omega) (ev_bind h1 (ev_succ ?_))
      simp only [spec_LeavesOf.j1]
      rw [w64 (x := (t : Int) + 1) (by omega) (by omega), w64 (x := (leavesTo l t : Int) + 1) (by omega) (by omega)]
      refine ev_pos (by simp) (ev_bind h5 ?_)
      by_cases c : Tree.eo l.length (dpA l) t = t + 1
      · rw [if_pos c] at h2
        exact ev_pos (by omega) h2
      · rw [if_neg c] at h2
        exact ev_neg (by omega) h2
  simp only [spec_LeavesOf.f]
  exact key l.length 0 (by omega)
/-- the greatest depth, and one -/
def hgt (l : List S61) : Int := l.foldl (fun h x => mx h (x.f1 + 1)) 0
theorem hgt_snoc (l : List S61) (x : S61) : hgt (l ++ [x]) = mx (hgt l) (x.f1 + 1) := by unfold hgt; rw [List.foldl_append]; rfl
theorem foldl_mx : ∀ (l : List S61) (a : Int), a ≤ l.foldl (fun h x => mx h (x.f1 + 1)) a ∧ (∀ x, x ∈ l → x.f1 + 1 ≤ l.foldl (fun h x => mx h (x.f1 + 1)) a) ∧ ∀ M, a ≤ M → (∀ x, x ∈ l → x.f1 + 1 ≤ M) → l.foldl (fun h x => mx h (x.f1 + 1)) a ≤ M := by
  intro l
  induction l with
  | nil => intro a; exact ⟨Int.le_refl _, fun x h => (nomatch h), fun M h _ => h⟩
  | cons y l ih =>
    intro a
    obtain ⟨h1, h2, h3⟩ := ih (mx a (y.f1 + 1))
    have e : a ≤ mx a (y.f1 + 1) ∧ y.f1 + 1 ≤ mx a (y.f1 + 1) ∧ ∀ M, a ≤ M → y.f1 + 1 ≤ M → mx a (y.f1 + 1) ≤ M := by
      unfold mx
      by_cases c : a < y.f1 + 1
      · rw [if_pos c]; exact ⟨by omega, by omega, fun M h g => g⟩
      · rw [if_neg c]; exact ⟨by omega, by omega, fun M h g => h⟩
    rw [List.foldl_cons]
    refine ⟨by omega, fun x hx => ?_, fun M hM hall => h3 M (e.2.2 M hM (hall y List.mem_cons_self)) (fun x hx => hall x (List.mem_cons_of_mem _ hx))⟩
    rcases List.mem_cons.1 hx with rfl | hx
    · omega
    · exact h2 x hx
theorem hgt_perm {l m : List S61} (h : l.Perm m) : hgt l = hgt m := by
  have key : ∀ l m : List S61, (∀ x, x ∈ l → x ∈ m) → hgt l ≤ hgt m := fun l m hs => (foldl_mx l 0).2.2 (hgt m) (foldl_mx m 0).1 (fun x hx => (foldl_mx m 0).2.1 x (hs x hx))
  have a := key l m (fun x hx => h.mem_iff.1 hx)
  have b := key m l (fun x hx => h.mem_iff.2 hx)
  omega
theorem take_node (l : List S61) (t : Nat) (ht : t < l.length) : l.take (t + 1) = l.take t ++ [⟨lbA l t, dpA l t⟩] := by
  rw [List.take_add_one, List.getElem?_eq_getElem ht, getD_node l t ht]
  rfl
theorem impl_HeightOf_ev {l : List S61} (h : treeOk l = true) : Ev (fun k => impl_HeightOf.f k l) (hgt l) := by
  have b := (treeOk_iff.1 h).1
  have key : ∀ d t, t + d = l.length → Ev (fun k => impl_HeightOf.l0 k (hgt (l.take t)) l (l.length : Int) (t : Int)) (hgt l) := by
    intro d
    induction d with
    | zero =>
      intro t ht
      refine ev_succ ?_
      simp only [impl_HeightOf.l0]
      exact ev_neg (by omega) (ev_some (by rw [show t = l.length by omega, List.take_length]))
    | succ d ih =>
      intro t ht
      have h2 := ih (t + 1) (by omega)
      rw [take_node l t (by omega), hgt_snoc] at h2
      have hd := dp_range h (show t < l.length by omega)
      refine ev_succ ?_
      simp only [impl_HeightOf.l0]
      rw [rd_f1, w64 (x := (t : Int) + 1) (by omega) (by omega), w64 (x := dpA l t + 1) (by omega) (by omega)]
      exact ev_pos (by omega) (ev_pos (by omega) (ev_pos (by omega) h2))
  simp only [impl_HeightOf.f]
  have h1 := impl_TreeOk_ev l
  rw [h] at h1
  exact ev_bind h1 (ev_pos rfl (key l.length 0 (by omega)))
theorem spec_HeightOf_ev {l : List S61} (h : treeOk l = true) : Ev (fun k => spec_HeightOf.f k l) (hgt l) := by
  have b := (treeOk_iff.1 h).1
  have h1 := spec_TreeOk_ev l (by omega)
  rw [h] at h1
  have key : ∀ d t, t + d = l.length → Ev (fun k => spec_HeightOf.l0 k l (hgt (l.take t)) (t : Int)) (hgt l) := by
    intro d
    induction d with
    | zero =>
      intro t ht
      refine ev_succ ?_
      simp only [spec_HeightOf.l0]
      exact ev_neg (by omega) (ev_some (by rw [show t = l.length by omega, List.take_length]))
    | succ d ih =>
      intro t ht
      have h2 := ih (t + 1) (by omega)
      rw [take_node l t (by omega), hgt_snoc] at h2
      have hd := dp_range h (show t < l.length by omega)
      refine ev_succ ?_
      simp only [spec_HeightOf.l0]
      rw [rd_f1, w64 (x := (t : Int) + 1) (by omega) (by omega), w64 (x := dpA l t + 1) (by omega) (by omega)]
      exact ev_pos (by omega) (ev_bind h1 (ev_pos rfl (ev_pos (by omega) h2)))
  simp only [spec_HeightOf.f]
  exact key l.length 0 (by omega)

end Go.Proofs.Ytbmkobanpakohaa.QFnMirrored
