/- Laid by a program of this session out of the kit's print for the law FnExactPatch: what it says of the machine is proved here, function by function; each contract under the conditions that it names. -/
import Derived.Test.YtbiffnahknkoiaaMFnExactPatchx0
import Derived.Deep.RegionLaw
import Derived.Lib.Overlaps
import Derived.Laws.Externs
import Derived.Lib.AppendZeros
import Derived.Lib.AppendZerosOnto
import Derived.Laws.NewBlocks
import Derived.Lib.SliceRun
import Derived.Test.YtbiffnahknkoiaaSliceOps
namespace Go.Proofs.Ytbiffnahknkoiaa.PFnExactPatch
open Go.RowKit Go.Proofs.YtbiffnahknkoiaaW.PrintWords Go.Proofs.YtbiffnahknkoiaaW.PrintLast Go.Proofs.YtbiffnahknkoiaaW.PrintMore Go.Proofs.Ytbiffnahknkoiaa.SliceOps
attribute [local go_sem] max2_int min2_int max_two min_two max_three min_three max_four min_four   -- for this text's walks alone
set_option linter.unusedVariables false
set_option linter.unusedSimpArgs false

/-! ### slices_Delete_Node: function 95 -/
set_option maxHeartbeats 8000000 in
set_option maxRecDepth 100000 in
theorem slices_Delete_Node.inRow (g cap i j n : Nat) (cur : Array Value) (w : World) (hb : w.heap[g]? = some (.cells cur 45 (0, 0))) (hcs : cur.size = cap * 2) (hnc : n ≤ cap) (hcm : cap ≤ maxLen) (hij : i < j) (hj : j ≤ n)
  (h1 : ∀ u ∈ cur.toList.take (n * 2), u.oneCell' = true) :
  Calls Try.prog 95 #[.slice (some ⟨g, 0, none⟩) n cap, .int .i64 (i : Int), .int .i64 (j : Int)] w fun e w' => e = .returned (.slice (some ⟨g, 0, none⟩) (n - (j - i)) cap) ∧ ∃ cur', w'.heap[g]? = some (.cells cur' 45 (0, 0)) ∧ cur'.size = cap * 2 ∧ Only g w w' ∧ cur'.toList.take ((n - (j - i)) * 2) = cur.toList.take (i * 2) ++ (cur.toList.take (n * 2)).drop (j * 2) := by
 have hm : cap ≤ 9223372036854775807 := by simp only [maxLen] at hcm; omega
 obtain ⟨news, hnews⟩ : ∃ news, news = (cur.toList.take (n * 2)).drop (j * 2) := ⟨_, rfl⟩
 have hlen : news.length = (n - j) * 2 := by rw [hnews, List.length_drop, List.length_take, Array.length_toList]; omega
 have hget : ∀ t, t < (n - j) * 2 → news[t]? = cur[j * 2 + t]? := by
  intro t ht
  rw [hnews, List.getElem?_drop, List.getElem?_take, if_pos (by omega), Array.getElem?_toList]
 obtain ⟨A, hA, hsrc⟩ : ∃ A : Addr, (if cap = j then some (⟨g, 0, none⟩ : Addr) else some ⟨g, j * 2, none⟩) = some A ∧ Hid (∀ t u, news[t]? = some u → w.drew.cell? (A.add t) = some u) := by
  by_cases h : cap = j
  ·refine ⟨⟨g, 0, none⟩, by simp [h], fun t u hu => ?_⟩
   have h0 : news.length = 0 := by rw [hlen]; omega
   rw [List.length_eq_zero_iff.1 h0] at hu
   simp at hu
  ·refine ⟨⟨g, j * 2, none⟩, by simp [h], fun t u hu => ?_⟩
   have ht : t < (n - j) * 2 := by
    have := (List.getElem?_eq_some_iff.1 hu).1
    rwa [hlen] at this
   rw [hget t ht] at hu
   rw [Addr.add_lit]
   show w.cell? _ = _
   rw [blk_cell? hb]
   exact hu
 have s1 : Hid (news.length = (n - j) * 2) := hlen
 have s2 : Hid (∀ u ∈ news, u.oneCell' = true) := by
  intro u hu
  rw [hnews] at hu
  exact h1 u (List.mem_of_mem_drop hu)
 have s3 : Hid (∀ t, t < news.length → (w.drew.cell? ⟨g, 0 + i * 2 + t, none⟩).isSome = true ∧ w.drew.frozen? ⟨g, 0 + i * 2 + t, none⟩ = false) := by
  intro t ht
  rw [hlen] at ht
  refine ⟨?_, blk_frozen? (w := w.drew) hb _⟩
  show (w.cell? _).isSome = true
  rw [blk_cell? hb, Array.getElem?_eq_getElem (by omega)]
  rfl
 obtain ⟨W1, hW1⟩ : ∃ W1, W1 = w.drew.setCells g (0 + i * 2) news := ⟨_, rfl⟩
 have hB1 : W1.heap[g]? = some (.cells (splice cur (0 + i * 2) news) 45 (0, 0)) := by rw [hW1]; exact blk_setCells news (0 + i * 2) w.drew g cur 45 (0, 0) hb
 have hO1 : Only g w W1 := by rw [hW1]; exact (Only.drew g w).trans (only_setCells g news (0 + i * 2) w.drew)
 obtain ⟨cur1, hcur1⟩ : ∃ c, c = splice cur (0 + i * 2) news := ⟨_, rfl⟩
 rw [← hcur1] at hB1
 have hs1 : cur1.size = cap * 2 := by rw [hcur1, splice_size, hcs]
 obtain ⟨zs, hzs⟩ : ∃ z, z = (Builtin.zeroCells (Value.agg #[.int .i64 0, .int .i64 0]).cells (n - (i + (n - j)))).toList := ⟨_, rfl⟩
 have hzl : zs.length = (n - (i + (n - j))) * 2 := by rw [hzs]; simp [Builtin.zeroCells, Value.cells]
 have hz1 : ∀ u ∈ zs, u.oneCell' = true := by
  intro u hu
  rw [hzs] at hu
  simp only [Builtin.zeroCells, Value.cells, Array.toList_map, List.mem_map] at hu
  obtain ⟨k, _, rfl⟩ := hu
  have h2 : k % 2 = 0 ∨ k % 2 = 1 := by omega
  rcases h2 with h2 | h2
  ·simp only [List.size_toArray, List.length_cons, List.length_nil, Nat.reduceAdd, h2]; rfl
  ·simp only [List.size_toArray, List.length_cons, List.length_nil, Nat.reduceAdd, h2]; rfl
 have hcl : ∀ ty, (Builtin.clear_ #[30] ty #[.slice (some ⟨g, (i + (n - j)) * 2, none⟩) (n - (i + (n - j))) (cap - (i + (n - j)))]).run Try.prog W1 = .ok (.tuple #[]) (W1.setCells g ((i + (n - j)) * 2) zs) := by
  intro ty
  rw [hzs]
  refine run_clear_wide W1 _ _ _ _ _ _ ty _ Try.underlying30 ?_ (by rw [← hzs]; exact hz1) (by omega) ?_ ?_
  ·intro W
   rfl
  ·intro t ht
   rw [← hzs, hzl] at ht
   rw [blk_cell? hB1, Array.getElem?_eq_getElem (by omega)]
   rfl
  ·intro t ht
   exact blk_frozen? hB1 _
 have X : Aside0 (W1.heap[g]? = some (.cells cur1 45 (0, 0)) ∧ Only g w W1) := ⟨hB1, hO1⟩
 have hW : Hid (W1 = w.drew.setCells g (0 + i * 2) news) := hW1
 have hic : i ≤ cap := by omega
 have hjc : j ≤ cap := by omega
 have HX := Aside0.mk (And.intro hcs (And.intro hcur1 (And.intro hs1 (And.intro hzl hnews))))
 clear hW1 hO1 hB1 hb hget hnews hlen hcs hcur1 hs1 hzl hzs hz1 h1
 obtain ⟨i0, hi0, hzz⟩ := Option.map_eq_some_iff.1 info45
 simp only [Prod.mk.injEq] at hzz
 obtain ⟨hz0, hz1, hz2⟩ := hzz
 go_enter Try.func95, Try.ntmps95
 go_wp2_with fail
 go_region_law (refine step_append_room rfl (.tmp 22) (.tmp 25) 30 rfl 45 i0 2 Try.underlying30 hi0 hz1 g 0 i cap z152_ A (n - j) (cap - j) news z152_ s1.out hsrc.out s2.out (by omega) s3.out ?_; rw [← hW.out])
 go_wp2
 go_ret
 obtain ⟨hB1, hO1⟩ := X.out
 obtain ⟨hcs, hcur1, hs1, hzl, hnews⟩ := HX.out
 refine ⟨by rw [show n - (j - i) = i + (n - j) by omega]; rfl, splice cur1 ((i + (n - j)) * 2) zs, blk_setCells _ _ _ _ _ _ _ hB1, by rw [splice_size, hs1], hO1.trans (only_setCells _ _ _ _), ?_⟩
 rw [splice_toList _ _ _ (by rw [hzl, hs1]; omega), show n - (j - i) = i + (n - j) by omega, List.append_assoc, List.take_append_of_le_length (by rw [List.length_take, Array.length_toList, hs1]; omega), List.take_take, Nat.min_self, hcur1, splice_toList _ _ _ (by rw [s1.out, hcs]; omega), ← hnews, Nat.zero_add]
 have e1 : (cur.toList.take (i * 2) ++ news).length = (i + (n - j)) * 2 := by rw [List.length_append, s1.out, List.length_take, Array.length_toList, hcs]; omega
 rw [List.take_append_of_le_length (by omega), ← e1, List.take_length]

def slices_Delete_Node.f (l0 : List (S45)) (a1 a2 : Int) : Option ((List (S45))) := if 0 ≤ a1 ∧ a1 ≤ a2 ∧ a2 ≤ (l0.length : Int) then some (l0.take a1.toNat ++ l0.drop a2.toNat) else none

set_option maxHeartbeats 8000000 in
set_option maxRecDepth 100000 in
theorem slices_Delete_Node.idle (A : Option Addr) (c n i : Nat) (w : World) (hi : i ≤ n) (hc : n ≤ c) (hm : c ≤ 9223372036854775807) :
  Calls Try.prog 95 #[.slice A n c, .int .i64 (i : Int), .int .i64 (i : Int)] w fun e w' => e = .returned (.slice A n c) ∧ w' = w := by
 have hic : i ≤ c := by omega
 go_enter Try.func95, Try.ntmps95
 go_wp2
 all_goals (go_ret; exact ⟨rfl, rfl⟩)

theorem slices_Delete_Node.calls (P0_ : Nat → Prop) (u9000_ : Value) (l0 : List (S45)) (a1 : Int) (a2 : Int) (r : List (S45)) (w0 w : World) (hB : Below w0.heap.size w0 w) (ho0 : Kd.R k45 45 w w0.heap.size P0_ u9000_ l0) (h : slices_Delete_Node.f l0 a1 a2 = some r) :
  Calls Try.prog 95 #[u9000_, .int .i64 a1, .int .i64 a2] w fun e w' => ∃ v0_ : Value, e = .returned (v0_) ∧ Kd.R k45 45 w' w0.heap.size (fun k_ => (P0_ k_ ∨ w.heap.size ≤ k_)) v0_ r ∧ Below w0.heap.size w0 w' ∧ Kept w w' (fun k_ => P0_ k_) := by
 have hc : 0 ≤ a1 ∧ a1 ≤ a2 ∧ a2 ≤ (l0.length : Int) := by
  unfold slices_Delete_Node.f at h
  by_cases c : 0 ≤ a1 ∧ a1 ≤ a2 ∧ a2 ≤ (l0.length : Int)
  ·exact c
  ·rw [if_neg c] at h; cases h
 have hr : l0.take a1.toNat ++ l0.drop a2.toNat = r := by unfold slices_Delete_Node.f at h; rw [if_pos hc] at h; exact Option.some.inj h
 clear h
 subst hr
 obtain ⟨i, rfl⟩ : ∃ i : Nat, a1 = i := ⟨a1.toNat, by omega⟩
 obtain ⟨j, rfl⟩ : ∃ j : Nat, a2 = j := ⟨a2.toNat, by omega⟩
 simp only [Int.toNat_natCast]
 have hij : i ≤ j := by omega
 have hj : j ≤ l0.length := by omega
 obtain ⟨A, c, hv, hlc⟩ := Kd.R_reads ho0
 obtain ⟨hok, inner, hown, hreps⟩ := ho0
 by_cases he : i = j
 ·subst he
  rw [List.take_append_drop]
  have hcm : c ≤ 9223372036854775807 := by
   rcases hown.2 with ⟨e1, _⟩ | ⟨g, cap, cur, e1, _, _, _, e2, _⟩
   ·rw [hv] at e1; injection e1 with _ _ e3; omega
   ·rw [hv] at e1; injection e1 with _ _ e3; simp only [maxLen] at e2; omega
  rw [hv]
  refine (slices_Delete_Node.idle A c l0.length i w (by omega) hlc.1 hcm).mono ?_
  rintro e w' ⟨rfl, rfl⟩
  refine ⟨_, rfl, Kd.R_mono (ok := P0_) ⟨fun k hk => hok k (by rw [hv]; exact hk), inner, by rw [← hv]; exact hown, by rw [← hv]; exact hreps⟩ (fun k hk => .inl hk), hB, Kept.refl _ _⟩
 ·rcases hown.2 with ⟨e1, e2⟩ | ⟨g, cap, cur, rfl, hbg, hb, hnc, hcm, hcs, htake⟩
  ·omega
  ·have hcells : ∀ u ∈ cur.toList.take (l0.length * 2), u.oneCell' = true := by rw [show (2 : Nat) = k45.sz from rfl, htake]; exact k45_cells hreps
   refine (slices_Delete_Node.inRow g cap i j l0.length cur w hb hcs hnc hcm (by omega) hj hcells).mono ?_
   rintro e w' ⟨rfl, cur', hb', hcs', hO, hpre⟩
   have hl : (l0.take i ++ l0.drop j).length = l0.length - (j - i) := by rw [List.length_append, List.length_take, List.length_drop]; omega
   have hP : P0_ g := hok g rfl
   refine ⟨_, rfl, ⟨?_, inner.take (i * 2) ++ inner.drop (j * 2), ⟨?_, .inr ⟨g, cap, cur', by rw [hl], hbg, hb', by omega, hcm, hcs', ?_⟩⟩, ?_⟩, hB.trans (hO.below hbg), ⟨by rw [hO.size]; exact Nat.le_refl _, fun k hk hn => hO.block k (fun e => hn (e ▸ hP))⟩⟩
   ·intro k hk
    have : g = k := by simpa [Value.ownBlock] using hk
    exact .inl (this ▸ hP)
   ·have := reps_append (reps_take hreps i) (reps_drop hreps j)
    exact this.1
   ·rw [hl]
    show cur'.toList.take ((l0.length - (j - i)) * 2) = _
    rw [hpre, ← htake]
    show _ = (cur.toList.take (l0.length * 2)).take (i * 2) ++ _
    rw [List.take_take, Nat.min_eq_left (by omega)]
    rfl
   ·exact reps_append (reps_take (hreps.imp_ (fun _ _ h => k45_anyM h)) i) (reps_drop (hreps.imp_ (fun _ _ h => k45_anyM h)) j)

/-! ### slices_Insert_Node: function 96 -/
theorem insert_cells (cur cs vs : List Value) (i n m : Nat) (hv : vs.length = m * 2) (hc : cs.length = (n - i) * 2) (hl : (n + m) * 2 ≤ cur.length) (hi : i ≤ n) :
  ((cur.take ((i + m) * 2) ++ cs ++ cur.drop ((i + m) * 2 + cs.length)).take (i * 2) ++ vs ++ (cur.take ((i + m) * 2) ++ cs ++ cur.drop ((i + m) * 2 + cs.length)).drop (i * 2 + vs.length)).take ((n + m) * 2) = cur.take (i * 2) ++ vs ++ cs := by
 have h1 : (cur.take ((i + m) * 2)).length = (i + m) * 2 := by rw [List.length_take]; omega
 have h3 : (cur.take ((i + m) * 2) ++ cs ++ cur.drop ((i + m) * 2 + cs.length)).take (i * 2) = cur.take (i * 2) := by
  rw [List.append_assoc, List.take_append_of_le_length (by omega), List.take_take, Nat.min_eq_left (by omega)]
 have h4 : (cur.take ((i + m) * 2) ++ cs ++ cur.drop ((i + m) * 2 + cs.length)).drop (i * 2 + vs.length) = cs ++ cur.drop ((i + m) * 2 + cs.length) := by
  rw [hv, show i * 2 + m * 2 = (cur.take ((i + m) * 2)).length by omega, List.append_assoc, List.drop_left]
 rw [h3, h4, ← List.append_assoc]
 have h2 : (cur.take (i * 2) ++ vs ++ cs).length = (n + m) * 2 := by simp only [List.length_append, hv, hc, List.length_take]; omega
 rw [List.take_append_of_le_length (by omega), ← h2, List.take_length]

set_option maxHeartbeats 8000000 in
set_option maxRecDepth 100000 in
theorem slices_Insert_Node.inRow (g cap i n m vb vc : Nat) (cur vcur : Array Value) (vs : List Value) (w : World) (hb : w.heap[g]? = some (.cells cur 45 (0, 0))) (hcs : cur.size = cap * 2) (hcm : cap ≤ maxLen) (hi : i < n) (hm : 0 < m) (hroom : n + m ≤ cap)
  (hvb : w.heap[vb]? = some (.cells vcur 45 (0, 0))) (hne : vb ≠ g) (hvl : vs.length = m * 2) (hvs : vcur.toList.take (m * 2) = vs) (h1 : ∀ u ∈ cur.toList.take (n * 2), u.oneCell' = true) (h1v : ∀ u ∈ vs, u.oneCell' = true) :
  Calls Try.prog 96 #[.slice (some ⟨g, 0, none⟩) n cap, .int .i64 (i : Int), .slice (some ⟨vb, 0, none⟩) m vc] w fun e w' => e = .returned (.slice (some ⟨g, 0, none⟩) (n + m) cap) ∧ ∃ cur', w'.heap[g]? = some (.cells cur' 45 (0, 0)) ∧ cur'.size = cap * 2 ∧ Only g w w' ∧ cur'.toList.take ((n + m) * 2) = cur.toList.take (i * 2) ++ vs ++ (cur.toList.take (n * 2)).drop (i * 2) := by
 have hc63 : cap ≤ 9223372036854775807 := by simp only [maxLen] at hcm; omega
 obtain ⟨cs, hcs'⟩ : ∃ cs, cs = (cur.toList.take (n * 2)).drop (i * 2) := ⟨_, rfl⟩
 have hcl : cs.length = (n - i) * 2 := by rw [hcs', List.length_drop, List.length_take, Array.length_toList]; omega
 have hget : ∀ t, t < (n - i) * 2 → cs[t]? = cur[i * 2 + t]? := by
  intro t ht
  rw [hcs', List.getElem?_drop, List.getElem?_take, if_pos (by omega), Array.getElem?_toList]
 have hz1 : ¬ ((m : Int) = 0) := by omega
 have hz2 : ¬ ((i : Int) = (n : Int)) := by omega
 obtain ⟨i0, hi0, hzz⟩ := Option.map_eq_some_iff.1 info45
 simp only [Prod.mk.injEq] at hzz
 obtain ⟨hi1, hi2, hi3⟩ := hzz
 have hov : ∀ lb cb, (callFunc 109 #[.slice (some ⟨vb, 0, none⟩) m vc, .slice (some ⟨g, (i + m) * 2, none⟩) lb cb]).run Try.prog w = .ok (.value (.bool false)) w := fun lb cb => by
  rw [run_callFunc_extern Try.func109 (by kernel_rfl) (by kernel_rfl) (by kernel_rfl) (e := Extern.SlicesOverlaps.overlaps #[30, 30] #[4]) (by kernel_rfl),
   Lib.run_overlaps_apart w 30 4 45 Try.underlying30 2 (fun W => by rfl) ⟨vb, 0, none⟩ ⟨g, (i + m) * 2, none⟩ m vc lb cb hne 45 45 vcur.size cur.size (shape_of hvb) (shape_of hb) (by omega) (blk_frozen? hvb _) (blk_frozen? hvb _)]
  rfl
 have hw1 : IntKind.i64.wrap ((i : Int) + (m : Int)) = (i : Int) + (m : Int) := by rw [IntKind.wrap_i64]; omega
 have hb1 : (0 : Int) ≤ (i : Int) + (m : Int) := by omega
 have hin : i ≤ n := by omega
 have htn : ((i : Int) + (m : Int)).toNat = i + m := by omega
 have hb2 : ¬ (cap = i + m) := by omega
 have hb3 : (i : Int) ≤ (n : Int) + (m : Int) := by omega
 have hb4 : ¬ (cap = i) := by omega
 have hcp1 : ∀ ty dc sc, (Builtin.copy_ #[30, 30] ty #[.slice (some ⟨g, (i + m) * 2, none⟩) (n + m - (i + m)) dc, .slice (some ⟨g, i * 2, none⟩) (n + m - i) sc]).run Try.prog w.drew = .ok (goInt (Nat.min (n + m - i) (n + m - (i + m)))) (w.drew.setCells g ((i + m) * 2) cs) := fun ty dc sc =>
  run_copy_wide w.drew _ _ ty 45 g ((i + m) * 2) (n + m - (i + m)) dc ⟨g, i * 2, none⟩ (n + m - i) sc cs i0 Try.underlying30 hi0 (by rw [hi2, hcl]; congr 1; simp only [Nat.min_def]; split <;> omega)
   (fun j v hj => by
    have ht : j < (n - i) * 2 := by have := (List.getElem?_eq_some_iff.1 hj).1; rwa [hcl] at this
    rw [Addr.add_lit]
    show w.cell? _ = _
    rw [blk_cell? hb, ← hget j ht]
    exact hj)
   (fun j hj => by
    rw [hcl] at hj
    show (w.cell? _).isSome = true
    rw [blk_cell? hb, Array.getElem?_eq_getElem (by omega)]; rfl)
   (fun j hj => blk_frozen? (w := w.drew) hb _) (fun v hv => h1 v (List.mem_of_mem_drop (by rw [← hcs']; exact hv)))
 obtain ⟨W1, hW1⟩ : ∃ W1, W1 = w.drew.setCells g ((i + m) * 2) cs := ⟨_, rfl⟩
 obtain ⟨cur1, hcur1⟩ : ∃ c, c = splice cur ((i + m) * 2) cs := ⟨_, rfl⟩
 have hB1 : W1.heap[g]? = some (.cells cur1 45 (0, 0)) := by rw [hW1, hcur1]; exact blk_setCells _ _ w.drew g cur 45 (0, 0) hb
 have hO1 : Only g w W1 := by rw [hW1]; exact (Only.drew g w).trans (only_setCells g _ _ w.drew)
 have hs1 : cur1.size = cap * 2 := by rw [hcur1, splice_size, hcs]
 have hvb1 : W1.heap[vb]? = some (.cells vcur 45 (0, 0)) := by rw [hO1.block vb hne]; exact hvb
 have hcp2 : ∀ (W : World), W.heap = W1.heap → ∀ ty dc, (Builtin.copy_ #[30, 30] ty #[.slice (some ⟨g, i * 2, none⟩) (n + m - i) dc, .slice (some ⟨vb, 0, none⟩) m vc]).run Try.prog W = .ok (goInt (Nat.min m (n + m - i))) (W.setCells g (i * 2) vs) := fun W hWh ty dc =>
  run_copy_wide W _ _ ty 45 g (i * 2) (n + m - i) dc ⟨vb, 0, none⟩ m vc vs i0 Try.underlying30 hi0 (by rw [hi2, hvl]; congr 1; simp only [Nat.min_def]; split <;> omega)
   (fun j v hj => by
    rw [Addr.add_lit, blk_cell? (w := W) (cur := vcur) (e := 45) (fr := (0, 0)) (by rw [hWh]; exact hvb1), Nat.zero_add, ← Array.getElem?_toList]
    rw [← hvs, List.getElem?_take] at hj
    split at hj
    ·exact hj
    ·cases hj)
   (fun j hj => by
    rw [hvl] at hj
    rw [blk_cell? (w := W) (cur := cur1) (e := 45) (fr := (0, 0)) (by rw [hWh]; exact hB1), Array.getElem?_eq_getElem (by omega)]; rfl)
   (fun j hj => blk_frozen? (w := W) (cur := cur1) (e := 45) (by rw [hWh]; exact hB1) _) h1v
 rw [← hW1] at hcp1
 have X := Aside0.mk (And.intro hB1 (And.intro hO1 (And.intro hs1 (And.intro hcur1 (And.intro hcs' (And.intro hcs (And.intro hvl hcl)))))))
 clear hB1 hO1 hs1 hcur1 hcs' hcs hvl hb hvb hvs h1 h1v hget hcl hvb1 hW1
 go_enter Try.func96, Try.ntmps96
 go_wp2_with (simp only [hov])
 go_region_law (refine step_copy_run rfl _ _ 30 30 rfl _ _ z152_ z152_ (hcp1 _ _ _) ?_)
 go_wp2_with (at_builtin; refine wpList_copy_run _ rfl _ _ 30 30 rfl _ _ rfl rfl (hcp2 _ rfl _ _) ?_)
 go_ret
 obtain ⟨hB1, hO1, hs1, hcur1, hcs', hcs, hvl, hcl⟩ := X.out
 refine ⟨rfl, splice cur1 (i * 2) vs, blk_setCells _ _ _ _ _ _ _ hB1, by rw [splice_size, hs1], hO1.trans (only_setCells _ _ _ _), ?_⟩
 have hcll := X.out.2.2.2.2.2.2.2
 rw [splice_toList _ _ _ (by rw [hvl, hs1]; omega), hcur1, splice_toList _ _ _ (by rw [hcll, hcs]; omega), ← hcs']
 exact insert_cells cur.toList cs vs i n m hvl hcll (by rw [Array.length_toList, hcs]; omega) (by omega)

set_option maxHeartbeats 8000000 in
set_option maxRecDepth 100000 in
theorem slices_Insert_Node.grow (g cap i n m vb vc : Nat) (cur vcur : Array Value) (vs : List Value) (w : World) (hb : w.heap[g]? = some (.cells cur 45 (0, 0))) (hcs : cur.size = cap * 2) (hi : i < n) (hm : 0 < m) (hnc : n ≤ cap) (hroom : cap < n + m) (hbig : (n + m) * 16 ≤ 140737488355328)
  (hvb : w.heap[vb]? = some (.cells vcur 45 (0, 0))) (hvl : vs.length = m * 2) (hvs : vcur.toList.take (m * 2) = vs) (h1 : ∀ u ∈ cur.toList.take (n * 2), u.oneCell' = true) (h1v : ∀ u ∈ vs, u.oneCell' = true) :
  Calls Try.prog 96 #[.slice (some ⟨g, 0, none⟩) n cap, .int .i64 (i : Int), .slice (some ⟨vb, 0, none⟩) m vc] w fun e w' => ∃ cap', e = .returned (.slice (some ⟨w.heap.size, 0, none⟩) (n + m) cap') ∧ n + m ≤ cap' ∧ cap' ≤ maxLen ∧ ∃ cur', w'.heap[w.heap.size]? = some (.cells cur' 45 (0, 0)) ∧ cur'.size = cap' * 2 ∧ Below w.heap.size w w' ∧ cur'.toList.take ((n + m) * 2) = cur.toList.take (i * 2) ++ vs ++ (cur.toList.take (n * 2)).drop (i * 2) := by
 obtain ⟨cs, hcs'⟩ : ∃ cs, cs = (cur.toList.take (n * 2)).drop (i * 2) := ⟨_, rfl⟩
 have hcl : cs.length = (n - i) * 2 := by rw [hcs', List.length_drop, List.length_take, Array.length_toList]; omega
 have hget : ∀ t, t < (n - i) * 2 → cs[t]? = cur[i * 2 + t]? := by
  intro t ht
  rw [hcs', List.getElem?_drop, List.getElem?_take, if_pos (by omega), Array.getElem?_toList]
 have hz1 : ¬ ((m : Int) = 0) := by omega
 have hz2 : ¬ ((i : Int) = (n : Int)) := by omega
 have hz3 : (cap : Int) < (n : Int) + (m : Int) := by omega
 obtain ⟨i0, hi0, hzz⟩ := Option.map_eq_some_iff.1 info45
 simp only [Prod.mk.injEq] at hzz
 obtain ⟨hi1, hi2, hi3⟩ := hzz
 have hgw : g < w.heap.size := (Array.getElem?_eq_some_iff.1 hb).1
 have hvw : vb < w.heap.size := (Array.getElem?_eq_some_iff.1 hvb).1
 have hkk : (n : Int) + (m : Int) - (i : Int) = ((n + m - i : Nat) : Int) := by omega
 have hik : i + (n + m - i) = n + m := by omega
 have hold : (Builtin.firstCells i0.size i (.slice (some ⟨g, 0, none⟩) i cap)).run Try.prog w.drew = .ok (cur.toList.take (i * 2)).toArray w.drew := by
  rw [hi2]
  exact run_firstCells_some w.drew 2 i ⟨g, 0, none⟩ i cap (cur.toList.take (i * 2)) (by rw [List.length_take, Array.length_toList]; omega) (fun j v hj => by
   rw [Addr.add_lit]
   rw [List.getElem?_take] at hj
   split at hj
   ·show w.cell? _ = _
    rw [blk_cell? hb, Nat.zero_add, ← Array.getElem?_toList]; exact hj
   ·cases hj)
 obtain ⟨G, hG⟩ : ∃ G, G = grownCap w (n + m) cap 45 := ⟨_, rfl⟩
 obtain ⟨ROW, hROW⟩ : ∃ ROW : Array Value, ROW = (cur.toList.take (i * 2)).toArray ++ Builtin.zeroCells (Value.agg #[.int .i64 0, .int .i64 0]).cells (n + m - i) ++ Builtin.zeroCells (Value.agg #[.int .i64 0, .int .i64 0]).cells (G - (n + m)) := ⟨_, rfl⟩
 have hrz : ∀ ty, (Builtin.append_ #[30, 3] ty #[.slice (some ⟨g, 0, none⟩) i cap, .int .i64 ((n : Int) + (m : Int) - (i : Int))]).run Try.prog w =
   .ok (.slice (some ⟨w.heap.size, 0, none⟩) (n + m) G) (w.drew.alloc (.cells ROW 45)) := fun ty => by
  have h := Lib.run_append_grow_zeros w 30 3 ty 45 i0 _ .i64 .i64 Try.underlying30 Try.underlying3 hi0 hi1 (some ⟨g, 0, none⟩) i cap (cur.toList.take (i * 2)) hold (n + m - i) (by omega) (by omega) (by omega) (by omega) (by rw [hi3]; omega) (by rw [hi3, hik]; exact growslice_fits hroom hbig)
  rw [hik] at h
  rw [hkk, hROW, hG]
  exact h
 have hGn : n + m ≤ G := by rw [hG]; exact grownCap_ge w _ _ _
 have hGm : G ≤ maxLen := by rw [hG]; exact grownCap_le_maxLen w (n + m) cap 45 (by unfold maxLen; omega)
 have hG63 : G ≤ 9223372036854775807 := by unfold maxLen at hGm; omega
 have hRs : ROW.size = G * 2 := by
  rw [hROW]
  simp only [Array.size_append, List.size_toArray, size_zeroCells, List.length_take, Array.length_toList, Value.cells]
  simp only [List.length_cons, List.length_nil]
  omega
 have hRt : ROW.toList.take (i * 2) = cur.toList.take (i * 2) := by
  rw [hROW, Array.toList_append, Array.toList_append, List.append_assoc, List.take_append_of_le_length (by simp [hcs]; omega)]
  exact List.take_of_length_le (by rw [List.length_take]; omega)
 obtain ⟨W1, hW1⟩ : ∃ W1, W1 = w.drew.alloc (.cells ROW 45) := ⟨_, rfl⟩
 have hB1 : W1.heap[w.heap.size]? = some (.cells ROW 45 (0, 0)) := by rw [hW1]; exact heap_alloc_new w.drew _
 have hO1 : Below w.heap.size w W1 := by rw [hW1]; exact (Below.refl _ w).drew.alloc (Nat.le_refl _) _
 have hv1 : W1.heap[vb]? = some (.cells vcur 45 (0, 0)) := by rw [hO1.block vb hvw]; exact hvb
 have hg1 : W1.heap[g]? = some (.cells cur 45 (0, 0)) := by rw [hO1.block g hgw]; exact hb
 have hcpA : ∀ (W : World), W.heap = W1.heap → ∀ ty dc, (Builtin.copy_ #[30, 30] ty #[.slice (some ⟨w.heap.size, i * 2, none⟩) (n + m - i) dc, .slice (some ⟨vb, 0, none⟩) m vc]).run Try.prog W = .ok (goInt (Nat.min m (n + m - i))) (W.setCells w.heap.size (i * 2) vs) := fun W hWh ty dc =>
  run_copy_wide W _ _ ty 45 w.heap.size (i * 2) (n + m - i) dc ⟨vb, 0, none⟩ m vc vs i0 Try.underlying30 hi0 (by rw [hi2, hvl]; congr 1; simp only [Nat.min_def]; split <;> omega)
   (fun j v hj => by
    rw [Addr.add_lit, blk_cell? (w := W) (cur := vcur) (e := 45) (fr := (0, 0)) (by rw [hWh]; exact hv1), Nat.zero_add, ← Array.getElem?_toList]
    rw [← hvs, List.getElem?_take] at hj
    split at hj
    ·exact hj
    ·cases hj)
   (fun j hj => by
    rw [hvl] at hj
    rw [blk_cell? (w := W) (cur := ROW) (e := 45) (fr := (0, 0)) (by rw [hWh]; exact hB1), Array.getElem?_eq_getElem (by omega)]; rfl)
   (fun j hj => blk_frozen? (w := W) (cur := ROW) (e := 45) (by rw [hWh]; exact hB1) _) h1v
 have hGi : ¬ (G = i) := by omega
 have hGim : ¬ (G = i + m) := by omega
 have hci : ¬ (cap = i) := by omega
 have hgN : g ≠ w.heap.size := by omega
 have hcpB : ∀ (W : World), W.heap = (W1.setCells w.heap.size (i * 2) vs).heap → ∀ ty dc sc, (Builtin.copy_ #[30, 30] ty #[.slice (some ⟨w.heap.size, (i + m) * 2, none⟩) (n + m - (i + m)) dc, .slice (some ⟨g, i * 2, none⟩) (n - i) sc]).run Try.prog W = .ok (goInt (Nat.min (n - i) (n + m - (i + m)))) (W.setCells w.heap.size ((i + m) * 2) cs) := fun W hWh ty dc sc =>
  run_copy_wide W _ _ ty 45 w.heap.size ((i + m) * 2) (n + m - (i + m)) dc ⟨g, i * 2, none⟩ (n - i) sc cs i0 Try.underlying30 hi0 (by rw [hi2, hcl]; congr 1; simp only [Nat.min_def]; split <;> omega)
   (fun j v hj => by
    have ht : j < (n - i) * 2 := by have := (List.getElem?_eq_some_iff.1 hj).1; rwa [hcl] at this
    rw [Addr.add_lit, blk_cell? (w := W) (cur := cur) (e := 45) (fr := (0, 0)) (by rw [hWh, (only_setCells w.heap.size vs (i * 2) W1).block g hgN]; exact hg1), ← hget j ht]
    exact hj)
   (fun j hj => by
    rw [hcl] at hj
    rw [blk_cell? (w := W) (cur := splice ROW (i * 2) vs) (e := 45) (fr := (0, 0)) (by rw [hWh]; exact blk_setCells _ _ _ _ _ _ _ hB1), Array.getElem?_eq_getElem (by rw [splice_size]; omega)]; rfl)
   (fun j hj => blk_frozen? (w := W) (cur := splice ROW (i * 2) vs) (e := 45) (by rw [hWh]; exact blk_setCells _ _ _ _ _ _ _ hB1) _) (fun v hv => h1 v (List.mem_of_mem_drop (by rw [← hcs']; exact hv)))
 have X := Aside0.mk (And.intro hB1 (And.intro hO1 (And.intro hRs (And.intro hRt (And.intro hcs' (And.intro hcs (And.intro hvl (And.intro hcl (And.intro hGn (And.intro hGm hW1))))))))))
 subst hW1
 have hE : ((w.alloc (.cells ROW 45)).drew).heap = (w.drew.alloc (.cells ROW 45)).heap := rfl
 have hF : (((w.alloc (.cells ROW 45)).drew.setCells w.heap.size (i * 2) vs).drew).heap = ((w.drew.alloc (.cells ROW 45)).setCells w.heap.size (i * 2) vs).heap := rfl
 have hw1 : IntKind.i64.wrap ((i : Int) + (m : Int)) = (i : Int) + (m : Int) := by rw [IntKind.wrap_i64]; omega
 have hb1 : (0 : Int) ≤ (i : Int) + (m : Int) := by omega
 have hin : i ≤ n := by omega
 have htn : ((i : Int) + (m : Int)).toNat = i + m := by omega
 have hb3 : (i : Int) ≤ (n : Int) := by omega
 clear hkk hik hold hROW hG hRs hRt hB1 hO1 hv1 hg1 hcs' hcs hvl hb hvb hvs h1 h1v hget hcl
 go_enter Try.func96, Try.ntmps96
 go_wp2_with (first
  | (at_builtin; refine Lib.wpList_append_run _ rfl _ _ _ _ rfl _ _ rfl rfl _ _ (hrz _) ?_)
  | (at_builtin; refine wpList_copy_run _ rfl _ _ 30 30 rfl _ _ rfl rfl (hcpA _ hE _ _) ?_))
 go_region_law (refine step_copy_run rfl _ _ 30 30 rfl (.slice (some ⟨w.heap.size, (i + m) * 2, none⟩) (n + m - (i + m)) (G - (i + m))) (.slice (some ⟨g, i * 2, none⟩) (n - i) (cap - i)) z152_ z152_ (hcpB _ hF 3 (G - (i + m)) (cap - i)) ?_)
 go_wp2
 go_ret
 obtain ⟨hB1, hO1, hRs, hRt, hcs', hcs, hvl, hcl, hGn, hGm, _⟩ := X.out
 refine ⟨G, rfl, hGn, hGm, splice (splice ROW (i * 2) vs) ((i + m) * 2) cs, ?_, by rw [splice_size, splice_size, hRs], ?_, ?_⟩
 ·exact blk_setCells _ _ _ _ _ _ _ (blk_setCells _ _ _ _ _ _ _ hB1)
 ·have hb1 : Below w.heap.size w ((w.alloc (.cells ROW 45)).drew) := hO1
  exact ((hb1.trans ((only_setCells w.heap.size vs (i * 2) _).below (Nat.le_refl _))).drew).trans ((only_setCells w.heap.size cs ((i + m) * 2) _).below (Nat.le_refl _))
 ·have e1 : (splice ROW (i * 2) vs).toList.take ((i + m) * 2) = cur.toList.take (i * 2) ++ vs := by
   rw [splice_toList _ _ _ (by rw [hvl, hRs]; omega), hRt]
   have h2 : (cur.toList.take (i * 2) ++ vs).length = (i + m) * 2 := by rw [List.length_append, hvl, List.length_take, Array.length_toList, hcs]; omega
   rw [List.take_append_of_le_length (by omega), ← h2, List.take_length]
  rw [splice_toList _ _ _ (by rw [hcl, splice_size, hRs]; omega), e1, ← hcs']
  have h2 : (cur.toList.take (i * 2) ++ vs ++ cs).length = (n + m) * 2 := by simp only [List.length_append, hvl, hcl, List.length_take, Array.length_toList, hcs]; omega
  rw [List.take_append_of_le_length (by omega), ← h2, List.take_length]

def slices_Insert_Node.f (l0 : List (S45)) (a1 : Int) (l2 : List (S45)) : Option ((List (S45))) := if 0 ≤ a1 ∧ a1 ≤ (l0.length : Int) ∧ 0 < l2.length ∧ l0.length + l2.length < 8796093022208 then some (l0.take a1.toNat ++ l2 ++ l0.drop a1.toNat) else none

set_option maxHeartbeats 8000000 in
set_option maxRecDepth 100000 in
theorem slices_Insert_Node.atEnd (P0_ : Nat → Prop) (u9000_ : Value) (l0 : List (S45)) (a1 : Int) (A2 : Option Addr) (c2 : Nat) (l2 : List (S45)) (w0 w : World) (hB : Below w0.heap.size w0 w) (ho0 : Kd.R k45 45 w w0.heap.size P0_ u9000_ l0) (hr2 : Kd.C k45 w A2 l2.length l2) (ha : a1 = (l0.length : Int)) (hm : 0 < l2.length) (hl : l0.length + l2.length < 8796093022208) :
  Calls Try.prog 96 #[u9000_, .int .i64 a1, .slice A2 l2.length c2] w fun e w' => ∃ v0_ : Value, e = .returned (v0_) ∧ Kd.R k45 45 w' w0.heap.size (fun k_ => (P0_ k_ ∨ w.heap.size ≤ k_)) v0_ (l0 ++ l2) ∧ Below w0.heap.size w0 w' ∧ Kept w w' (fun k_ => P0_ k_) := by
 subst ha
 have HO0 := Aside0.mk (show Kd.R k45 45 w w0.heap.size (fun k_ => (P0_ k_ ∨ w.heap.size ≤ k_)) u9000_ l0 from Kd.R_mono ho0 (fun k_ hk => (.inl hk)))
 have HR2 := Aside0.mk hr2
 have HB := Aside0.mk hB
 have HL := Aside0.mk hl
 have hz1 : ¬ ((l2.length : Int) = 0) := by omega
 obtain ⟨A0, c0, hv, hlc, hr0⟩ := Kd.R_reads ho0
 have hcc : ¬ (c0 : Int) < (l0.length : Int) := by omega
 clear hr2 hB hl hr0
 subst hv
 have HP := Aside0.mk ho0
 clear ho0
 rcases A0 with _ | ⟨ab, ao, asp⟩
 all_goals (by_cases hce : c0 = l0.length)
 all_goals (first | subst hce | skip)
 all_goals (
  go_enter Try.func96, Try.ntmps96
  go_wp2_with (first | ((with_reducible refine gate_builtin (b := .append) (xs := #[.tmp 23, .tmp 24]) rfl ?_); at_builtin; refine Kd.R_append_rows k45 (w0 := w0) w0.heap.size rfl (.tmp 23) (.tmp 24) 30 45 (.agg #[(.int .i64 0), (.int .i64 0)]) 16 rfl Try.underlying30 info45 rfl (by decide) (by omega) _ l0 l2 _ _ _ (fun k_ => (P0_ k_ ∨ w.heap.size ≤ k_)) (fun _ => False) rfl rfl ?aO ?aR (fun _ _ h => h) (fun _ h => h.elim) ?aF ?aB ?aS ?aL ?_; (case aR => exact HR2.out); (case aB => exact HB.out); (case aF => exact (fun k_ hk => .inr hk)); (case aO => exact HO0.out); (case aS => exact (below_size HB.out)); (case aL => have := HL.out; omega); intro v516 w5 ho hb hg hat; replace HB := Aside0.mk (hb); have HK := Aside0.mk (Kept.of_grown (S := (fun k_ => P0_ k_)) hg (Kept.refl w (fun k_ => P0_ k_)) (fun k_ e_ => .inl (HP.out.1 k_ e_))); have HO517 := Aside0.mk (ho); clear ho hb hg hat))
  go_ret
  exact ⟨_, rfl, HO517.out, HB.out, HK.out⟩)

theorem slices_Insert_Node.calls (P0_ : Nat → Prop) (u9000_ : Value) (l0 : List (S45)) (a1 : Int) (A2 : Option Addr) (c2 : Nat) (l2 : List (S45)) (r : List (S45)) (w0 w : World) (hB : Below w0.heap.size w0 w) (ho0 : Kd.R k45 45 w w0.heap.size P0_ u9000_ l0) (hr2 : ∃ base2 ok2, Kd.R k45 45 w base2 ok2 (.slice A2 l2.length c2) l2 ∧ ∀ k, ok2 k → ¬ P0_ k) (hc2 : l2.length ≤ c2) (h : slices_Insert_Node.f l0 a1 l2 = some r) :
  Calls Try.prog 96 #[u9000_, .int .i64 a1, .slice A2 l2.length c2] w fun e w' => ∃ v0_ : Value, e = .returned (v0_) ∧ Kd.R k45 45 w' w0.heap.size (fun k_ => (P0_ k_ ∨ w.heap.size ≤ k_)) v0_ r ∧ Below w0.heap.size w0 w' ∧ Kept w w' (fun k_ => P0_ k_) := by
 have hc : 0 ≤ a1 ∧ a1 ≤ (l0.length : Int) ∧ 0 < l2.length ∧ l0.length + l2.length < 8796093022208 := by
  unfold slices_Insert_Node.f at h
  by_cases c : 0 ≤ a1 ∧ a1 ≤ (l0.length : Int) ∧ 0 < l2.length ∧ l0.length + l2.length < 8796093022208
  ·exact c
  ·rw [if_neg c] at h; cases h
 have hr : l0.take a1.toNat ++ l2 ++ l0.drop a1.toNat = r := by unfold slices_Insert_Node.f at h; rw [if_pos hc] at h; exact Option.some.inj h
 clear h
 subst hr
 obtain ⟨i, rfl⟩ : ∃ i : Nat, a1 = i := ⟨a1.toNat, by omega⟩
 simp only [Int.toNat_natCast]
 obtain ⟨h0, hin, hm, hl⟩ := hc
 obtain ⟨base2, ok2, hR2, hap⟩ := hr2
 by_cases hi : i = l0.length
 ·subst hi
  rw [List.take_length, List.drop_length, List.append_nil]
  exact slices_Insert_Node.atEnd P0_ u9000_ l0 _ A2 c2 l2 w0 w hB ho0 (Kd.R_reads' hR2).2.2 rfl hm hl
 ·obtain ⟨hok, inner, hown, hreps⟩ := ho0
  obtain ⟨hok2, inner2, hown2, hreps2⟩ := hR2
  rcases hown.2 with ⟨e1, e2⟩ | ⟨g, cap, cur, rfl, hbg, hb, hnc, hcm, hcs, htake⟩
  ·omega
  rcases hown2.2 with ⟨e1, e2⟩ | ⟨vb, vcap, vcur, e1, hbv, hvb, hnv, hvm, hvs, hvtake⟩
  ·omega
  injection e1 with e1 e2 e3
  subst e1 e3
  have hcells : ∀ u ∈ cur.toList.take (l0.length * 2), u.oneCell' = true := by rw [show (2 : Nat) = k45.sz from rfl, htake]; exact k45_cells hreps
  have hvcells : ∀ u ∈ inner2, u.oneCell' = true := k45_cells hreps2
  have hP : P0_ g := hok g rfl
  have hne : vb ≠ g := fun e => hap vb (hok2 vb rfl) (e ▸ hP)
  have hrl : (l0.take i ++ l2 ++ l0.drop i).length = l0.length + l2.length := by simp only [List.length_append, List.length_take, List.length_drop]; omega
  have hrep : ∀ (w' : World) (base' : Nat) (ok' : Nat → Prop), Reps (k45.M w' base' ok') 2 (l0.take i ++ l2 ++ l0.drop i) (inner.take (i * 2) ++ inner2 ++ inner.drop (i * 2)) := fun w' base' ok' =>
   reps_append (reps_append (reps_take (hreps.imp_ (fun _ _ h => k45_anyM h)) i) (hreps2.imp_ (fun _ _ h => k45_anyM h))) (reps_drop (hreps.imp_ (fun _ _ h => k45_anyM h)) i)
  have hpre : cur.toList.take (i * 2) ++ inner2 ++ (cur.toList.take (l0.length * 2)).drop (i * 2) = inner.take (i * 2) ++ inner2 ++ inner.drop (i * 2) := by
   rw [← htake]
   show _ = (cur.toList.take (l0.length * 2)).take (i * 2) ++ inner2 ++ _
   rw [List.take_take, Nat.min_eq_left (by omega)]
   rfl
  by_cases hroom : l0.length + l2.length ≤ cap
  ·refine (slices_Insert_Node.inRow g cap i l0.length l2.length vb c2 cur vcur inner2 w hb hcs hcm (by omega) hm hroom hvb hne hown2.1 hvtake hcells hvcells).mono ?_
   rintro e w' ⟨rfl, cur', hb', hcs', hO, hpf⟩
   refine ⟨_, rfl, ⟨?_, _, ⟨?_, .inr ⟨g, cap, cur', by rw [hrl], hbg, hb', by omega, hcm, hcs', ?_⟩⟩, hrep _ _ _⟩, hB.trans (hO.below hbg), ⟨by rw [hO.size]; exact Nat.le_refl _, fun k hk hn => hO.block k (fun e => hn (e ▸ hP))⟩⟩
   ·intro k hk
    have : g = k := by simpa [Value.ownBlock] using hk
    exact .inl (this ▸ hP)
   ·exact (hrep w w0.heap.size P0_).1
   ·rw [hrl, ← hpre]
    exact hpf
  ·refine (slices_Insert_Node.grow g cap i l0.length l2.length vb c2 cur vcur inner2 w hb hcs (by omega) hm hnc (by omega) (by omega) hvb hown2.1 hvtake hcells hvcells).mono ?_
   rintro e w' ⟨cap', rfl, hn', hm', cur', hb', hcs', hO, hpf⟩
   refine ⟨_, rfl, ⟨?_, _, ⟨?_, .inr ⟨w.heap.size, cap', cur', by rw [hrl], hB.size, hb', by omega, hm', hcs', ?_⟩⟩, hrep _ _ _⟩, below_then hB hB.size hO, ⟨hO.size, fun k hk hn => hO.block k hk⟩⟩
   ·intro k hk
    have : w.heap.size = k := by simpa [Value.ownBlock] using hk
    exact .inr (by omega)
   ·exact (hrep w w0.heap.size P0_).1
   ·rw [hrl, ← hpre]
    exact hpf

end Go.Proofs.Ytbiffnahknkoiaa.PFnExactPatch
