/- slices.Reverse at an element of five cells: the cells of the row's block, told by places; for every row of a block of its own, at whatever capacity. -/
import Derived.Test.YtdapeboajjidmaaProg
import Derived.Shelf.SlicesQ.Reverse
import Derived.Ground.SlgnProg
import Derived.Test.YtdapeboajjidmaaSliceOps
namespace Go.Proofs
open Go.Shelf Go.Lib
def Try.revOp_ren : Go.Shelf.Ren := ⟨fun | 35 => 68 | n => n, fun | 22 => 26 | 23 => 78 | 3 => 3 | 4 => 4 | 0 => 0 | n => n, fun | n => n⟩
theorem Try.revOp : Go.Proofs.SlLaysE0.n35 Try.prog Try.revOp_ren := {
  mixed := by kernel_rfl
  f35 := ⟨Try.f68.name, by decide, Try.func68.trans (congrArg some (by kernel_rfl))⟩
  t0 := Try.underlying0
  a0 := Try.isAgg0
  z0 := Try.sizeOf0
  v0 := Try.zeroValue0
  t3 := Try.underlying3
  a3 := Try.isAgg3
  z3 := Try.sizeOf3
  v3 := Try.zeroValue3
  t4 := Try.underlying4
  a4 := Try.isAgg4
  z4 := Try.sizeOf4
  v4 := Try.zeroValue4
  t22 := Try.underlying26
  a22 := Try.isAgg26
  z22 := Try.sizeOf26
  v22 := Try.zeroValue26 }
end Go.Proofs
namespace Go.Proofs.Ytdapeboajjidmaa.RevOp
open Go.RowKit Go.Lib Go.Sort Go.Proofs.Ytdapeboajjidmaa.SliceOps
set_option linter.unusedVariables false

/-- five cells -/
structure Raw5 where
  l : List Value
  ok : l.length = 5 ∧ ∀ u ∈ l, u.oneCell' = true
instance : Inhabited Raw5 := ⟨⟨List.replicate 5 (.bool true), rfl, fun u hu => by rw [List.eq_of_mem_replicate hu]; rfl⟩⟩
def enc5 (x : Raw5) : List Value := x.1

theorem heap_ahead (w : World) (n : Nat) : (Sort.ahead w n).heap = w.heap := rfl

/-- what is behind a row that was put -/
theorem putRowK_only (w : World) (m g : Nat) (d : Array Raw5) : Only g w (putRowK enc5 5 (Sort.ahead w m) g 0 d) := by
  refine ⟨rfl, rfl, rfl, ?_, fun k hk => ?_⟩
  · show (((Sort.ahead w m).heap).modify g _).size = _
    rw [Array.size_modify]; rfl
  · show (((Sort.ahead w m).heap).modify g _)[k]? = _
    rw [Array.getElem?_modify, if_neg (Ne.symm hk)]; rfl
theorem putRowK_blk (w : World) (m g e : Nat) (cur : Array Value) (d : Array Raw5) (hb : w.heap[g]? = some (.cells cur e (0, 0))) : (putRowK enc5 5 (Sort.ahead w m) g 0 d).heap[g]? = some (.cells (putCells id 0 (flatK enc5 5 d) cur) e (0, 0)) := by
  show (((Sort.ahead w m).heap).modify g _)[g]? = _
  rw [Array.getElem?_modify, if_pos rfl]
  show Option.map _ (w.heap[g]?) = _
  rw [hb]; rfl

theorem reverse_cells (g cap n : Nat) (cur : Array Value) (w : World) (hb : w.heap[g]? = some (.cells cur 78 (0, 0))) (hcs : cur.size = cap * 5) (hnc : n ≤ cap) (hcm : cap ≤ maxLen) (h1 : ∀ u ∈ cur.toList.take (n * 5), u.oneCell' = true) :
    Calls Try.prog 68 #[.slice (some ⟨g, 0, none⟩) n cap] w fun e w' => e = .returned (.tuple #[]) ∧ ∃ cur', w'.heap[g]? = some (.cells cur' 78 (0, 0)) ∧ cur'.size = cap * 5 ∧ Only g w w' ∧ ∀ j c, j < n → c < 5 → cur'[j * 5 + c]? = cur[(n - 1 - j) * 5 + c]? := by
  have hcap : n * 5 ≤ cap * 5 := Nat.mul_le_mul_right 5 hnc
  have hm : cap ≤ 9223372036854775807 := by simp only [maxLen] at hcm; omega
  have hin : ∀ j, j < n → ∀ c, c < 5 → j * 5 + c < n * 5 := fun j hj c hc => by omega
  have seg : ∀ j : Fin n, ((cur.toList.drop (j.1 * 5)).take 5).length = 5 ∧ ∀ u ∈ (cur.toList.drop (j.1 * 5)).take 5, u.oneCell' = true := by
    intro j
    have := j.2
    refine ⟨by rw [List.length_take, List.length_drop, Array.length_toList]; omega, fun u hu => h1 u ?_⟩
    obtain ⟨q, hq, rfl⟩ := List.mem_iff_getElem.1 hu
    rw [List.length_take, List.length_drop, Array.length_toList] at hq
    rw [List.mem_iff_getElem]
    refine ⟨j.1 * 5 + q, by rw [List.length_take, Array.length_toList]; omega, ?_⟩
    simp
  obtain ⟨d, hd⟩ : ∃ d : Array Raw5, d = Array.ofFn (fun j : Fin n => (⟨(cur.toList.drop (j.1 * 5)).take 5, seg j⟩ : Raw5)) := ⟨_, rfl⟩
  have hds : d.size = n := by rw [hd]; simp
  have hget : ∀ j, j < n → ∀ c, c < 5 → (enc5 d[j]!)[c]? = cur[j * 5 + c]? := by
    intro j hj c hc
    rw [getElem!_pos d j (by omega)]
    simp only [hd, Array.getElem_ofFn, enc5]
    rw [List.getElem?_take, if_pos hc, List.getElem?_drop, Array.getElem?_toList]
  have hlen : ∀ x : Raw5, (enc5 x).length = 5 := fun x => x.2.1
  have hH : HoldsK enc5 5 w g 0 d := by
    intro t ht
    rw [size_flatK, hds] at ht
    have hj : t / 5 < n := by omega
    have hc : t % 5 < 5 := Nat.mod_lt _ (by omega)
    have e0 : t / 5 * 5 + t % 5 = t := by omega
    rw [get_flatK _ _ _ _ (by rw [hds]; exact ht)]
    have hg := hget (t / 5) hj (t % 5) hc
    rw [e0] at hg
    have hts : t < cur.size := by omega
    rw [Array.getElem?_eq_getElem hts, List.getElem?_eq_getElem (by rw [hlen]; exact hc)] at hg
    refine ⟨?_, blk_frozen? hb _⟩
    rw [Nat.zero_add, blk_cell? hb, Array.getElem?_eq_getElem hts, getElem!_pos _ _ (by rw [hlen]; exact hc)]
    show some cur[t] = some _
    rw [← Option.some.inj hg]; rfl
  have C := AnyQ.slices_Reverse Try.revOp 5 Try.isAgg78 Try.sizeOf78 enc5 hlen (fun x => x.2.2) g 0 cap d w hH (by omega)
  rw [hds] at C
  change Calls Try.prog 68 _ _ _ at C
  refine C.mono ?_
  rintro e w' ⟨rfl, m, rfl⟩
  refine ⟨rfl, _, putRowK_blk w m g 78 cur d.reverse hb, by simp [putCells, hcs], putRowK_only w m g d.reverse, fun j c hj hc => ?_⟩
  have ht := hin j hj c hc
  have hts : j * 5 + c < cur.size := by omega
  have hrs : d.reverse.size = n := by rw [Array.size_reverse, hds]
  have e1 : (j * 5 + c) / 5 = j := by omega
  have e2 : (j * 5 + c) % 5 = c := by omega
  have e3 : (n - 1 - j) * 5 + c < cur.size := by omega
  simp only [putCells, Array.getElem?_mapIdx]
  rw [Array.getElem?_eq_getElem hts, Option.map_some, if_pos ⟨Nat.zero_le _, by rw [size_flatK, hrs]; omega⟩, Nat.sub_zero, get_flatK _ _ _ _ (by rw [hrs]; exact ht), e1, e2]
  have hg := hget (n - 1 - j) (by omega) c hc
  rw [← hg]
  have e4 : d.reverse[j]! = d[n - 1 - j]! := by
    rw [getElem!_pos d.reverse j (by omega), getElem!_pos d (n - 1 - j) (by omega), Array.getElem_reverse]
    congr 1
    omega
  rw [e4, List.getElem?_eq_getElem (by rw [hlen]; exact hc), getElem!_pos _ _ (by rw [hlen]; exact hc)]
  rfl
end Go.Proofs.Ytdapeboajjidmaa.RevOp
