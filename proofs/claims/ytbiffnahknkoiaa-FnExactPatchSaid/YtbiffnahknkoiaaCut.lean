/- A text cut at each sign: as a recursion over its bytes; Lib.splitB at a sign of one byte is that. -/
import Derived.Lib.SplitLaws
import Derived.Lib.PathFns
import Derived.Lib.Join
namespace Go.Proofs.Ytbiffnahknkoiaa.Cut
open Go
set_option linter.unusedVariables false

/-- a text of bytes -/
def mkB (l : List UInt8) : ByteArray := ⟨l.toArray⟩
theorem mkB_list (l : List UInt8) : (mkB l).data.toList = l := by simp [mkB]
theorem mkB_size (l : List UInt8) : (mkB l).size = l.length := by simp [mkB, ByteArray.size]
theorem mkB_of (s : ByteArray) : mkB s.data.toList = s := by simp [mkB]
theorem mkB_app (a b : List UInt8) : mkB (a ++ b) = mkB a ++ mkB b := by apply ByteArray.ext; simp [mkB]
theorem mkB_inj {a b : List UInt8} (h : mkB a = mkB b) : a = b := by have := congrArg (fun s : ByteArray => s.data.toList) h; simpa [mkB] using this
/-- cut at each c -/
def cutL (c : UInt8) : List UInt8 → List (List UInt8)
  | [] => [[]]
  | b :: l => if b = c then [] :: cutL c l else (b :: (cutL c l).headD []) :: (cutL c l).tail
theorem cutL_ne (c : UInt8) (l : List UInt8) : cutL c l ≠ [] := by
  cases l with
  | nil => simp [cutL]
  | cons b l => unfold cutL; split <;> simp
theorem cutL_free (c : UInt8) : ∀ (l : List UInt8), c ∉ l → cutL c l = [l]
  | [], _ => rfl
  | b :: l, h => by
    have h1 : b ≠ c := fun e => h (by simp [e])
    have h2 : c ∉ l := fun e => h (List.mem_cons_of_mem _ e)
    rw [cutL, if_neg h1, cutL_free c l h2]
    rfl
theorem cutL_app (c : UInt8) : ∀ (a b : List UInt8), c ∉ a → cutL c (a ++ c :: b) = a :: cutL c b
  | [], b, _ => by rw [List.nil_append, cutL, if_pos rfl]
  | x :: a, b, h => by
    have h1 : x ≠ c := fun e => h (by simp [e])
    have h2 : c ∉ a := fun e => h (List.mem_cons_of_mem _ e)
    rw [List.cons_append, cutL, if_neg h1, cutL_app c a b h2]
    rfl
theorem cutL_len (c : UInt8) : ∀ (l : List UInt8), (cutL c l).length ≤ l.length + 1
  | [] => Nat.le_refl _
  | b :: l => by
    have h1 := cutL_len c l
    unfold cutL
    split
    · simp; omega
    · simp; omega
theorem mem_le (c : UInt8) : ∀ (l x : List UInt8), x ∈ cutL c l → x.length ≤ l.length
  | [], x, h => by simp [cutL] at h; subst h; exact Nat.le_refl _
  | b :: l, x, h => by
    unfold cutL at h
    split at h
    · rcases List.mem_cons.1 h with h | h
      · subst h; exact Nat.zero_le _
      · have := mem_le c l x h; simp; omega
    · obtain ⟨y, r, e⟩ := List.exists_cons_of_ne_nil (cutL_ne c l)
      rw [e] at h
      rcases List.mem_cons.1 h with h | h
      · subst h
        have := mem_le c l y (by rw [e]; exact List.mem_cons_self)
        simpa using this
      · have := mem_le c l x (by rw [e]; exact List.mem_cons_of_mem _ h)
        simp; omega
/-- pieces joined with c and cut again -/
theorem cutL_join (c : UInt8) : ∀ (x : List UInt8) (r : List (List UInt8)), c ∉ x → (∀ y ∈ r, c ∉ y) → cutL c (Lib.join (x :: r) [c]) = x :: r
  | x, [], h, _ => by rw [Lib.join_one]; exact cutL_free c x h
  | x, y :: r, h, hr => by
    have e : Lib.join (x :: y :: r) [c] = x ++ c :: Lib.join (y :: r) [c] := by simp [Lib.join_cons, Lib.joinTail]
    rw [e, cutL_app c x _ h, cutL_join c y r (hr y List.mem_cons_self) (fun z hz => hr z (List.mem_cons_of_mem _ hz))]
theorem index_free (c : UInt8) : ∀ (l : List UInt8), c ∉ l → Lib.index l [c] = -1
  | [], _ => rfl
  | b :: l, h => by
    have h1 : b ≠ c := fun e => h (by simp [e])
    have h2 : c ∉ l := fun e => h (List.mem_cons_of_mem _ e)
    have hp : ([c] : List UInt8).isPrefixOf (b :: l) = false := by simp [List.isPrefixOf, Ne.symm h1]
    rw [Lib.index, hp, index_free c l h2]
    rfl
theorem index_app (c : UInt8) : ∀ (a b : List UInt8), c ∉ a → Lib.index (a ++ c :: b) [c] = (a.length : Int)
  | [], b, _ => by simp [Lib.index, List.isPrefixOf]
  | x :: a, b, h => by
    have h1 : x ≠ c := fun e => h (by simp [e])
    have h2 : c ∉ a := fun e => h (List.mem_cons_of_mem _ e)
    have hp : ([c] : List UInt8).isPrefixOf (x :: (a ++ c :: b)) = false := by simp [List.isPrefixOf, Ne.symm h1]
    rw [List.cons_append, Lib.index, hp, index_app c a b h2]
    have h3 : ¬ ((a.length : Int) == -1) = true := fun e => by have := beq_iff_eq.1 e; omega
    rw [if_neg Bool.false_ne_true, if_neg h3]
    simp
theorem first_at (c : UInt8) : ∀ (l : List UInt8), c ∈ l → ∃ a b, l = a ++ c :: b ∧ c ∉ a
  | [], h => by cases h
  | x :: l, h => by
    by_cases hx : x = c
    · exact ⟨[], l, by rw [hx]; rfl, by simp⟩
    · obtain ⟨a, b, e, hn⟩ := first_at c l (by rcases List.mem_cons.1 h with h | h; exact absurd h.symm hx; exact h)
      refine ⟨x :: a, b, by rw [e]; rfl, ?_⟩
      intro hm
      rcases List.mem_cons.1 hm with h | h
      · exact hx h.symm
      · exact hn h
theorem splitK_cut (c : UInt8) : ∀ (n : Nat) (l : List UInt8), l.length ≤ n → Lib.splitK [c] 0 (Lib.count l [c]) l = cutL c l := by
  intro n
  induction n with
  | zero =>
    intro l h
    have e : l = [] := List.length_eq_zero_iff.1 (by omega)
    subst e
    rw [Lib.count_miss rfl]
    rfl
  | succ n ih =>
    intro l h
    by_cases hc : c ∈ l
    · obtain ⟨a, b, rfl, hn⟩ := first_at c l hc
      have hi := index_app c a b hn
      have hk := Lib.count_hit (by simp) hi
      have hd : (a ++ c :: b).drop (a.length + 1) = b := by
        rw [← List.drop_drop, List.drop_left]
        rfl
      rw [List.length_singleton, hd] at hk
      rw [hk, Nat.add_comm 1, Lib.splitK, hi]
      have h3 : ¬ ((a.length : Int) == -1) = true := fun e => by have := beq_iff_eq.1 e; omega
      rw [if_neg h3, List.length_singleton, Int.toNat_natCast, hd, cutL_app c a b hn, ih b (by simp at h; omega)]
      simp
    · rw [Lib.count_miss (index_free c l hc), cutL_free c l hc]
      rfl
theorem map_mk (ls : List ByteArray) (r : List (List UInt8)) (h : ls.map (·.data.toList) = r) : ls = r.map mkB := by
  subst h
  rw [List.map_map]
  exact (List.map_id'' (fun s => mkB_of s) ls).symm
theorem splitB_cut (c : UInt8) (s : ByteArray) : Lib.splitB ⟨#[c]⟩ 0 (Lib.countB s ⟨#[c]⟩) s = (cutL c s.data.toList).map mkB := by
  apply map_mk
  rw [Lib.splitB_data]
  exact splitK_cut c _ s.data.toList (Nat.le_refl _)

end Go.Proofs.Ytbiffnahknkoiaa.Cut
