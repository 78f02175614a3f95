/- Kin in a linked tree: the chain of a node's kids, its parent, and that no node is kin of itself; plain numbers, each fact under the bounds that it names. -/
import Derived.Test.YtdapeboajjidmabLinks
namespace Go.Proofs.Ytdapeboajjidmab.Links
set_option linter.unusedVariables false

/-- the chain of kids from k on -/
inductive CH (p : Ptr) : Int → List Nat → Prop
  | nil {k : Int} : k = -1 → CH p k []
  | cons {k : Int} {ks : List Nat} (c : Nat) : k = (c : Int) → c < p.n → CH p (p.next c) ks → CH p k (c :: ks)

variable {p : Ptr}

theorem CH.det : ∀ {k : Int} {l : List Nat}, CH p k l → ∀ {l' : List Nat}, CH p k l' → l = l' := by
  intro k l h
  induction h with
  | nil hk =>
    intro l' h'
    cases h' with
    | nil _ => rfl
    | cons c hc _ _ => omega
  | cons c hc hn h1 ih =>
    intro l' h'
    cases h' with
    | nil hk => omega
    | cons c' hc' hn' h1' =>
      have e : c' = c := by omega
      subst e
      rw [ih h1']

theorem CH.range : ∀ {k : Int} {l : List Nat}, CH p k l → ∀ c ∈ l, c < p.n := by
  intro k l h
  induction h with
  | nil hk => intro c hc; cases hc
  | cons c hc hn h1 ih =>
    intro x hx
    rcases List.mem_cons.1 hx with rfl | hx
    · exact hn
    · exact ih x hx

/-- what is known of a node on a walk: its kids are one deeper, and it is their parent -/
def Kids (p : Ptr) (L : List (Nat × Int)) (x : Nat × Int) : Prop :=
  ∃ ks, CH p (p.first x.1) ks ∧ (∀ c ∈ ks, (c, x.2 + 1) ∈ L ∧ p.par c = (x.1 : Int)) ∧ ks.Sublist (L.map Prod.fst)
/-- .. and who its parent is -/
def Up (p : Ptr) (L : List (Nat × Int)) (x : Nat × Int) : Prop :=
  ∃ y ∈ L, p.par x.1 = (y.1 : Int) ∧ x.2 = y.2 + 1 ∧ ∀ ks, CH p (p.first y.1) ks → x.1 ∈ ks

theorem GC.kin : ∀ {i lst k dep out : Int} {L : List (Nat × Int)}, GC p i lst k dep L out →
    ∃ ks, CH p k ks ∧ (∀ c ∈ ks, (c, dep) ∈ L ∧ p.par c = i) ∧ ks.Sublist (L.map Prod.fst) ∧ (∀ x ∈ L, Kids p L x) ∧
      ∀ x ∈ L, (x.2 = dep ∧ p.par x.1 = i ∧ x.1 ∈ ks) ∨ Up p L x := by
  intro i lst k dep out L h
  induction h with
  | nil hk => exact ⟨[], .nil hk, (fun c hc => by cases hc), List.Sublist.refl _, (fun x hx => by cases hx), fun x hx => by cases hx⟩
  | @cons i lst k dep out L1 L2 c hc hn hp hv hl hb hd h1 h2 ih1 ih2 =>
    obtain ⟨k1, a1, b1, s1, c1, d1⟩ := ih1
    obtain ⟨k2, a2, b2, s2, c2, d2⟩ := ih2
    have m1 : ∀ {x}, x ∈ L1 → x ∈ (c, dep) :: (L1 ++ L2) := fun h => List.mem_cons_of_mem _ (List.mem_append_left _ h)
    have m2 : ∀ {x}, x ∈ L2 → x ∈ (c, dep) :: (L1 ++ L2) := fun h => List.mem_cons_of_mem _ (List.mem_append_right _ h)
    have e : ((c, dep) :: (L1 ++ L2)).map Prod.fst = c :: (L1.map Prod.fst ++ L2.map Prod.fst) := by simp
    have t1 : (L1.map Prod.fst).Sublist (((c, dep) :: (L1 ++ L2)).map Prod.fst) := by
      rw [e]; exact (List.sublist_append_left _ _).trans (List.sublist_cons_self _ _)
    have t2 : (L2.map Prod.fst).Sublist (((c, dep) :: (L1 ++ L2)).map Prod.fst) := by
      rw [e]; exact (List.sublist_append_right _ _).trans (List.sublist_cons_self _ _)
    refine ⟨c :: k2, .cons c hc hn a2, ?_, ?_, ?_, ?_⟩
    · intro x hx
      rcases List.mem_cons.1 hx with rfl | hx
      · exact ⟨List.mem_cons_self, hp⟩
      · exact ⟨m2 (b2 x hx).1, (b2 x hx).2⟩
    · rw [e]
      exact (s2.trans (List.sublist_append_right _ _)).cons_cons c
    · intro x hx
      rcases List.mem_cons.1 hx with rfl | hx
      · exact ⟨k1, a1, fun y hy => ⟨m1 (b1 y hy).1, (b1 y hy).2⟩, s1.trans t1⟩
      · rcases List.mem_append.1 hx with hx | hx
        · obtain ⟨ks, h3, h4, h5⟩ := c1 x hx
          exact ⟨ks, h3, fun y hy => ⟨m1 (h4 y hy).1, (h4 y hy).2⟩, h5.trans t1⟩
        · obtain ⟨ks, h3, h4, h5⟩ := c2 x hx
          exact ⟨ks, h3, fun y hy => ⟨m2 (h4 y hy).1, (h4 y hy).2⟩, h5.trans t2⟩
    · intro x hx
      rcases List.mem_cons.1 hx with rfl | hx
      · exact .inl ⟨rfl, hp, List.mem_cons_self⟩
      · rcases List.mem_append.1 hx with hx | hx
        · rcases d1 x hx with ⟨h3, h4, h5⟩ | ⟨y, hy, h3, h4, h5⟩
          · exact .inr ⟨(c, dep), List.mem_cons_self, h4, h3, fun ks hks => by rw [hks.det a1]; exact h5⟩
          · exact .inr ⟨y, m1 hy, h3, h4, h5⟩
        · rcases d2 x hx with ⟨h3, h4, h5⟩ | ⟨y, hy, h3, h4, h5⟩
          · exact .inl ⟨h3, h4, List.mem_cons_of_mem _ h5⟩
          · exact .inr ⟨y, m2 hy, h3, h4, h5⟩

/-- in a list of pairs without a repeated first part the second is told by the first -/
theorem depth_one : ∀ {T : List (Nat × Int)}, (T.map Prod.fst).Nodup → ∀ {c : Nat} {d d' : Int}, (c, d) ∈ T → (c, d') ∈ T → d = d' := by
  intro T
  induction T with
  | nil => intro _ c d d' h; cases h
  | cons a T ih =>
    intro hn c d d' h h'
    rw [List.map_cons, List.nodup_cons] at hn
    rcases List.mem_cons.1 h with e1 | h1
    · rcases List.mem_cons.1 h' with e2 | h2
      · exact congrArg Prod.snd (e1.trans e2.symm)
      · exact absurd (List.mem_map.2 ⟨(c, d'), h2, by rw [← e1]⟩ : a.1 ∈ T.map Prod.fst) hn.1
    · rcases List.mem_cons.1 h' with e2 | h2
      · exact absurd (List.mem_map.2 ⟨(c, d), h1, by rw [← e2]⟩ : a.1 ∈ T.map Prod.fst) hn.1
      · exact ih hn.2 h1 h2

/-- a whole linked tree: its nodes with their depths, and who is whose kid -/
structure Fam (p : Ptr) (T : List (Nat × Int)) : Prop where
  nodup : (T.map Prod.fst).Nodup
  root : (0, (0 : Int)) ∈ T
  range : ∀ x ∈ T, x.1 < p.n
  kids : ∀ x ∈ T, Kids p T x
  up : ∀ x ∈ T, x.1 ≠ 0 → Up p T x

theorem OkG.fam {empty : Nat → Prop} (h : OkG p empty) : ∃ L, GT p 0 0 L ∧ Fam p ((0, 0) :: L) ∧ ∀ i, i < p.n → i ∉ ((0, (0 : Int)) :: L).map Prod.fst → empty i := by
  obtain ⟨L, hg, hd, he⟩ := h
  have hg' := hg
  obtain ⟨h1, h2, h3, h4, h5⟩ := hg'
  obtain ⟨ks, a, b, s, c, d⟩ := h5.kin
  have e0 : ((0 : Nat) : Int) = 0 := rfl
  have t : (L.map Prod.fst).Sublist (((0, (0 : Int)) :: L).map Prod.fst) := by rw [List.map_cons]; exact List.sublist_cons_self _ _
  refine ⟨L, hg, ⟨hd, List.mem_cons_self, ?_, ?_, ?_⟩, he⟩
  · intro x hx
    rcases List.mem_cons.1 hx with rfl | hx
    · exact h1
    · exact h5.walk.1.range x hx
  · intro x hx
    rcases List.mem_cons.1 hx with rfl | hx
    · exact ⟨ks, a, fun y hy => ⟨List.mem_cons_of_mem _ (b y hy).1, (b y hy).2⟩, s.trans t⟩
    · obtain ⟨k', h6, h7, h8⟩ := c x hx
      exact ⟨k', h6, fun y hy => ⟨List.mem_cons_of_mem _ (h7 y hy).1, (h7 y hy).2⟩, h8.trans t⟩
  · intro x hx hx0
    rcases List.mem_cons.1 hx with rfl | hx
    · exact absurd rfl hx0
    · rcases d x hx with ⟨h6, h7, h8⟩ | ⟨y, hy, h6, h7, h8⟩
      · exact ⟨(0, 0), List.mem_cons_self, h7, by simpa using h6, fun ks' hks => by rw [hks.det a]; exact h8⟩
      · exact ⟨y, List.mem_cons_of_mem _ hy, h6, h7, h8⟩

/-- a node that is not the root: its parent, the parent's kids, its own kids; none twice, the parent none of them -/
theorem Fam.about {T : List (Nat × Int)} (h : Fam p T) {i : Nat} {d : Int} (hi : (i, d) ∈ T) (h0 : i ≠ 0) :
    ∃ (q : Nat) (K A : List Nat), p.par i = (q : Int) ∧ q < p.n ∧ (q, d - 1) ∈ T ∧ CH p (p.first q) K ∧ i ∈ K ∧ K.Nodup ∧ q ∉ K ∧ q ≠ i ∧ CH p (p.first i) A ∧ A.Nodup ∧ i ∉ A ∧ q ∉ A ∧ ∀ c ∈ A, c ∉ K := by
  obtain ⟨y, hy, e1, e2, e3⟩ := h.up _ hi h0
  obtain ⟨q, dq⟩ := y
  simp only at e1 e2 e3
  obtain ⟨K, c1, c2, c3⟩ := h.kids _ hy
  obtain ⟨A, a1, a2, a3⟩ := h.kids _ hi
  simp only at c1 c2 c3 a1 a2 a3
  have hK : ∀ c ∈ K, (c, d) ∈ T := fun c hc => by have := (c2 c hc).1; rw [← e2] at this; exact this
  have hq : (q, d - 1) ∈ T := by rw [show d - 1 = dq by omega]; exact hy
  refine ⟨q, K, A, e1, h.range _ hy, hq, c1, e3 K c1, h.nodup.sublist c3, ?_, ?_, a1, h.nodup.sublist a3, ?_, ?_, ?_⟩
  · intro hc
    have := depth_one h.nodup (hK q hc) hq
    omega
  · rintro rfl
    have := depth_one h.nodup hi hq
    omega
  · intro hc
    have := depth_one h.nodup hi (a2 i hc).1
    omega
  · intro hc
    have := depth_one h.nodup hq (a2 q hc).1
    omega
  · intro c hc hk
    have := depth_one h.nodup (hK c hk) (a2 c hc).1
    omega

/-- any node's kids -/
theorem Fam.kidsOf {T : List (Nat × Int)} (h : Fam p T) {i : Nat} {d : Int} (hi : (i, d) ∈ T) : ∃ K, CH p (p.first i) K ∧ K.Nodup ∧ i ∉ K ∧ ∀ c ∈ K, (c, d + 1) ∈ T ∧ p.par c = (i : Int) := by
  obtain ⟨K, c1, c2, c3⟩ := h.kids _ hi
  refine ⟨K, c1, h.nodup.sublist c3, ?_, c2⟩
  intro hc
  have := depth_one h.nodup hi (c2 i hc).1
  simp only at this
  omega

end Go.Proofs.Ytdapeboajjidmab.Links
