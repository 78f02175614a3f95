/- Nodes that point to each other: the walk over the nodes below one, the chain of a node's kids, and a walk on which all pointers agree; plain numbers, each fact under the bounds that it names. -/
namespace Go.Proofs.Ytdapeboajjidmab.Links
set_option linter.unusedVariables false

/-- the pointers of n linked nodes -/
structure Ptr where
  n : Nat
  live : Nat → Bool
  lab : Nat → Bool
  par : Nat → Int
  first : Nat → Int
  last : Nat → Int
  prev : Nat → Int
  next : Nat → Int

/-- the nodes of a chain from k on and all below them, with their depths, in the order of a walk -/
inductive WC (p : Ptr) : Int → Int → List (Nat × Int) → Prop
  | nil {k dep : Int} : k = -1 → WC p k dep []
  | cons {k dep : Int} {L1 L2 : List (Nat × Int)} (c : Nat) : k = (c : Int) → c < p.n → dep ≤ 12 → WC p (p.first c) (dep + 1) L1 → WC p (p.next c) dep L2 → WC p k dep ((c, dep) :: (L1 ++ L2))
/-- a chain of kids of i whose pointers agree: lst stands ahead of it, out is its last (or lst) -/
inductive LC (p : Ptr) (i : Int) : Int → Int → Int → Prop
  | nil {lst k : Int} : k = -1 → LC p i lst k lst
  | cons {lst k out : Int} (c : Nat) : k = (c : Int) → c < p.n → p.par c = i → p.prev c = lst → LC p i (c : Int) (p.next c) out → LC p i lst k out
/-- a walk on which all pointers agree -/
inductive GC (p : Ptr) : Int → Int → Int → Int → List (Nat × Int) → Int → Prop
  | nil {i lst k dep : Int} : k = -1 → GC p i lst k dep [] lst
  | cons {i lst k dep out : Int} {L1 L2 : List (Nat × Int)} (c : Nat) : k = (c : Int) → c < p.n → p.par c = i → p.prev c = lst → p.live c = true → p.lab c = true → dep ≤ 12 →
      GC p (c : Int) (-1) (p.first c) (dep + 1) L1 (p.last c) → GC p i (c : Int) (p.next c) dep L2 out → GC p i lst k dep ((c, dep) :: (L1 ++ L2)) out

def Links (p : Ptr) (i : Nat) : Prop := LC p (i : Int) (-1) (p.first i) (p.last i)
/-- what is asked of each node on a walk -/
def Fine (p : Ptr) (i : Nat) : Prop := p.live i = true ∧ p.lab i = true ∧ Links p i

variable {p : Ptr}

theorem WC.det : ∀ {k dep : Int} {L : List (Nat × Int)}, WC p k dep L → ∀ {L' : List (Nat × Int)}, WC p k dep L' → L = L' := by
  intro k dep L h
  induction h with
  | nil hk =>
    intro L' h'
    cases h' with
    | nil _ => rfl
    | cons c hc _ _ _ _ => omega
  | cons c hc hn hd h1 h2 ih1 ih2 =>
    intro L' h'
    cases h' with
    | nil hk => omega
    | cons c' hc' hn' hd' h1' h2' =>
      have e : c' = c := by omega
      subst e
      rw [ih1 h1', ih2 h2']

theorem WC.range : ∀ {k dep : Int} {L : List (Nat × Int)}, WC p k dep L → ∀ x ∈ L, x.1 < p.n := by
  intro k dep L h
  induction h with
  | nil hk => intro x hx; cases hx
  | cons c hc hn hd h1 h2 ih1 ih2 =>
    intro x hx
    rcases List.mem_cons.1 hx with rfl | hx
    · exact hn
    · rcases List.mem_append.1 hx with hx | hx
      · exact ih1 x hx
      · exact ih2 x hx

/-- below each node of a walk there is a walk -/
theorem WC.under : ∀ {k dep : Int} {L : List (Nat × Int)}, WC p k dep L → ∀ x ∈ L, ∃ d L', WC p (p.first x.1) d L' := by
  intro k dep L h
  induction h with
  | nil hk => intro x hx; cases hx
  | cons c hc hn hd h1 h2 ih1 ih2 =>
    intro x hx
    rcases List.mem_cons.1 hx with rfl | hx
    · exact ⟨_, _, h1⟩
    · rcases List.mem_append.1 hx with hx | hx
      · exact ih1 x hx
      · exact ih2 x hx

theorem GC.walk : ∀ {i lst k dep out : Int} {L : List (Nat × Int)}, GC p i lst k dep L out → WC p k dep L ∧ LC p i lst k out ∧ ∀ x ∈ L, Fine p x.1 := by
  intro i lst k dep out L h
  induction h with
  | nil hk => exact ⟨.nil hk, .nil hk, fun x hx => by cases hx⟩
  | cons c hc hn hp hv hl hb hd h1 h2 ih1 ih2 =>
    refine ⟨.cons c hc hn hd ih1.1 ih2.1, .cons c hc hn hp hv ih2.2.1, fun x hx => ?_⟩
    rcases List.mem_cons.1 hx with rfl | hx
    · exact ⟨hl, hb, ih1.2.1⟩
    · rcases List.mem_append.1 hx with hx | hx
      · exact ih1.2.2 x hx
      · exact ih2.2.2 x hx

theorem WC.good : ∀ {k dep : Int} {L : List (Nat × Int)}, WC p k dep L → ∀ {i lst out : Int}, LC p i lst k out → (∀ x ∈ L, Fine p x.1) → GC p i lst k dep L out := by
  intro k dep L h
  induction h with
  | nil hk =>
    intro i lst out hl hf
    cases hl with
    | nil _ => exact .nil hk
    | cons c hc _ _ _ _ => omega
  | cons c hc hn hd h1 h2 ih1 ih2 =>
    intro i lst out hl hf
    cases hl with
    | nil hk => omega
    | cons c' hc' hn' hp' hv' hr' =>
      have e : c' = c := by omega
      subst e
      have f0 := hf _ List.mem_cons_self
      exact .cons c' hc hn hp' hv' f0.1 f0.2.1 hd (ih1 f0.2.2 (fun x hx => hf x (List.mem_cons_of_mem _ (List.mem_append_left _ hx)))) (ih2 hr' (fun x hx => hf x (List.mem_cons_of_mem _ (List.mem_append_right _ hx))))

/-- the nodes of a walk from node i on, i ahead -/
def WT (p : Ptr) (i : Nat) (dep : Int) (L1 : List (Nat × Int)) : Prop := i < p.n ∧ dep ≤ 12 ∧ WC p (p.first i) (dep + 1) L1
def GT (p : Ptr) (i : Nat) (dep : Int) (L1 : List (Nat × Int)) : Prop := i < p.n ∧ dep ≤ 12 ∧ p.live i = true ∧ p.lab i = true ∧ GC p (i : Int) (-1) (p.first i) (dep + 1) L1 (p.last i)

theorem GT_iff {i : Nat} {dep : Int} {L1 : List (Nat × Int)} : GT p i dep L1 ↔ WT p i dep L1 ∧ Fine p i ∧ ∀ x ∈ L1, Fine p x.1 := by
  constructor
  · rintro ⟨h1, h2, h3, h4, h5⟩
    obtain ⟨a, b, c⟩ := h5.walk
    exact ⟨⟨h1, h2, a⟩, ⟨h3, h4, b⟩, c⟩
  · rintro ⟨⟨h1, h2, h3⟩, ⟨h4, h5, h6⟩, h7⟩
    exact ⟨h1, h2, h4, h5, h3.good h6 h7⟩

/-- all that is asked of the pointers, as the walk with all tests tells it -/
def OkG (p : Ptr) (empty : Nat → Prop) : Prop := ∃ L, GT p 0 0 L ∧ (0 :: L.map Prod.fst).Nodup ∧ ∀ i, i < p.n → i ∉ 0 :: L.map Prod.fst → empty i
/-- .. and as the walk alone and what is asked behind it tell it -/
def OkW (p : Ptr) (empty : Nat → Prop) : Prop := ∃ L, WT p 0 0 L ∧ (0 :: L.map Prod.fst).length ≤ 24 ∧ (0 :: L.map Prod.fst).Nodup ∧ (∀ i, i ∈ 0 :: L.map Prod.fst → p.live i = true ∧ p.lab i = true) ∧ ∀ i, i < p.n → (i ∈ 0 :: L.map Prod.fst → Links p i) ∧ (i ∉ 0 :: L.map Prod.fst → empty i)

theorem nodup_le : ∀ {n : Nat} {l : List Nat}, l.Nodup → (∀ x ∈ l, x < n) → l.length ≤ n := by
  intro n
  induction n with
  | zero =>
    intro l _ hr
    cases l with
    | nil => exact Nat.le_refl _
    | cons a r => exact absurd (hr a List.mem_cons_self) (Nat.not_lt_zero _)
  | succ n ih =>
    intro l h hr
    have h1 := ih (l := l.erase n) (h.erase n) (fun x hx => by
      have a := h.mem_erase_iff.1 hx
      have b := hr x a.2
      have c := a.1
      omega)
    rw [List.length_erase] at h1
    split at h1 <;> omega

theorem mem_fst {L : List (Nat × Int)} {i : Nat} (h : i ∈ L.map Prod.fst) : ∃ x ∈ L, x.1 = i := by
  obtain ⟨x, hx, e⟩ := List.mem_map.1 h
  exact ⟨x, hx, e⟩

theorem OkG_iff (hn : p.n ≤ 24) {empty : Nat → Prop} : OkG p empty ↔ OkW p empty := by
  constructor
  · rintro ⟨L, hg, hd, he⟩
    obtain ⟨hw, f0, hf⟩ := GT_iff.1 hg
    have hall : ∀ i, i ∈ 0 :: L.map Prod.fst → Fine p i := by
      intro i hi
      rcases List.mem_cons.1 hi with rfl | hi
      · exact f0
      · obtain ⟨x, hx, rfl⟩ := mem_fst hi
        exact hf x hx
    have hr : ∀ i, i ∈ 0 :: L.map Prod.fst → i < p.n := by
      intro i hi
      rcases List.mem_cons.1 hi with rfl | hi
      · exact hw.1
      · obtain ⟨x, hx, rfl⟩ := mem_fst hi
        exact hw.2.2.range x hx
    exact ⟨L, hw, Nat.le_trans (nodup_le hd hr) hn, hd, fun i hi => ⟨(hall i hi).1, (hall i hi).2.1⟩, fun i hi => ⟨fun h => (hall i h).2.2, he i hi⟩⟩
  · rintro ⟨L, hw, hl, hd, hv, hk⟩
    have hr : ∀ i, i ∈ 0 :: L.map Prod.fst → i < p.n := by
      intro i hi
      rcases List.mem_cons.1 hi with rfl | hi
      · exact hw.1
      · obtain ⟨x, hx, rfl⟩ := mem_fst hi
        exact hw.2.2.range x hx
    have hall : ∀ i, i ∈ 0 :: L.map Prod.fst → Fine p i := fun i hi => ⟨(hv i hi).1, (hv i hi).2, (hk i (hr i hi)).1 hi⟩
    refine ⟨L, GT_iff.2 ⟨hw, hall 0 List.mem_cons_self, fun x hx => hall x.1 (List.mem_cons_of_mem _ (List.mem_map.2 ⟨x, hx, rfl⟩))⟩, hd, fun i hi => (hk i hi).2⟩

end Go.Proofs.Ytdapeboajjidmab.Links
