/- The least cost between two ordered forests by the recursion over the last roots: it is the least over all ways to pair, so it is the same with all kids the other way round, and the same back with deletion and insertion exchanged; for all costs. -/
namespace Go.Proofs.Ytbmkobanpakohaa.Dist
set_option linter.unusedVariables false

/-- a forest: the trees ahead, the last root's label, the forest below it -/
inductive Fo where
  | nil : Fo
  | snoc : Fo → Int → Fo → Fo

namespace Fo
def app (F : Fo) : Fo → Fo
  | nil => F
  | snoc r v k => snoc (app F r) v k
def size : Fo → Nat
  | nil => 0
  | snoc r v k => size r + size k + 1
/-- all kids the other way round -/
def rev : Fo → Fo
  | nil => nil
  | snoc r v k => app (snoc nil v (rev k)) (rev r)

theorem app_nil (F : Fo) : app F nil = F := rfl
theorem nil_app : ∀ F : Fo, app nil F = F
  | nil => rfl
  | snoc r v k => by rw [app, nil_app r]
theorem app_assoc (A B : Fo) : ∀ C : Fo, app (app A B) C = app A (app B C)
  | nil => rfl
  | snoc r v k => by rw [app, app, app, app_assoc A B r]
theorem size_app (A : Fo) : ∀ B : Fo, size (app A B) = size A + size B
  | nil => rfl
  | snoc r v k => by rw [app, size, size, size_app A r]; omega
theorem rev_app (A : Fo) : ∀ B : Fo, rev (app A B) = app (rev B) (rev A)
  | nil => by rw [app, rev, nil_app]
  | snoc r v k => by rw [app, rev, rev, rev_app A r, app_assoc]
theorem rev_rev : ∀ F : Fo, rev (rev F) = F
  | nil => rfl
  | snoc r v k => by
    rw [rev, rev_app, rev_rev r, rev, rev_rev k]
    rfl
theorem size_rev : ∀ F : Fo, size (rev F) = size F
  | nil => rfl
  | snoc r v k => by rw [rev, size_app, size_rev r, size, size_rev k, size, size]; omega
end Fo
open Fo

/-- what goes, what comes, what is renamed -/
structure Costs where
  del : Int → Int
  ins : Int → Int
  rel : Int → Int → Int

def dist (c : Costs) : Fo → Fo → Int
  | nil, nil => 0
  | nil, snoc r w k => dist c nil (app r k) + c.ins w
  | snoc r v k, nil => dist c (app r k) nil + c.del v
  | snoc r v k, snoc r' w k' => min (min (dist c (app r k) (snoc r' w k') + c.del v) (dist c (snoc r v k) (app r' k') + c.ins w)) (dist c k k' + dist c r r' + c.rel v w)
termination_by F G => size F + size G
decreasing_by all_goals simp only [size, size_app] <;> omega

theorem dist_nn (c : Costs) : dist c nil nil = 0 := by rw [dist]
theorem dist_ns (c : Costs) (r : Fo) (w : Int) (k : Fo) : dist c nil (snoc r w k) = dist c nil (app r k) + c.ins w := by rw [dist]
theorem dist_sn (c : Costs) (r : Fo) (v : Int) (k : Fo) : dist c (snoc r v k) nil = dist c (app r k) nil + c.del v := by rw [dist]
theorem dist_ss (c : Costs) (r : Fo) (v : Int) (k : Fo) (r' : Fo) (w : Int) (k' : Fo) : dist c (snoc r v k) (snoc r' w k') = min (min (dist c (app r k) (snoc r' w k') + c.del v) (dist c (snoc r v k) (app r' k') + c.ins w)) (dist c k k' + dist c r r' + c.rel v w) := by rw [dist]

theorem dist_del (c : Costs) (r : Fo) (v : Int) (k G : Fo) : dist c (snoc r v k) G ≤ dist c (app r k) G + c.del v := by
  cases G with
  | nil => rw [dist_sn]; exact Int.le_refl _
  | snoc r' w k' => rw [dist_ss]; omega
theorem dist_ins (c : Costs) (F r : Fo) (w : Int) (k : Fo) : dist c F (snoc r w k) ≤ dist c F (app r k) + c.ins w := by
  cases F with
  | nil => rw [dist_ns]; exact Int.le_refl _
  | snoc r' v k' => rw [dist_ss]; omega
theorem dist_mat (c : Costs) (r : Fo) (v : Int) (k : Fo) (r' : Fo) (w : Int) (k' : Fo) : dist c (snoc r v k) (snoc r' w k') ≤ dist c k k' + dist c r r' + c.rel v w := by rw [dist_ss]; omega

/-- side by side costs no more than apart -/
theorem dist_cat (c : Costs) (A B : Fo) : ∀ (m : Nat) (F G : Fo), size F + size G ≤ m → dist c (app A F) (app B G) ≤ dist c A B + dist c F G := by
  intro m
  induction m with
  | zero =>
    intro F G h
    cases F with
    | nil => cases G with
      | nil => rw [app, app, dist_nn]; omega
      | snoc r w k => simp only [size] at h; omega
    | snoc r v k => simp only [size] at h; omega
  | succ m ih =>
    intro F G h
    cases F with
    | nil =>
      cases G with
      | nil => rw [app, app, dist_nn]; omega
      | snoc r w k =>
        rw [dist_ns, app, app]
        simp only [size] at h
        have h1 := ih nil (app r k) (by rw [size_app, size]; omega)
        have h2 := dist_ins c A (app B r) w k
        rw [app_assoc] at h2
        rw [app] at h1
        omega
    | snoc r v k =>
      simp only [size] at h
      have hd : ∀ G', size G' ≤ size G → dist c (app A (snoc r v k)) (app B G') ≤ dist c A B + dist c (app r k) G' + c.del v := by
        intro G' hG
        have h1 := ih (app r k) G' (by rw [size_app]; omega)
        have h2 := dist_del c (app A r) v k (app B G')
        rw [app_assoc] at h2
        rw [app]
        omega
      cases G with
      | nil =>
        have := hd nil (Nat.le_refl _)
        rw [dist_sn]
        omega
      | snoc r' w k' =>
        rw [dist_ss]
        have h1 := hd (snoc r' w k') (Nat.le_refl _)
        have h2 : dist c (app A (snoc r v k)) (app B (snoc r' w k')) ≤ dist c A B + dist c (snoc r v k) (app r' k') + c.ins w := by
          simp only [size] at h
          have h3 := ih (snoc r v k) (app r' k') (by rw [size_app, size]; omega)
          have h4 := dist_ins c (app A (snoc r v k)) (app B r') w k'
          rw [app_assoc] at h4
          have e : app B (snoc r' w k') = snoc (app B r') w k' := rfl
          rw [e]
          omega
        have h5 : dist c (app A (snoc r v k)) (app B (snoc r' w k')) ≤ dist c A B + (dist c k k' + dist c r r' + c.rel v w) := by
          simp only [size] at h
          have h3 := ih r r' (by omega)
          have h4 := dist_mat c (app A r) v k (app B r') w k'
          have e : app B (snoc r' w k') = snoc (app B r') w k' := rfl
          have e2 : app A (snoc r v k) = snoc (app A r) v k := rfl
          rw [e, e2]
          omega
        omega

/-- a root anywhere may go -/
theorem dist_delAny (c : Costs) (A : Fo) (v : Int) (K : Fo) : ∀ (m : Nat) (F G : Fo), size F + size G ≤ m → dist c (app (snoc A v K) F) G ≤ dist c (app (app A K) F) G + c.del v := by
  intro m
  induction m with
  | zero =>
    intro F G h
    cases F with
    | nil => exact dist_del c A v K G
    | snoc r u k => simp only [size] at h; omega
  | succ m ih =>
    intro F G h
    cases F with
    | nil => exact dist_del c A v K G
    | snoc r u k =>
      simp only [size] at h
      have hd : dist c (app (snoc A v K) (snoc r u k)) G ≤ dist c (app (app A K) (app r k)) G + c.del u + c.del v := by
        have h1 := ih (app r k) G (by rw [size_app]; omega)
        have h2 := dist_del c (app (snoc A v K) r) u k G
        rw [app_assoc] at h2
        have e : app (snoc A v K) (snoc r u k) = snoc (app (snoc A v K) r) u k := rfl
        rw [e]
        omega
      cases G with
      | nil =>
        have e : app (app A K) (snoc r u k) = snoc (app (app A K) r) u k := rfl
        rw [e, dist_sn, app_assoc]
        omega
      | snoc r' w k' =>
        have e : app (app A K) (snoc r u k) = snoc (app (app A K) r) u k := rfl
        rw [e, dist_ss, app_assoc (app A K) r k]
        have h2 : dist c (app (snoc A v K) (snoc r u k)) (snoc r' w k') ≤ dist c (snoc (app (app A K) r) u k) (app r' k') + c.ins w + c.del v := by
          simp only [size] at h
          have h3 := ih (snoc r u k) (app r' k') (by rw [size_app, size]; omega)
          have h4 := dist_ins c (app (snoc A v K) (snoc r u k)) r' w k'
          rw [e] at h3
          omega
        have h5 : dist c (app (snoc A v K) (snoc r u k)) (snoc r' w k') ≤ dist c k k' + dist c (app (app A K) r) r' + c.rel u w + c.del v := by
          simp only [size] at h
          have h3 := ih r r' (by omega)
          have h4 := dist_mat c (app (snoc A v K) r) u k r' w k'
          have e2 : app (snoc A v K) (snoc r u k) = snoc (app (snoc A v K) r) u k := rfl
          rw [e2]
          omega
        omega

/-- with what goes and what comes changed for each other -/
def Costs.swap (c : Costs) : Costs := ⟨c.ins, c.del, fun a b => c.rel b a⟩

theorem dist_swap (c : Costs) : ∀ (m : Nat) (F G : Fo), size F + size G ≤ m → dist c.swap G F = dist c F G := by
  intro m
  induction m with
  | zero =>
    intro F G h
    cases F with
    | nil => cases G with
      | nil => rw [dist_nn, dist_nn]
      | snoc r w k => simp only [size] at h; omega
    | snoc r v k => simp only [size] at h; omega
  | succ m ih =>
    intro F G h
    cases F with
    | nil => cases G with
      | nil => rw [dist_nn, dist_nn]
      | snoc r w k =>
        simp only [size] at h
        rw [dist_ns, dist_sn, ih nil (app r k) (by rw [size_app, size]; omega)]
        rfl
    | snoc r v k => cases G with
      | nil =>
        simp only [size] at h
        rw [dist_ns, dist_sn, ih (app r k) nil (by rw [size_app, size]; omega)]
        rfl
      | snoc r' w k' =>
        simp only [size] at h
        rw [dist_ss, dist_ss, ih (app r k) (snoc r' w k') (by rw [size_app, size]; omega), ih (snoc r v k) (app r' k') (by rw [size_app, size]; omega), ih k k' (by omega), ih r r' (by omega)]
        have e1 : c.swap.del w = c.ins w := rfl
        have e2 : c.swap.ins v = c.del v := rfl
        have e3 : c.swap.rel w v = c.rel v w := rfl
        rw [e1, e2, e3]
        omega

theorem dist_insAny (c : Costs) (A : Fo) (w : Int) (K F G : Fo) : dist c G (app (snoc A w K) F) ≤ dist c G (app (app A K) F) + c.ins w := by
  have h := dist_delAny c.swap A w K _ F G (Nat.le_refl _)
  rw [dist_swap c _ _ _ (Nat.le_refl _), dist_swap c _ _ _ (Nat.le_refl _)] at h
  exact h

/-- what it can cost -/
inductive Can (c : Costs) : Fo → Fo → Int → Prop where
  | nil : Can c nil nil 0
  | cat {F G F' G' : Fo} {a b : Int} : Can c F G a → Can c F' G' b → Can c (app F F') (app G G') (a + b)
  | mat {F G : Fo} {a : Int} (v w : Int) : Can c F G a → Can c (snoc nil v F) (snoc nil w G) (a + c.rel v w)
  | del {A K F G : Fo} {a : Int} (v : Int) : Can c (app (app A K) F) G a → Can c (app (snoc A v K) F) G (a + c.del v)
  | ins {A K F G : Fo} {a : Int} (w : Int) : Can c G (app (app A K) F) a → Can c G (app (snoc A w K) F) (a + c.ins w)

theorem dist_le_can (c : Costs) {F G : Fo} {a : Int} (h : Can c F G a) : dist c F G ≤ a := by
  induction h with
  | nil => rw [dist_nn]; exact Int.le_refl _
  | @cat F G F' G' a b _ _ i1 i2 =>
    have := dist_cat c F G _ F' G' (Nat.le_refl _)
    omega
  | @mat F G a v w _ i =>
    have := dist_mat c nil v F nil w G
    rw [dist_nn] at this
    omega
  | @del A K F G a v _ i =>
    have := dist_delAny c A v K _ F G (Nat.le_refl _)
    omega
  | @ins A K F G a w _ i =>
    have := dist_insAny c A w K F G
    omega

theorem can_dist (c : Costs) : ∀ (m : Nat) (F G : Fo), size F + size G ≤ m → Can c F G (dist c F G) := by
  intro m
  induction m with
  | zero =>
    intro F G h
    cases F with
    | nil => cases G with
      | nil => rw [dist_nn]; exact .nil
      | snoc r w k => simp only [size] at h; omega
    | snoc r v k => simp only [size] at h; omega
  | succ m ih =>
    intro F G h
    have hd : ∀ (r k G : Fo) (v : Int), size r + size k + size G ≤ m → Can c (snoc r v k) G (dist c (app r k) G + c.del v) := by
      intro r k G v h
      exact Can.del (A := r) (K := k) (F := Fo.nil) v (ih (app r k) G (by rw [size_app]; omega))
    have hi : ∀ (r k F : Fo) (w : Int), size r + size k + size F ≤ m → Can c F (snoc r w k) (dist c F (app r k) + c.ins w) := by
      intro r k F w h
      exact Can.ins (A := r) (K := k) (F := Fo.nil) w (ih F (app r k) (by rw [size_app]; omega))
    cases F with
    | nil => cases G with
      | nil => rw [dist_nn]; exact .nil
      | snoc r w k =>
        simp only [size] at h
        rw [dist_ns]; exact hi r k Fo.nil w (by simp only [size]; omega)
    | snoc r v k => cases G with
      | nil =>
        simp only [size] at h
        rw [dist_sn]; exact hd r k Fo.nil v (by simp only [size]; omega)
      | snoc r' w k' =>
        simp only [size] at h
        rw [dist_ss]
        have a1 := hd r k (snoc r' w k') v (by simp only [size]; omega)
        have a2 := hi r' k' (snoc r v k) w (by simp only [size]; omega)
        have a3 : Can c (snoc r v k) (snoc r' w k') (dist c r r' + (dist c k k' + c.rel v w)) :=
          Can.cat (ih r r' (by omega)) (Can.mat v w (ih k k' (by omega)))
        have e : ∀ x y z : Int, Can c (snoc r v k) (snoc r' w k') x → Can c (snoc r v k) (snoc r' w k') y → Can c (snoc r v k) (snoc r' w k') z → Can c (snoc r v k) (snoc r' w k') (min (min x y) z) := by
          intro x y z hx hy hz
          rcases Int.le_total x y with h1 | h1
          · rw [Int.min_eq_left h1]
            rcases Int.le_total x z with h2 | h2
            · rw [Int.min_eq_left h2]; exact hx
            · rw [Int.min_eq_right h2]; exact hz
          · rw [Int.min_eq_right h1]
            rcases Int.le_total y z with h2 | h2
            · rw [Int.min_eq_left h2]; exact hy
            · rw [Int.min_eq_right h2]; exact hz
        have a4 : dist c k k' + dist c r r' + c.rel v w = dist c r r' + (dist c k k' + c.rel v w) := by omega
        rw [a4]
        exact e _ _ _ a1 a2 a3

theorem can_rev (c : Costs) {F G : Fo} {a : Int} (h : Can c F G a) : Can c (rev F) (rev G) a := by
  induction h with
  | nil => exact .nil
  | @cat F G F' G' a b _ _ i1 i2 =>
    rw [rev_app, rev_app, Int.add_comm]
    exact .cat i2 i1
  | @mat F G a v w _ i => exact .mat v w i
  | @del A K F G a v _ i =>
    rw [rev_app, rev_app] at i
    rw [rev_app, rev]
    have e : app (rev F) (app (snoc Fo.nil v (rev K)) (rev A)) = app (snoc (rev F) v (rev K)) (rev A) := by rw [← app_assoc]; rfl
    rw [e]
    rw [← app_assoc] at i
    exact .del v i
  | @ins A K F G a w _ i =>
    rw [rev_app, rev_app] at i
    rw [rev_app, rev]
    have e : app (rev F) (app (snoc Fo.nil w (rev K)) (rev A)) = app (snoc (rev F) w (rev K)) (rev A) := by rw [← app_assoc]; rfl
    rw [e]
    rw [← app_assoc] at i
    exact .ins w i

/-- with all kids the other way round it costs the same -/
theorem dist_rev (c : Costs) (F G : Fo) : dist c (rev F) (rev G) = dist c F G := by
  have h1 := dist_le_can c (can_rev c (can_dist c _ F G (Nat.le_refl _)))
  have h2 := dist_le_can c (can_rev c (can_dist c _ (rev F) (rev G) (Nat.le_refl _)))
  rw [rev_rev, rev_rev] at h2
  omega

theorem dist_nonneg (c : Costs) (h1 : ∀ x, 0 ≤ c.del x) (h2 : ∀ x, 0 ≤ c.ins x) (h3 : ∀ x y, 0 ≤ c.rel x y) : ∀ (m : Nat) (F G : Fo), size F + size G ≤ m → 0 ≤ dist c F G := by
  intro m
  induction m with
  | zero =>
    intro F G h
    cases F with
    | nil => cases G with
      | nil => rw [dist_nn]; exact Int.le_refl _
      | snoc r w k => simp only [size] at h; omega
    | snoc r v k => simp only [size] at h; omega
  | succ m ih =>
    intro F G h
    cases F with
    | nil => cases G with
      | nil => rw [dist_nn]; exact Int.le_refl _
      | snoc r w k =>
        simp only [size] at h
        rw [dist_ns]
        have := ih nil (app r k) (by rw [size_app, size]; omega)
        have := h2 w
        omega
    | snoc r v k => cases G with
      | nil =>
        simp only [size] at h
        rw [dist_sn]
        have := ih (app r k) nil (by rw [size_app, size]; omega)
        have := h1 v
        omega
      | snoc r' w k' =>
        simp only [size] at h
        rw [dist_ss]
        have := ih (app r k) (snoc r' w k') (by rw [size_app, size]; omega)
        have := ih (snoc r v k) (app r' k') (by rw [size_app, size]; omega)
        have := ih k k' (by omega)
        have := ih r r' (by omega)
        have := h1 v
        have := h2 w
        have := h3 v w
        omega

/-- it costs no more than so much for each node -/
theorem dist_le (c : Costs) (B : Int) (h0 : 0 ≤ B) (h1 : ∀ x, c.del x ≤ B) (h2 : ∀ x, c.ins x ≤ B) : ∀ (m : Nat) (F G : Fo), size F + size G ≤ m → dist c F G ≤ B * (size F + size G : Nat) := by
  intro m
  induction m with
  | zero =>
    intro F G h
    cases F with
    | nil => cases G with
      | nil => rw [dist_nn]; simp [size]
      | snoc r w k => simp only [size] at h; omega
    | snoc r v k => simp only [size] at h; omega
  | succ m ih =>
    intro F G h
    cases F with
    | nil => cases G with
      | nil => rw [dist_nn]; simp [size]
      | snoc r w k =>
        simp only [size] at h
        rw [dist_ns]
        have a := ih nil (app r k) (by rw [size_app, size]; omega)
        have b := h2 w
        have e : size nil + size (snoc r w k) = size nil + size (app r k) + 1 := by rw [size_app]; simp only [size]; omega
        rw [e]
        have e2 : B * ((size nil + size (app r k) + 1 : Nat) : Int) = B * ((size nil + size (app r k) : Nat) : Int) + B := by rw [Int.natCast_add, Int.mul_add]; simp
        rw [e2]; omega
    | snoc r v k =>
      simp only [size] at h
      have a := ih (app r k) G (by rw [size_app]; omega)
      have b := h1 v
      have d := dist_del c r v k G
      have e : size (snoc r v k) + size G = size (app r k) + size G + 1 := by rw [size_app]; simp only [size]; omega
      rw [e]
      have e2 : B * ((size (app r k) + size G + 1 : Nat) : Int) = B * ((size (app r k) + size G : Nat) : Int) + B := by rw [Int.natCast_add, Int.mul_add]; simp
      rw [e2]; omega

end Go.Proofs.Ytbmkobanpakohaa.Dist
