import PyProof.Rows.All
import Wide.All
import OpenK.AllK
import Wide.FinOn
import Open.SpecLaws
import KE.OsHead
import KE.OsGo
import HandS.ForSpec
import HandS.Comp
import HandS.Iter
import HandS.Walk
import HandS.Conv
import PySem.Challenge.RW_queuecurves_s01_answers
set_option Elab.async false
set_option linter.all false
/-! The plain law: numbers and lists alone, no program in sight. -/
namespace Qc
/-- a row of naturals as whole numbers -/
def iv (l : List Nat) : List Int := l.map fun (n : Nat) => (n : Int)
theorem iv_length (l : List Nat) : (iv l).length = l.length := List.length_map _
theorem iv_range (n : Nat) (f : Nat → Nat) : (List.range n).map (fun i => ((f i : Nat) : Int)) = iv ((List.range n).map f) := by
  unfold iv
  rw [List.map_map]
  rfl
theorem iv_toNat : ∀ (l : List Int), (∀ x ∈ l, 0 ≤ x) → iv (l.map Int.toNat) = l
  | [], _ => rfl
  | x :: r, h => by
    have ih := iv_toNat r fun y hy => h y (List.mem_cons_of_mem _ hy)
    have hx := h x List.mem_cons_self
    show ((x.toNat : Nat) : Int) :: iv (r.map Int.toNat) = x :: r
    rw [ih, Int.toNat_of_nonneg hx]
theorem mem_iv {l : List Nat} {m : Int} : m ∈ iv l ↔ ∃ n, n ∈ l ∧ (n : Int) = m := List.mem_map
theorem iv_append (a b : List Nat) : iv (a ++ b) = iv a ++ iv b := List.map_append
theorem iv_take (l : List Nat) (n : Nat) : iv (l.take n) = (iv l).take n := List.map_take
/-! ### least, greatest -/
theorem foldl_min : ∀ (l : List Nat) (a : Nat), l.foldl min a ≤ a ∧ (∀ x ∈ l, l.foldl min a ≤ x) ∧ (l.foldl min a = a ∨ l.foldl min a ∈ l)
  | [], a => ⟨Nat.le_refl _, by simp, .inl rfl⟩
  | x :: r, a => by
    obtain ⟨h1, h2, h3⟩ := foldl_min r (min a x)
    have e : (x :: r).foldl min a = r.foldl min (min a x) := rfl
    rw [e]
    refine ⟨by omega, fun y hy => ?_, ?_⟩
    · rcases List.mem_cons.mp hy with rfl | hy
      · omega
      · exact h2 y hy
    · rcases h3 with h3 | h3
      · rw [h3]
        by_cases hx : a ≤ x
        · exact .inl (by omega)
        · exact .inr (by rw [show min a x = x by omega]; exact List.mem_cons_self)
      · exact .inr (List.mem_cons_of_mem _ h3)
theorem foldl_max : ∀ (l : List Nat) (a : Nat), a ≤ l.foldl max a ∧ (∀ x ∈ l, x ≤ l.foldl max a) ∧ (l.foldl max a = a ∨ l.foldl max a ∈ l)
  | [], a => ⟨Nat.le_refl _, by simp, .inl rfl⟩
  | x :: r, a => by
    obtain ⟨h1, h2, h3⟩ := foldl_max r (max a x)
    have e : (x :: r).foldl max a = r.foldl max (max a x) := rfl
    rw [e]
    refine ⟨by omega, fun y hy => ?_, ?_⟩
    · rcases List.mem_cons.mp hy with rfl | hy
      · omega
      · exact h2 y hy
    · rcases h3 with h3 | h3
      · rw [h3]
        by_cases hx : x ≤ a
        · exact .inl (by omega)
        · exact .inr (by rw [show max a x = x by omega]; exact List.mem_cons_self)
      · exact .inr (List.mem_cons_of_mem _ h3)
theorem least_le {l : List Nat} {x : Nat} (h : x ∈ l) : Rc99.least l ≤ x := (foldl_min l _).2.1 x h
theorem least_mem {l : List Nat} (h : l ≠ []) : Rc99.least l ∈ l := by
  cases l with
  | nil => exact absurd rfl h
  | cons a r =>
    rcases (foldl_min (a :: r) a).2.2 with e | e
    · show (a :: r).foldl min a ∈ a :: r
      rw [e]
      exact List.mem_cons_self
    · exact e
theorem le_greatest {l : List Nat} {x : Nat} (h : x ∈ l) : x ≤ Rc99.greatest l := (foldl_max l _).2.1 x h
theorem greatest_mem {l : List Nat} : Rc99.greatest l = 0 ∨ Rc99.greatest l ∈ l := (foldl_max l _).2.2
theorem greatest_le {l : List Nat} {b : Nat} (h : ∀ x ∈ l, x ≤ b) : Rc99.greatest l ≤ b := by
  rcases greatest_mem (l := l) with e | e
  · omega
  · exact h _ e
/-- min(..) of naturals -/
theorem least_is {l : List Nat} {m : Int} (h : m ∈ iv l) (hl : ∀ y ∈ iv l, m ≤ y) : m = (Rc99.least l : Int) := by
  obtain ⟨n, hn, rfl⟩ := mem_iv.mp h
  have h1 := least_le hn
  have h2 := hl _ (mem_iv.mpr ⟨_, least_mem (by intro e; rw [e] at hn; cases hn), rfl⟩)
  omega
/-- max(..) of naturals -/
theorem greatest_is {l : List Nat} {m : Int} (h : m ∈ iv l) (hl : ∀ y ∈ iv l, y ≤ m) : m = (Rc99.greatest l : Int) := by
  obtain ⟨n, hn, rfl⟩ := mem_iv.mp h
  have h1 := le_greatest hn
  rcases greatest_mem (l := l) with e | e
  · omega
  · have h2 := hl _ (mem_iv.mpr ⟨_, e, rfl⟩)
    omega
/-- max([0] + ..) of differences -/
theorem greatest0_is {ds : List Int} {l : List Nat} {m : Int} (e : ds.map Int.toNat = l) (h : m ∈ 0 :: ds) (hl : ∀ y ∈ 0 :: ds, y ≤ m) : m = (Rc99.greatest l : Int) := by
  subst e
  have h0 := hl 0 List.mem_cons_self
  have hle : Rc99.greatest (ds.map Int.toNat) ≤ m.toNat := greatest_le fun x hx => by
    obtain ⟨d, hd, rfl⟩ := List.mem_map.mp hx
    have := hl d (List.mem_cons_of_mem _ hd)
    omega
  rcases List.mem_cons.mp h with rfl | h
  · omega
  · have := le_greatest (List.mem_map.mpr ⟨m, h, rfl⟩ : m.toNat ∈ ds.map Int.toNat)
    omega
/-! ### tables -/
theorem tab_length (g : Nat → Nat) : (Rc99.tab g).length = 33 := by
  unfold Rc99.tab
  rw [List.length_map, List.length_range]
  rfl
theorem val_tab {g : Nat → Nat} {t : Nat} (h : t < 33) : Rc99.val (Rc99.tab g) t = g t := by
  unfold Rc99.val Rc99.tab
  rw [List.getD_eq_getElem?_getD, List.getElem?_map, List.getElem?_range (show t < Rc99.LAST + 1 from h)]
  rfl
theorem val_get {f : List Nat} {t : Nat} (h : t < f.length) : f[t]? = some (Rc99.val f t) := by
  unfold Rc99.val
  rw [List.getD_eq_getElem?_getD, List.getElem?_eq_getElem h]
  rfl
theorem iv_get {f : List Nat} {t : Nat} (h : t < f.length) : (iv f)[t]? = some ((Rc99.val f t : Nat) : Int) := by
  unfold iv
  rw [List.getElem?_map, val_get h]
  rfl
theorem ext_val {f g : List Nat} (h : f.length = g.length) (e : ∀ t, t < f.length → Rc99.val f t = Rc99.val g t) : f = g := by
  apply List.ext_getElem? 
  intro t
  by_cases ht : t < f.length
  · rw [val_get ht, val_get (h ▸ ht), e t ht]
  · rw [List.getElem?_eq_none (by omega), List.getElem?_eq_none (by omega)]
theorem val_mem {f : List Nat} {x : Nat} (h : x ∈ f) : ∃ t, t < f.length ∧ Rc99.val f t = x := by
  obtain ⟨t, ht, e⟩ := List.mem_iff_getElem.mp h
  refine ⟨t, ht, ?_⟩
  have := val_get ht
  rw [List.getElem?_eq_getElem ht, e] at this
  exact (Option.some.inj this).symm
theorem mem_val {f : List Nat} {t : Nat} (h : t < f.length) : Rc99.val f t ∈ f := List.mem_of_getElem? (val_get h)
/-! ### curves: what each maker keeps -/
/-- a curve but for the bound -/
structure Curve (f : List Nat) : Prop where
  long : f.length = 33
  first : Rc99.val f 0 = 0
  rises : ∀ s t : Nat, s ≤ t → t ≤ 32 → Rc99.val f s ≤ Rc99.val f t
theorem curve_tab {g : Nat → Nat} (h0 : g 0 = 0) (hr : ∀ s t, s ≤ t → t ≤ 32 → g s ≤ g t) : Curve (Rc99.tab g) :=
  ⟨tab_length g, by rw [val_tab (by omega), h0], fun s t h1 h2 => by rw [val_tab (by omega), val_tab (by omega)]; exact hr s t h1 h2⟩
theorem conv_val {f g : List Nat} {t : Nat} (h : t < 33) : Rc99.val (Rc99.conv f g) t = Rc99.least ((List.range (t + 1)).map fun k => Rc99.val f k + Rc99.val g (t - k)) := val_tab h
theorem conv_le {f g : List Nat} {t k : Nat} (h : t < 33) (hk : k ≤ t) : Rc99.val (Rc99.conv f g) t ≤ Rc99.val f k + Rc99.val g (t - k) := by
  rw [conv_val h]
  exact least_le (List.mem_map.mpr ⟨k, List.mem_range.mpr (by omega), rfl⟩)
theorem conv_at {f g : List Nat} {t : Nat} (h : t < 33) : ∃ k, k ≤ t ∧ Rc99.val (Rc99.conv f g) t = Rc99.val f k + Rc99.val g (t - k) := by
  rw [conv_val h]
  obtain ⟨k, hk, e⟩ := List.mem_map.mp (least_mem (l := (List.range (t + 1)).map fun k => Rc99.val f k + Rc99.val g (t - k)) (by simp))
  have := List.mem_range.mp hk
  exact ⟨k, by omega, e.symm⟩
theorem curve_conv {f g : List Nat} (F : Curve f) (G : Curve g) : Curve (Rc99.conv f g) := by
  refine ⟨tab_length _, ?_, fun s t h1 h2 => ?_⟩
  · have := conv_le (f := f) (g := g) (t := 0) (k := 0) (by omega) (by omega)
    rw [F.first, G.first] at this
    omega
  · obtain ⟨k, hk, e⟩ := conv_at (f := f) (g := g) (t := t) (by omega)
    rw [e]
    by_cases hs : k ≤ s
    · have a := conv_le (f := f) (g := g) (t := s) (k := k) (by omega) hs
      have b := G.rises (s - k) (t - k) (by omega) (by omega)
      omega
    · have a := conv_le (f := f) (g := g) (t := s) (k := s) (by omega) (by omega)
      have b := F.rises s k (by omega) (by omega)
      rw [Nat.sub_self, G.first] at a
      omega
theorem curve_power : ∀ (n : Nat) {f : List Nat}, Curve f → Curve (Rc99.power n f)
  | 0, _, F => F
  | n + 1, f, F => curve_power n (curve_conv F F)
theorem curve_lower {f g : List Nat} (F : Curve f) (G : Curve g) : Curve (Rc99.lower f g) := by
  refine curve_tab ?_ fun s t h1 h2 => ?_
  · rw [F.first, G.first]
    rfl
  · have a := F.rises s t h1 h2
    have b := G.rises s t h1 h2
    omega
theorem curve_sum {f g : List Nat} (F : Curve f) (G : Curve g) : Curve (Rc99.sum f g) := by
  refine curve_tab ?_ fun s t h1 h2 => ?_
  · rw [F.first, G.first]
  · have a := F.rises s t h1 h2
    have b := G.rises s t h1 h2
    omega
theorem curve_deconv {f g : List Nat} (F : Curve f) (G : Curve g) : Curve (Rc99.deconv f g) := by
  refine curve_tab (if_pos rfl) fun s t h1 h2 => ?_
  by_cases hs : s = 0
  · rw [if_pos hs]
    omega
  · rw [if_neg hs, if_neg (by omega)]
    refine greatest_le fun x hx => ?_
    obtain ⟨u, hu, rfl⟩ := List.mem_map.mp hx
    have hu := List.mem_range.mp hu
    have hL : Rc99.LAST = 32 := rfl
    rw [hL] at hu ⊢
    have key : ∀ v, v ≤ 32 - t → Rc99.val f (t + v) - Rc99.val g v ≤ Rc99.greatest ((List.range (32 - t + 1)).map fun u => Rc99.val f (t + u) - Rc99.val g u) := fun v hv =>
      le_greatest (List.mem_map.mpr ⟨v, List.mem_range.mpr (by omega), rfl⟩)
    by_cases h : u ≤ 32 - t
    · have a := key u h
      have b := F.rises (s + u) (t + u) (by omega) (by omega)
      omega
    · have a := key (32 - t) (Nat.le_refl _)
      have b := F.rises (s + u) (t + (32 - t)) (by omega) (by omega)
      have c := G.rises (32 - t) u (by omega) (by omega)
      omega
theorem curve_rest {f g : List Nat} (F : Curve f) (G : Curve g) : Curve (Rc99.rest f g) := by
  refine curve_tab ?_ fun s t h1 h2 => ?_
  · show Rc99.greatest ((List.range 1).map fun u => Rc99.val f u - Rc99.val g u) = 0
    have : Rc99.greatest ((List.range 1).map fun u => Rc99.val f u - Rc99.val g u) ≤ 0 := greatest_le fun x hx => by
      obtain ⟨u, hu, rfl⟩ := List.mem_map.mp hx
      have hu := List.mem_range.mp hu
      obtain rfl : u = 0 := by omega
      rw [F.first]
      omega
    omega
  · refine greatest_le fun x hx => ?_
    obtain ⟨u, hu, rfl⟩ := List.mem_map.mp hx
    have hu := List.mem_range.mp hu
    exact le_greatest (List.mem_map.mpr ⟨u, List.mem_range.mpr (by omega), rfl⟩)
theorem curve_line (b r : Nat) : Curve (Rc99.tab fun t => if t = 0 then 0 else b + r * t) := by
  refine curve_tab (if_pos rfl) fun s t h1 h2 => ?_
  by_cases hs : s = 0
  · rw [if_pos hs]
    omega
  · rw [if_neg hs, if_neg (by omega)]
    exact Nat.add_le_add_left (Nat.mul_le_mul_left _ h1) _
theorem curve_rate (r d : Nat) : Curve (Rc99.tab fun t => r * (t - d)) := by
  refine curve_tab (by show r * (0 - d) = 0; rw [Nat.zero_sub]; rfl) fun s t h1 h2 => ?_
  exact Nat.mul_le_mul_left _ (by omega)
theorem curve_made {what : Int} {f g h : List Nat} (F : Curve f) (G : Curve g) (e : Rc99.made what f g = some h) : Curve h := by
  unfold Rc99.made at e
  split at e
  · cases e; exact curve_lower F G
  · split at e
    · cases e; exact curve_sum F G
    · split at e
      · cases e; exact curve_conv F G
      · split at e
        · cases e; exact curve_deconv F G
        · split at e
          · cases e; exact curve_rest F G
          · split at e
            · cases e; exact curve_power 5 F
            · cases e
/-! ### the closing -/
/-- what the closing's loop has found behind t turns -/
def clos (f : List Nat) : Nat → List Nat
  | 0 => [0]
  | t + 1 => clos f t ++ [Rc99.least (Rc99.val f (t + 1) :: (List.range t).map fun i => Rc99.val (clos f t) (i + 1) + Rc99.val (clos f t) (t + 1 - (i + 1)))]
theorem clos_length (f : List Nat) : ∀ t, (clos f t).length = t + 1
  | 0 => rfl
  | t + 1 => by
    show (clos f t ++ [_]).length = _
    rw [List.length_append, clos_length f t]
    rfl
theorem val_append_left {a b : List Nat} {t : Nat} (h : t < a.length) : Rc99.val (a ++ b) t = Rc99.val a t := by
  unfold Rc99.val
  rw [List.getD_eq_getElem?_getD, List.getD_eq_getElem?_getD, List.getElem?_append_left h]
theorem val_last {a : List Nat} {x t : Nat} (h : t = a.length) : Rc99.val (a ++ [x]) t = x := by
  subst h
  unfold Rc99.val
  rw [List.getD_eq_getElem?_getD, List.getElem?_append_right (Nat.le_refl _), Nat.sub_self]
  rfl
theorem clos_val (f : List Nat) : ∀ {t u : Nat}, u ≤ t → Rc99.val (clos f t) u = Rc99.val (clos f u) u
  | 0, u, h => by
    obtain rfl : u = 0 := by omega
    rfl
  | t + 1, u, h => by
    by_cases hu : u = t + 1
    · subst hu
      rfl
    · have : Rc99.val (clos f (t + 1)) u = Rc99.val (clos f t) u := val_append_left (by rw [clos_length]; omega)
      rw [this]
      exact clos_val f (by omega)
/-- the closing by itself -/
def cl (f : List Nat) (t : Nat) : Nat := Rc99.val (clos f t) t
theorem cl_zero (f : List Nat) : cl f 0 = 0 := rfl
theorem cl_succ (f : List Nat) (t : Nat) : cl f (t + 1) = Rc99.least (Rc99.val f (t + 1) :: (List.range t).map fun i => cl f (i + 1) + cl f (t + 1 - (i + 1))) := by
  have e : cl f (t + 1) = Rc99.least (Rc99.val f (t + 1) :: (List.range t).map fun i => Rc99.val (clos f t) (i + 1) + Rc99.val (clos f t) (t + 1 - (i + 1))) := by
    unfold cl
    exact val_last (by rw [clos_length])
  rw [e]
  congr 2
  apply List.map_congr_left
  intro i hi
  have hi := List.mem_range.mp hi
  rw [clos_val f (show i + 1 ≤ t by omega), clos_val f (show t + 1 - (i + 1) ≤ t by omega)]
  rfl
theorem cl_le (f : List Nat) (h0 : Rc99.val f 0 = 0) : ∀ t, cl f t ≤ Rc99.val f t
  | 0 => by rw [cl_zero]; omega
  | t + 1 => by
    rw [cl_succ]
    exact least_le List.mem_cons_self
theorem cl_sub (f : List Nat) (s t : Nat) : cl f (s + t) ≤ cl f s + cl f t := by
  cases s with
  | zero => rw [Nat.zero_add]; omega
  | succ s =>
    cases t with
    | zero => rw [Nat.add_zero]; omega
    | succ t =>
      rw [show s + 1 + (t + 1) = (s + t + 1) + 1 by omega, cl_succ]
      refine Nat.le_trans (least_le (List.mem_cons_of_mem _ (List.mem_map.mpr ⟨s, List.mem_range.mpr (by omega), rfl⟩))) ?_
      rw [show s + t + 1 + 1 - (s + 1) = t + 1 by omega]
      exact Nat.le_refl _
theorem cl_le_power (f : List Nat) : ∀ (n : Nat) (h : List Nat), (∀ t, t < 33 → cl f t ≤ Rc99.val h t) → ∀ t, t < 33 → cl f t ≤ Rc99.val (Rc99.power n h) t
  | 0, _, H => H
  | n + 1, h, H => cl_le_power f n (Rc99.conv h h) fun t ht => by
    obtain ⟨k, hk, e⟩ := conv_at (f := h) (g := h) ht
    rw [e]
    have a := H k (by omega)
    have b := H (t - k) (by omega)
    have c := cl_sub f k (t - k)
    rw [show k + (t - k) = t by omega] at c
    omega
/-- neighbours joined -/
def pairs : List Nat → List Nat
  | a :: b :: r => (a + b) :: pairs r
  | l => l
theorem pairs_sum : ∀ l : List Nat, (pairs l).sum = l.sum
  | [] => rfl
  | [_] => rfl
  | a :: b :: r => by
    show ((a + b) :: pairs r).sum = _
    rw [List.sum_cons, pairs_sum r, List.sum_cons, List.sum_cons]
    omega
theorem pairs_length : ∀ (l : List Nat) (n : Nat), l.length ≤ 2 * n → (pairs l).length ≤ n
  | [], n, _ => Nat.zero_le _
  | [_], n, h => by
    have : ([_] : List Nat).length ≤ 2 * n := h
    simp only [List.length_cons, List.length_nil] at this
    show 1 ≤ n
    omega
  | a :: b :: r, n, h => by
    simp only [List.length_cons] at h
    have := pairs_length r (n - 1) (by omega)
    show (pairs r).length + 1 ≤ n
    omega
theorem pairs_cost {f : List Nat} (h0 : Rc99.val f 0 = 0) : ∀ l : List Nat, l.sum < 33 → ((pairs l).map (Rc99.val (Rc99.conv f f))).sum ≤ (l.map (Rc99.val f)).sum
  | [], _ => Nat.le_refl _
  | [a], h => by
    have e : ([a] : List Nat).sum = a := by simp
    have := conv_le (f := f) (g := f) (t := a) (k := a) (by omega) (Nat.le_refl _)
    rw [Nat.sub_self, h0] at this
    show ([Rc99.val (Rc99.conv f f) a]).sum ≤ ([Rc99.val f a]).sum
    simp only [List.sum_cons, List.sum_nil]
    omega
  | a :: b :: r, h => by
    rw [List.sum_cons, List.sum_cons] at h
    have ih := pairs_cost h0 r (by omega)
    have := conv_le (f := f) (g := f) (t := a + b) (k := a) (by omega) (by omega)
    rw [show a + b - a = b by omega] at this
    show (Rc99.val (Rc99.conv f f) (a + b) :: (pairs r).map (Rc99.val (Rc99.conv f f))).sum ≤ (Rc99.val f a :: Rc99.val f b :: r.map (Rc99.val f)).sum
    rw [List.sum_cons, List.sum_cons, List.sum_cons]
    omega
theorem power_le : ∀ (n : Nat) {f : List Nat}, Rc99.val f 0 = 0 → ∀ l : List Nat, l.sum < 33 → l.length ≤ 2 ^ n → Rc99.val (Rc99.power n f) l.sum ≤ (l.map (Rc99.val f)).sum
  | 0, f, h0, l, h, hl => by
    match l, hl with
    | [], _ =>
      show Rc99.val f 0 ≤ 0
      omega
    | [a], _ =>
      show Rc99.val f ([a] : List Nat).sum ≤ ([Rc99.val f a]).sum
      simp only [List.sum_cons, List.sum_nil, Nat.add_zero]
      exact Nat.le_refl _
    | a :: b :: r, hl =>
      simp only [List.length_cons] at hl
      omega
  | n + 1, f, h0, l, h, hl => by
    have e := pairs_sum l
    have c0 : Rc99.val (Rc99.conv f f) 0 = 0 := by
      have := conv_le (f := f) (g := f) (t := 0) (k := 0) (by omega) (by omega)
      rw [h0] at this
      omega
    have a := power_le n (f := Rc99.conv f f) c0 (pairs l) (by omega) (pairs_length l _ (by rw [Nat.pow_succ] at hl; omega))
    rw [e] at a
    exact Nat.le_trans a (pairs_cost h0 l h)
theorem cl_parts (f : List Nat) : ∀ (n t : Nat), t ≤ n → ∃ l : List Nat, l.sum = t ∧ l.length ≤ t ∧ (l.map (Rc99.val f)).sum = cl f t
  | n, 0, _ => ⟨[], rfl, Nat.le_refl _, rfl⟩
  | 0, t + 1, h => by omega
  | n + 1, t + 1, h => by
    have e := cl_succ f t
    have m := least_mem (l := Rc99.val f (t + 1) :: (List.range t).map fun i => cl f (i + 1) + cl f (t + 1 - (i + 1))) (by simp)
    rw [← e] at m
    rcases List.mem_cons.mp m with m | m
    · refine ⟨[t + 1], by simp, by simp, ?_⟩
      rw [m]
      simp
    · obtain ⟨i, hi, ei⟩ := List.mem_map.mp m
      have hi := List.mem_range.mp hi
      obtain ⟨l1, a1, b1, c1⟩ := cl_parts f n (i + 1) (by omega)
      obtain ⟨l2, a2, b2, c2⟩ := cl_parts f n (t + 1 - (i + 1)) (by omega)
      refine ⟨l1 ++ l2, ?_, ?_, ?_⟩
      · rw [List.sum_append, a1, a2]
        omega
      · rw [List.length_append]
        omega
      · rw [List.map_append, List.sum_append, c1, c2]
        exact ei
theorem close_val {f : List Nat} (h0 : Rc99.val f 0 = 0) {t : Nat} (h : t < 33) : Rc99.val (Rc99.close f) t = cl f t := by
  have a := cl_le_power f 5 f (fun t _ => cl_le f h0 t) t h
  obtain ⟨l, e, hl, ec⟩ := cl_parts f t t (Nat.le_refl _)
  have b := power_le 5 h0 l (by omega) (by show l.length ≤ 32; omega)
  rw [e, ec] at b
  show Rc99.val (Rc99.power 5 f) t = cl f t
  omega
theorem power_length : ∀ (n : Nat) {f : List Nat}, f.length = 33 → (Rc99.power n f).length = 33
  | 0, _, h => h
  | n + 1, f, _ => power_length n (tab_length _)
theorem close_is {f : List Nat} (h0 : Rc99.val f 0 = 0) (hl : f.length = 33) : clos f 32 = Rc99.close f := by
  refine ext_val ?_ fun t ht => ?_
  · rw [clos_length]
    exact (power_length 5 hl).symm
  · rw [clos_length] at ht
    rw [close_val h0 ht, clos_val f (by omega)]
    rfl
/-! ### flows -/
theorem total_zero (l : List Nat) : Rc99.total l 0 = 0 := rfl
theorem total_succ {l : List Nat} {i x : Nat} (h : l[i]? = some x) : Rc99.total l (i + 1) = Rc99.total l i + x := by
  unfold Rc99.total
  rw [List.take_add_one, h, List.sum_append]
  show _ + ([x] : List Nat).sum = _
  simp
theorem total_mono (l : List Nat) (s : Nat) : ∀ d, Rc99.total l s ≤ Rc99.total l (s + d)
  | 0 => Nat.le_refl _
  | d + 1 => by
    have ih := total_mono l s d
    cases e : l[s + d]? with
    | none =>
      have h1 : l.length ≤ s + d := List.getElem?_eq_none_iff.mp e
      have : Rc99.total l (s + (d + 1)) = Rc99.total l (s + d) := by
        unfold Rc99.total
        rw [List.take_of_length_le (by omega), List.take_of_length_le (by omega)]
      omega
    | some x =>
      have := total_succ e
      show _ ≤ Rc99.total l (s + d + 1)
      omega
/-- what has come by each time -/
def come (l : List Nat) : List Nat := (List.range (l.length + 1)).map (Rc99.total l)
theorem come_length (l : List Nat) : (come l).length = l.length + 1 := by
  unfold come
  rw [List.length_map, List.length_range]
theorem val_range {n : Nat} {g : Nat → Nat} {t : Nat} (h : t < n) : Rc99.val ((List.range n).map g) t = g t := by
  unfold Rc99.val
  rw [List.getD_eq_getElem?_getD, List.getElem?_map, List.getElem?_range h]
  rfl
theorem range_vals {f : List Nat} {n : Nat} (h : f.length = n) : (List.range n).map (Rc99.val f) = f := by
  refine ext_val (by rw [List.length_map, List.length_range, h]) fun t ht => ?_
  rw [List.length_map, List.length_range] at ht
  exact val_range ht
theorem come_val {l : List Nat} {t : Nat} (h : t ≤ l.length) : Rc99.val (come l) t = Rc99.total l t := val_range (by omega)
theorem through_le {f l : List Nat} {t k : Nat} (h : k ≤ t) : Rc99.through f l t ≤ Rc99.total l k + Rc99.val f (t - k) :=
  least_le (List.mem_map.mpr ⟨k, List.mem_range.mpr (by omega), rfl⟩)
theorem through_at (f l : List Nat) (t : Nat) : ∃ k, k ≤ t ∧ Rc99.through f l t = Rc99.total l k + Rc99.val f (t - k) := by
  obtain ⟨k, hk, e⟩ := List.mem_map.mp (least_mem (l := (List.range (t + 1)).map fun k => Rc99.total l k + Rc99.val f (t - k)) (by simp))
  have := List.mem_range.mp hk
  exact ⟨k, by omega, e.symm⟩
theorem through_mono {f l : List Nat} (F : Curve f) {t : Nat} (h : t < 32) : Rc99.through f l t ≤ Rc99.through f l (t + 1) := by
  obtain ⟨k, hk, e⟩ := through_at f l (t + 1)
  rw [e]
  by_cases hs : k ≤ t
  · have a := through_le (f := f) (l := l) (t := t) (k := k) hs
    have b := F.rises (t - k) (t + 1 - k) (by omega) (by omega)
    omega
  · obtain rfl : k = t + 1 := by omega
    have a := through_le (f := f) (l := l) (t := t) (k := t) (Nat.le_refl _)
    rw [Nat.sub_self, F.first] at a
    have b := total_mono l t 1
    omega
/-! ### how late -/
theorem find_range {p : Nat → Bool} : ∀ {n : Nat} {d : Nat}, d < n → p d = true → (∀ e, e < d → p e = false) → (List.range n).find? p = some d := by
  intro n d hd hp hb
  rw [List.find?_eq_some_iff_getElem]
  refine ⟨hp, d, by rw [List.length_range]; exact hd, by simp, fun j hj => ?_⟩
  rw [List.getElem_range, hb j hj]
  rfl
theorem find_none {p : Nat → Bool} {n : Nat} (h : ∀ e, e < n → p e = false) : (List.range n).find? p = none := by
  rw [List.find?_eq_none]
  intro x hx
  rw [h x (List.mem_range.mp hx)]
  exact Bool.false_ne_true
def lateStep (f g : List Nat) : Option Nat → Nat → Option Nat := fun (o : Option Nat) (t : Nat) => match o, Rc99.lateAt f g t with
  | some a, some b => some (max a b)
  | _, _ => none
theorem late_eq (f g : List Nat) : Rc99.late f g = (List.range 33).foldl (lateStep f g) (some 0) := rfl
theorem lateStep_none (f g : List Nat) : ∀ l : List Nat, l.foldl (lateStep f g) none = none
  | [] => rfl
  | t :: r => lateStep_none f g r
theorem late_fold_none (f g : List Nat) : ∀ (l : List Nat) (a : Nat), (∃ t ∈ l, Rc99.lateAt f g t = none) → l.foldl (lateStep f g) (some a) = none
  | [], a, h => by
    obtain ⟨t, ht, _⟩ := h
    cases ht
  | t :: r, a, h => by
    show r.foldl (lateStep f g) (lateStep f g (some a) t) = none
    cases e : Rc99.lateAt f g t with
    | none =>
      have : lateStep f g (some a) t = none := by
        unfold lateStep
        rw [e]
      rw [this]
      exact lateStep_none f g r
    | some b =>
      have : lateStep f g (some a) t = some (max a b) := by
        unfold lateStep
        rw [e]
      rw [this]
      refine late_fold_none f g r _ ?_
      obtain ⟨u, hu, eu⟩ := h
      rcases List.mem_cons.mp hu with rfl | hu
      · rw [e] at eu
        cases eu
      · exact ⟨u, hu, eu⟩
theorem late_fold_some (f g : List Nat) (d : Nat → Nat) : ∀ (l : List Nat) (a : Nat), (∀ t ∈ l, Rc99.lateAt f g t = some (d t)) → l.foldl (lateStep f g) (some a) = some ((l.map d).foldl max a)
  | [], a, h => rfl
  | t :: r, a, h => by
    have : lateStep f g (some a) t = some (max a (d t)) := by
      unfold lateStep
      rw [h t List.mem_cons_self]
    show r.foldl (lateStep f g) (lateStep f g (some a) t) = _
    rw [this]
    exact late_fold_some f g d r _ fun u hu => h u (List.mem_cons_of_mem _ hu)
theorem late_none {f g : List Nat} {t : Nat} (ht : t < 33) (h : Rc99.lateAt f g t = none) : Rc99.late f g = none := by
  rw [late_eq]
  exact late_fold_none f g _ _ ⟨t, List.mem_range.mpr ht, h⟩
theorem late_some {f g : List Nat} {d : Nat → Nat} (h : ∀ t, t < 33 → Rc99.lateAt f g t = some (d t)) : Rc99.late f g = some (Rc99.greatest ((List.range 33).map d)) := by
  rw [late_eq]
  exact late_fold_some f g d _ _ fun t ht => h t (List.mem_range.mp ht)
/-! ### tests over all -/
theorem all_range {p : Nat → Bool} {n : Nat} : (List.range n).all p = true ↔ ∀ i, i < n → p i = true := by
  rw [List.all_eq_true]
  exact ⟨fun h i hi => h i (List.mem_range.mpr hi), fun h i hi => h i (List.mem_range.mp hi)⟩
theorem under_true {f g : List Nat} (h : ∀ t, t < 33 → Rc99.val f t ≤ Rc99.val g t) : Rc99.under f g = true := all_range.mpr fun t ht => decide_eq_true (h t ht)
theorem under_false {f g : List Nat} {t : Nat} (ht : t < 33) (h : Rc99.val g t < Rc99.val f t) : Rc99.under f g = false := by
  cases e : Rc99.under f g with
  | false => rfl
  | true =>
    have := of_decide_eq_true (all_range.mp e t ht)
    omega
theorem within_true {f l : List Nat} (h : ∀ s t, s ≤ t → t ≤ l.length → Rc99.total l t ≤ Rc99.total l s + Rc99.val f (t - s)) : Rc99.within f l = true :=
  all_range.mpr fun t ht => all_range.mpr fun s hs => decide_eq_true (by have := h s t (by omega) (by omega); omega)
theorem within_false {f l : List Nat} {s t : Nat} (hs : s ≤ t) (ht : t ≤ l.length) (h : Rc99.total l s + Rc99.val f (t - s) < Rc99.total l t) : Rc99.within f l = false := by
  cases e : Rc99.within f l with
  | false => rfl
  | true =>
    have := of_decide_eq_true (all_range.mp (all_range.mp e t (by omega)) s (by omega))
    omega
/-- a row that never falls and whose last is not too great -/
theorem rising_true {l : List Nat} (h : ∀ i, i + 1 < l.length → Rc99.val l i ≤ Rc99.val l (i + 1)) : Rc99.rising l = true := all_range.mpr fun i hi => decide_eq_true (h i (by omega))
theorem rising_false {l : List Nat} {i : Nat} (hi : i + 1 < l.length) (h : Rc99.val l (i + 1) < Rc99.val l i) : Rc99.rising l = false := by
  cases e : Rc99.rising l with
  | false => rfl
  | true =>
    have : Rc99.val l i ≤ Rc99.val l (i + 1) := of_decide_eq_true (all_range.mp e i (by omega))
    omega
theorem rising_le {l : List Nat} (h : Rc99.rising l = true) (s : Nat) : ∀ d, s + d < l.length → Rc99.val l s ≤ Rc99.val l (s + d)
  | 0, _ => Nat.le_refl _
  | d + 1, hd => by
    have ih := rising_le h s d (by omega)
    have : Rc99.val l (s + d) ≤ Rc99.val l (s + d + 1) := of_decide_eq_true (all_range.mp h (s + d) (by omega))
    show _ ≤ Rc99.val l (s + d + 1)
    omega
theorem curve_row {l : List Nat} (hl : l.length = 32) (h : Rc99.rising l = true) : Curve (0 :: l) := by
  refine ⟨by rw [List.length_cons, hl], rfl, fun s t h1 h2 => ?_⟩
  cases s with
  | zero => exact Nat.zero_le _
  | succ s =>
    cases t with
    | zero => omega
    | succ t =>
      show Rc99.val l s ≤ Rc99.val l t
      have := rising_le h s (t - s) (by omega)
      rwa [show s + (t - s) = t by omega] at this
end Qc
set_option Elab.async false
set_option linter.all false
set_option maxRecDepth 100000
set_option maxHeartbeats 2000000
namespace Qc
open PySem PySem.Spec PyProof.Rows L2
/-! ### the text by places -/
def top (i : Nat) : Stmt := PySem.Challenge.pw_queuecurves_s01_answers.main.body.getD i (.Pass ⟨0, 0, 0, 0⟩)
/-! ### a def of the top: where it stands; what it promises -/
structure Fd (K : PySem.W.Frag) (mg : Str → Option Value) (x : Str) (st : Stmt) : Prop where
  ex : ∃ (f : Addr) (fd : FuncData), mg x = some (.ref f) ∧ Fun K x x st f fd
structure Df (P : Program) (w : World) (K : PySem.W.Frag) (mg : Str → Option Value) (base : Heap) (k : Nat) (x : Str) (ps : List Str) (sp : Sp) : Prop where
  ex : ∃ (f : Addr) (fd : FuncData), mg x = some (.ref f) ∧ PySem.W.keepIn K (.ref f) = true ∧ Binds K fd ps [] ∧ FnOk P w K mg base CX0 k f fd ps sp
section
variable {P : Program} {w : World} {mg : Str → Option Value} {K : PySem.W.Frag} {base : Heap}
theorem Df.of {x : Str} {st : Stmt} {N ps : List Str} {k : Nat} {sp : Sp} (F : Fd K mg x st) (S : FnScope N ps (defScope st))
    (hb : ∀ (kV doc pm : Value) (an : Option Addr) (cdv ct : Value) (us : List Value), us.length = ps.length → bindArgs (PySem.W.fnOf x x (defArgs st) (defBody st) (defScope st) .none kV doc pm an cdv ct) ⟨us, []⟩ = pure (ps.zip us))
    (len : ∀ us H Q E, sp us H Q E → us.length = ps.length)
    (hbody : ∀ (f : Addr) (cdv : Value) (A : Around) (outer : List Env) (s : Shared) (H : Hp) (vs : List V) (Q : VK) (E : XK), Room k (A.deeper (envOfC x (defScope st) s.heap.objs.size f cdv)) → sp vs H Q E →
      ∃ t, PSs (cxOf CX0 P w K mg base N x (defScope st) f cdv A outer s H E).nox (defBody st) t ∧ t { nx := fun _ H' => Q .non H', rt := Q } (start N vs) H) : Df P w K mg base (k + 1) x ps sp := by
  obtain ⟨f, fd, h1, h2⟩ := F.ex
  exact ⟨f, fd, h1, h2.kp, h2.binds hb, h2.ok S len (hbody f)⟩
end
section
variable {X : Cx} {k : Nat} {ps : List Str} {sp : Sp} {x : Str} {p pos : Pos} {e : Expr} {es : List Expr} {t : TA}
theorem pe_df (D : Df X.prog X.w X.K X.mg X.base k x ps sp) (hr : Room k X.A) (ha : PA X (e :: es) t) (hg : Gl X x := by rfl) (hdb : (x == ("__debug__" : Str)) = false := by decide)
    (he : starEach (e :: es) X.env = (false, eval e X.env) :: starEach es X.env := by rfl) (hpl : (backTo pos (starEach es X.env)).any (·.1) = false := by rfl) : PE X (.Call (.Name x p) (e :: es) [] pos) (tCall sp [] E0 t) := by
  obtain ⟨f, fd, h1, h2, h3, h4⟩ := D.ex
  exact pe_call h4 hr hg h1 h2 h3 .nil pass0 ha hdb he hpl
theorem pe_df0 (D : Df X.prog X.w X.K X.mg X.base k x ps sp) (hr : Room k X.A) (hg : Gl X x := by rfl) (hdb : (x == ("__debug__" : Str)) = false := by decide) : PE X (.Call (.Name x p) [] [] pos) (tCall sp [] E0 tNil) := by
  obtain ⟨f, fd, h1, h2, h3, h4⟩ := D.ex
  exact pe_call0 h4 hr hg h1 h2 h3 .nil pass0 hdb
/-- a constant of the module, a whole number -/
theorem pe_k {z : Int} (hm : ∃ t, X.mg x = some (.int z t)) (hg : Gl X x := by rfl) (hd : (x == ("__debug__" : Str)) = false := by decide) : PE X (.Name x pos) (tC (.int z)) := by
  obtain ⟨t, h⟩ := hm
  exact pe_glob hg h ⟨t, rfl⟩ hd
end
/-- xs[i] of a list, the written part told -/
theorem pe_at {X : Cx} (K : PySem.W.Frag) {a b : Expr} {ta tb : TE} {pos : Pos} (ha : PE X a ta) (hb : PE X b tb) (hK : X.K = K := by rfl) (hs : PlainIx b := by exact (fun _ _ => rfl)) : PE X (.Subscript a b pos) (tOp (rIxL K) ta tb) := by
  subst hK
  exact pe_ix ix_list ha hb hs
/-- min(xs), max(xs) of whole numbers, the written part told -/
theorem pe_minL {X : Cx} (K : PySem.W.Frag) {e : Expr} {te : TE} {p pos : Pos} (hm : X.mg "min" = none) (ha : PE X e te) (hK : X.K = K := by rfl) (hc : X.calm = true := by rfl) (hg : Gl X "min" := by rfl)
    (h1 : starEach [e] X.env = (false, eval e X.env) :: starEach [] X.env := by rfl) : PE X (.Call (.Name "min" p) [e] [] pos) (tCB (rMin K) (tCons te tNil)) := by
  subst hK
  exact pe_callB (cr_min hc) hg hm (by decide +kernel) (pa_cons ha pa_nil h1) (by decide) (by decide) h1 rfl
theorem pe_maxL {X : Cx} (K : PySem.W.Frag) {e : Expr} {te : TE} {p pos : Pos} (hm : X.mg "max" = none) (ha : PE X e te) (hK : X.K = K := by rfl) (hc : X.calm = true := by rfl) (hg : Gl X "max" := by rfl)
    (h1 : starEach [e] X.env = (false, eval e X.env) :: starEach [] X.env := by rfl) : PE X (.Call (.Name "max" p) [e] [] pos) (tCB (rMax K) (tCons te tNil)) := by
  subst hK
  exact pe_callB (cr_max hc) hg hm (by decide +kernel) (pa_cons ha pa_nil h1) (by decide) (by decide) h1 rfl
/-! ### heaps -/
abbrev LL (l : List Nat) : HO := .lst ((iv l).map V.int)
abbrev SL (K : PySem.W.Frag) (H : Hp) (a : Addr) (l : List Nat) : Prop := SqL K H a ((iv l).map V.int)
theorem same_upd {H : Hp} {o : HO} {p : Addr} (h : H p = none) : Same H (upd H p o) := fun b x e => by
  rw [upd_ne (ne_of_none e h)]
  exact e
theorem same_put {H H' : Hp} {p : Addr} {o : HO} (s : Same H H') (h : H p = none) : Same H (upd H' p o) := fun b x e => by
  rw [upd_ne (ne_of_none e h)]
  exact s b x e
/-- a new list of naturals is handed back, all else stands -/
def RetL (H : Hp) (l : List Nat) (Q : VK) : Prop := ∀ (H' : Hp) (p : Addr), Same H H' → H p = none → H' p = some (LL l) → Q (.ref p) H'
/-- a value is handed back, all stands -/
def RetV (H : Hp) (v : V) (Q : VK) : Prop := ∀ H' : Hp, Same H H' → Q v H'
theorem small99 {n : Nat} (h : n ≤ 1000) : n < sizeLine := small1000 h
theorem small_le {n : Nat} (h : n ≤ 1000) : n ≤ sizeLine := Nat.le_of_lt (small1000 h)
theorem at_iv {f : List Nat} {z : Int} {k : Nat} (e : z = (k : Int)) (h : k < f.length) : atI ((iv f).map V.int) z = some (.int ((Rc99.val f k : Nat) : Int)) :=
  at_of e (by rw [List.getElem?_map, iv_get h]; rfl)
theorem iv_getV {f : List Nat} {k : Nat} (h : k < f.length) : ((iv f).map V.int)[k]? = some (.int ((Rc99.val f k : Nat) : Int)) := by
  rw [List.getElem?_map, iv_get h]
  rfl
theorem ll_length (l : List Nat) : ((iv l).map V.int).length = l.length := by rw [List.length_map, iv_length]
/-! ### comprehensions whose turns leave what stands -/
section
variable {n : Nat} {J : It} {Y : Nat → Hp → V → Hp → Prop} {G : Hp → Prop}
theorem lc_map (w : Walk J n G Y) {gT : TG} {te : TE} {vs : List Nat} {σ : L2.St} {H1 : Hp} {D : Addr} {Qd : Hp → Prop} (g : Nat → V) (nD : H1 D = none) (hn : n ≤ 1000) (hG : ∀ H, Same H1 H → G H)
    (hs : ∀ (i : Nat) (x : V) (H H' : Hp) (Qx : VK), i < n → Same H1 H → Y i H x H' → (∀ H4, Same H H4 → Qx (g i) H4) → gT x (wipe σ vs) H' fun σ2 H2 => wipe σ2 vs = wipe σ vs ∧ te σ2 H2 Qx)
    (mg : ∀ (x : V) (σ : L2.St) (H : Hp) (R R' : L2.St → Hp → Prop), (∀ σ2 H2, R σ2 H2 → R' σ2 H2) → gT x σ H R → gT x σ H R')
    (hd : ∀ H, Same H1 H → H D = some (.lst ((List.range n).map g)) → Qd H) :
    ∃ Wd : Nat → Nat → Hp → Prop, (∃ u, Wd 0 u (upd H1 D (.lst []))) ∧ ∀ i u Hi, Wd i u Hi →
      (J.stop i Hi ∧ Qd Hi) ∨ (J.go i Hi ∧ ∃ Af : Hp → Prop, (∀ Hn, Af Hn → ∃ v, v < u ∧ Wd (i + 1) v Hn) ∧ ∀ x Hn, J.yld i Hi x Hn → gT x (wipe σ vs) Hn fun σt Ht => wipe σt vs = wipe σ vs ∧ tYes σt Ht fun b Hb =>
        if b = true then te σt Hb fun y Hy => ∃ so, Hy D = some (.lst so) ∧ so.length < sizeLine ∧ Af (upd Hy D (.lst (so ++ [y]))) else Af Hb) := by
  refine lc_it w (fun i H => Same H1 H ∧ H D = some (.lst ((List.range i).map g))) ⟨same_upd nD, upd_same⟩ (fun i H _ p => hG H p.1) (fun i x H H' hi ⟨p1, p2⟩ y => ?_) (fun H p => hd H p.1 p.2)
  have key := hs i x H H' (fun y H4 => ∃ acc, H4 D = some (.lst acc) ∧ acc.length < sizeLine ∧ (Same H1 (upd H4 D (.lst (acc ++ [y]))) ∧ (upd H4 D (.lst (acc ++ [y]))) D = some (.lst ((List.range (i + 1)).map g)))) hi p1 y fun H4 s4 => ?_
  · exact mg x _ H' _ _ (fun σ2 H2 q => ⟨q.1, q.2⟩) key
  refine ⟨_, s4 _ _ p2, by rw [List.length_map, List.length_range]; exact small1000 (by omega), fun b o e => ?_, ?_⟩
  · rw [upd_ne (ne_of_none e nD)]
    exact s4 _ _ (p1 _ _ e)
  · rw [upd_same, List.range_succ, List.map_append]
    rfl
end
theorem mono_name {i : Nat} (x : V) (σ : L2.St) (H : Hp) (R R' : L2.St → Hp → Prop) (h : ∀ σ2 H2, R σ2 H2 → R' σ2 H2) (q : gName i x σ H R) : gName i x σ H R' := h _ _ q
theorem mono_pair {K : PySem.W.Frag} {i j : Nat} (x : V) (σ : L2.St) (H : Hp) (R R' : L2.St → Hp → Prop) (h : ∀ σ2 H2, R σ2 H2 → R' σ2 H2) (q : gTup K 2 (gCons (gName i) (gCons (gName j) gNil)) x σ H R) : gTup K 2 (gCons (gName i) (gCons (gName j) gNil)) x σ H R' := by
  obtain ⟨a, xs, e1, e2, e3, v, r, e4, v2, r2, e5, e6, q⟩ := q
  exact ⟨a, xs, e1, e2, e3, v, r, e4, v2, r2, e5, e6, h _ _ q⟩
/-- the list that a comprehension of whole numbers made -/
theorem range_ints {n : Nat} {g : Nat → V} (f : Nat → Nat) (e : ∀ i, i < n → g i = .int ((f i : Nat) : Int)) : (List.range n).map g = (iv ((List.range n).map f)).map V.int := by
  unfold iv
  rw [List.map_map, List.map_map]
  exact List.map_congr_left fun i hi => e i (List.mem_range.mp hi)
end Qc
set_option Elab.async false
set_option linter.all false
set_option maxRecDepth 100000
set_option maxHeartbeats 4000000
namespace Qc
open PySem PySem.Spec PyProof.Rows L2
/-- what the top has written of constants, and that the built-ins are as they were -/
structure Cst (mg : Str → Option Value) : Prop where
  LAST : ∃ t, mg "LAST" = some (.int 32 t)
  MOST : ∃ t, mg "MOST" = some (.int 1000000 t)
  CURVES : ∃ t, mg "CURVES" = some (.int 8 t)
  LEAST : ∃ t, mg "LEAST_OF_BOTH" = some (.int 0 t)
  SUM : ∃ t, mg "SUM" = some (.int 1 t)
  AFTER : ∃ t, mg "AFTER" = some (.int 2 t)
  LEFT : ∃ t, mg "LEFT" = some (.int 3 t)
  OVER : ∃ t, mg "OVER" = some (.int 4 t)
  CLOSING : ∃ t, mg "CLOSING" = some (.int 5 t)
  SLOTSF : ∃ t, mg "MOST_SLOTS_flows" = some (.int 32 t)
  SLOTSD : ∃ t, mg "MOST_SLOTS_desk" = some (.int 32 t)
  OUT : ∃ t, mg "OUT" = some (.int (-1) t)
  CANNOT : ∃ t, mg "CANNOT_BE" = some (.int (-2) t)
  BEGIN : ∃ t, mg "BEGIN" = some (.int 0 t)
  list : mg "list" = none
  range : mg "range" = none
  max : mg "max" = none
  min : mg "min" = none
  zip : mg "zip" = none
  len : mg "len" = none
  int : mg "int" = none
abbrev sTimes : Stmt := top 10
abbrev sNothing : Stmt := top 11
abbrev sLine : Stmt := top 12
abbrev sRate : Stmt := top 13
abbrev sLeast : Stmt := top 14
abbrev sTotal : Stmt := top 15
abbrev sAfter : Stmt := top 16
/-! ### what is walked -/
theorem walk_times {K : PySem.W.Frag} {a : Addr} : Walk (Itl K a) 33 (fun H => SL K H a (List.range 33)) (YFn fun i => .int (i : Nat)) := by
  refine Walk.mono (walk_list (K := K) (a := a) (xs := (iv (List.range 33)).map V.int)) (fun _ h => h) (fun i H x H' hi _ y => ⟨y.1, ?_⟩)
  have hi : i < 33 := hi
  have e := y.2
  rw [iv_getV (by rw [List.length_range]; exact hi)] at e
  have v : Rc99.val (List.range 33) i = i := by
    unfold Rc99.val
    rw [List.getD_eq_getElem?_getD, List.getElem?_range hi]
    rfl
  rw [v] at e
  exact (Option.some.inj e).symm
theorem walk_fg {K : PySem.W.Frag} {a b : Addr} {f g : List Nat} (hf : f.length = 33) (hg : g.length = 33) :
    Walk (Itz K a b) 33 (fun H => SL K H a f ∧ SL K H b g) (fun i H v H' => ∃ T, v = .ref T ∧ H T = none ∧ H' = upd H T (.tup [.int ((Rc99.val f i : Nat) : Int), .int ((Rc99.val g i : Nat) : Int)])) := by
  refine Walk.mono (walk_zip (K := K) (a := a) (b := b) (xs := (iv f).map V.int) (ys := (iv g).map V.int) (n := 33) (by rw [ll_length, ll_length, hf, hg]; rfl)) (fun _ h => h) (fun i H x H' hi _ y => ?_)
  obtain ⟨T, x1, y1, e1, e2, e3, e4, e5⟩ := y
  have e4 : ((iv f).map V.int)[i]? = some x1 := e4
  have e5 : ((iv g).map V.int)[i]? = some y1 := e5
  rw [iv_getV (by omega)] at e4 e5
  cases e4
  cases e5
  exact ⟨T, e1, e2, e3⟩
/-- [0] + the table from 1 on -/
theorem zero_tab {g : Nat → V} (F : Nat → Nat) (h0 : F 0 = 0) (e : ∀ i, i < 32 → g i = .int ((F (i + 1) : Nat) : Int)) : [V.int 0] ++ (List.range 32).map g = (iv (Rc99.tab F)).map V.int := by
  have e2 : (iv (Rc99.tab F)).map V.int = V.int 0 :: (List.range 32).map (fun i => V.int ((F (i + 1) : Nat) : Int)) := by
    unfold Rc99.tab iv
    rw [show List.range (Rc99.LAST + 1) = 0 :: (List.range 32).map Nat.succ from List.range_succ_eq_map, List.map_cons, List.map_cons, List.map_cons, h0, List.map_map, List.map_map, List.map_map]
    rfl
  rw [e2]
  show V.int 0 :: (List.range 32).map g = V.int 0 :: _
  congr 1
  exact List.map_congr_left fun i hi => e i (List.mem_range.mp hi)
/-! ### promises -/
def spTimes : Sp := fun vs H Q _ => vs = [] ∧ RetL H (List.range 33) Q
def spNothing : Sp := fun vs H Q _ => vs = [] ∧ RetL H (List.replicate 33 0) Q
def spLine : Sp := fun vs H Q _ => ∃ b r : Nat, vs = [.int b, .int r] ∧ b + 32 * r ≤ 1000000 ∧ RetL H (Rc99.tab fun t => if t = 0 then 0 else b + r * t) Q
def spRate : Sp := fun vs H Q _ => ∃ r d : Nat, vs = [.int r, .int d] ∧ 32 * r ≤ 1000000 ∧ RetL H (Rc99.tab fun t => r * (t - d)) Q
/-- a curve of two -/
def spFG (K : PySem.W.Frag) (op : List Nat → List Nat → List Nat) : Sp := fun vs H Q _ => ∃ (a b : Addr) (f g : List Nat), vs = [.ref a, .ref b] ∧ SL K H a f ∧ SL K H b g ∧ f.length = 33 ∧ g.length = 33 ∧ RetL H (op f g) Q
section
variable {P : Program} {w : World} {mg : Str → Option Value} {K : PySem.W.Frag} {base : Heap}
theorem scTimes : FnScope [] [] (defScope sTimes) := ⟨rfl, rfl, rfl, by decide +kernel, rfl, by decide +kernel, by decide +kernel⟩
theorem ok_times (C : Cst mg) (F : Fd K mg "times" sTimes) : Df P w K mg base 1 "times" [] spTimes := by
  refine Df.of F scTimes (fun _ _ _ _ _ _ us hl => match us, hl with | [], _ => rfl) (fun vs H Q E h => by rw [h.1]; rfl) (fun f cdv A outer s H vs Q E hr h => ?_)
  obtain ⟨rfl, k⟩ := h
  refine ⟨_, pss_one (ps_ret (pe_listRg rfl (by rfl) C.list (prg_1 (by rfl) C.range (pe_op op_add (pe_k C.LAST) pe_int)))), ?_⟩
  refine ⟨_, _, rfl, rfl, _, rfl, ⟨by decide, by decide, by decide, by decide, by decide⟩, fun q hq => ?_⟩
  exact k _ q (same_upd hq) hq upd_same
theorem scNothing : FnScope [] [] (defScope sNothing) := ⟨rfl, rfl, rfl, by decide +kernel, rfl, by decide +kernel, by decide +kernel⟩
theorem ok_nothing (C : Cst mg) (F : Fd K mg "nothing" sNothing) : Df P w K mg base 1 "nothing" [] spNothing := by
  refine Df.of F scNothing (fun _ _ _ _ _ _ us hl => match us, hl with | [], _ => rfl) (fun vs H Q E h => by rw [h.1]; rfl) (fun f cdv A outer s H vs Q E hr h => ?_)
  obtain ⟨rfl, k⟩ := h
  refine ⟨_, pss_one (ps_ret (pe_op op_rep (pe_lst (pa_cons pe_int pa_nil)) (pe_op op_add (pe_k C.LAST) pe_int))), ?_⟩
  refine ⟨small_le (by decide), fun l hl => ⟨_, _, rfl, rfl, l, _, _, rfl, rfl, upd_same, by decide, by decide, small_le (by decide), fun q hq => ?_⟩⟩
  exact k _ q (Same.trans (same_upd hl) (same_upd hq)) ((same_upd hl).free hq) upd_same
theorem scLine : FnScope ["b", "r", "t"] ["b", "r"] (defScope sLine) := ⟨rfl, rfl, rfl, by decide +kernel, rfl, by decide +kernel, by decide +kernel⟩
theorem ok_line (C : Cst mg) (F : Fd K mg "line" sLine) : Df P w K mg base 1 "line" ["b", "r"] spLine := by
  refine Df.of F scLine (fun _ _ _ _ _ _ us hl => match us, hl with | [_, _], _ => rfl) (fun vs H Q E ⟨b, r, h, _⟩ => by rw [h]; rfl) (fun f cdv A outer s H vs Q E hr h => ?_)
  obtain ⟨b, r, rfl, hm, k⟩ := h
  refine ⟨_, pss_one (ps_ret (pe_op op_cat (pe_lst (pa_cons pe_int pa_nil)) (pe_lc (own := [("t", 2)]) (g := gName 2) (tt := tYes) rfl scLine.nd
    (pi_range2 (by rfl) C.range (pa_cons pe_int (pa_cons (pe_op op_add (pe_k C.LAST) pe_int) pa_nil))) (blkOk_by (N := ["b", "r", "t"]) (sc := defScope sLine) (by decide +kernel))
    (fun _ _ _ _ _ => pg_name (i := 2) scLine.nd rfl (Or.inl rfl)) (fun _ _ _ _ _ => pts_nil) (fun _ _ _ _ _ => pe_op op_add (pv 0) (pe_op op_mul (pv 1) (pv 2)))))), ?_⟩
  refine ⟨small_le (by decide), fun l hl => ⟨_, _, rfl, rfl, _, _, rfl, ⟨by decide, by decide, by decide, by decide⟩, fun D nD => lc_map (n := 32) walk_range (fun i => .int ((b : Int) + (r : Int) * (1 + (i : Nat)))) nD (by decide) (fun _ _ => trivial) ?_ mono_name ?_⟩⟩
  · rintro i x H1 H2 Qx hi sm ⟨rfl, rfl⟩ q
    exact ⟨rfl, _, rfl, _, rfl, _, rfl, _, _, rfl, rfl, .inl ⟨by omega, by omega⟩, _, _, rfl, rfl, q _ (Same.refl _)⟩
  · intro H2 sm eD
    refine ⟨l, D, _, _, rfl, rfl, sm _ _ upd_same, eD, ?_, fun p hp => ?_⟩
    · rw [List.length_map, List.length_range]
      exact small_le (by decide)
    · refine k _ p (Same.trans (Same.trans (same_upd hl) sm) (same_upd hp)) ((Same.trans (same_upd hl) sm).free hp) ?_
      rw [upd_same, zero_tab (fun t => if t = 0 then 0 else b + r * t) rfl fun i hi => ?_]
      rw [if_neg (Nat.succ_ne_zero i)]
      congr 1
      push_cast
      rw [Int.add_comm 1]
theorem scRate : FnScope ["r", "d", "t"] ["r", "d"] (defScope sRate) := ⟨rfl, rfl, rfl, by decide +kernel, rfl, by decide +kernel, by decide +kernel⟩
theorem ok_rate (C : Cst mg) (F : Fd K mg "rate" sRate) (DT : Df P w K mg base 1 "times" [] spTimes) : Df P w K mg base 2 "rate" ["r", "d"] spRate := by
  refine Df.of F scRate (fun _ _ _ _ _ _ us hl => match us, hl with | [_, _], _ => rfl) (fun vs H Q E ⟨b, r, h, _⟩ => by rw [h]; rfl) (fun f cdv A outer s H vs Q E hr h => ?_)
  obtain ⟨r, d, rfl, hm, k⟩ := h
  refine ⟨_, pss_one (ps_ret (pe_lc (own := [("t", 2)]) (g := gName 2) (tt := tYes) rfl scRate.nd
    (pi_list (pe_df0 DT hr)) (blkOk_by (N := ["r", "d", "t"]) (sc := defScope sRate) (by decide +kernel))
    (fun _ _ _ _ _ => pg_name (i := 2) scRate.nd rfl (Or.inl rfl)) (fun _ _ _ _ _ => pts_nil) (fun _ _ _ _ _ => pe_op op_mul (pv 0) (pe_callB (call_max2 rfl) (by rfl) C.max (by decide +kernel) (pa_cons pe_int (pa_cons (pe_op op_sub (pv 2) (pv 1)) pa_nil)))))), ?_⟩
  refine ⟨rfl, fun H1 p s1 n1 e1 => ⟨p, rfl, ⟨_, SqL.of e1⟩, fun D nD => lc_map walk_times (fun i => .int ((r * (i - d) : Nat) : Int)) nD (by decide) (fun H s => s.seq (SqL.of e1)) ?_ mono_name ?_⟩⟩
  · rintro i x H2 H3 Qx hi sm ⟨rfl, rfl⟩ q
    refine ⟨rfl, _, rfl, _, rfl, _, rfl, _, _, rfl, rfl, _, _, rfl, _, _, rfl, rfl, .inl ⟨by omega, by omega⟩, ?_⟩
    have e : ((r : Int) * (if ((i : Nat) : Int) - (d : Int) > 0 then ((i : Nat) : Int) - (d : Int) else 0)) = ((r * (i - d) : Nat) : Int) := by
      rw [Int.natCast_mul]
      congr 1
      split <;> omega
    show Qx (V.int ((r : Int) * (if ((i : Nat) : Int) - (d : Int) > 0 then ((i : Nat) : Int) - (d : Int) else 0))) H3
    rw [e]
    exact q _ (Same.refl _)
  · intro H2 sm eD
    refine k H2 D (Same.trans s1 sm) (s1.free nD) ?_
    rw [eD, range_ints (fun i => r * (i - d)) fun i hi => rfl]
    rfl
theorem scLeast : FnScope ["f", "g", "one", "other"] ["f", "g"] (defScope sLeast) := ⟨rfl, rfl, rfl, by decide +kernel, rfl, by decide +kernel, by decide +kernel⟩
theorem ok_least (C : Cst mg) (F : Fd K mg "least" sLeast) : Df P w K mg base 1 "least" ["f", "g"] (spFG K Rc99.lower) := by
  refine Df.of F scLeast (fun _ _ _ _ _ _ us hl => match us, hl with | [_, _], _ => rfl) (fun vs H Q E ⟨_, _, _, _, h, _⟩ => by rw [h]; rfl) (fun f cdv A outer s H vs Q E hr h => ?_)
  obtain ⟨a, b, f, g, rfl, ha, hb, lf, lg, k⟩ := h
  refine ⟨_, pss_one (ps_ret (pe_lc (own := [("one", 2), ("other", 3)]) (g := gTup K 2 (gCons (gName 2) (gCons (gName 3) gNil))) (tt := tYes) rfl scLeast.nd
    (pi_zip (by rfl) C.zip (pa_cons (pv 0) (pa_cons (pv 1) pa_nil))) (blkOk_by (N := ["f", "g", "one", "other"]) (sc := defScope sLeast) (by decide +kernel))
    (fun _ _ _ _ _ => pg_tup rfl (pgs_cons (pg_name (i := 2) scLeast.nd rfl (.inl rfl)) (pgs_cons (pg_name (i := 3) scLeast.nd rfl (.inl rfl)) pgs_nil))) (fun _ _ _ _ _ => pts_nil)
    (fun _ _ _ _ _ => pe_callB (call_min2 rfl) (by rfl) C.min (by decide +kernel) (pa_cons (pv 2) (pa_cons (pv 3) pa_nil))))), ?_⟩
  refine ⟨_, rfl, _, rfl, a, b, _, _, rfl, ha, hb, fun D nD => lc_map (walk_fg lf lg) (fun i => .int ((min (Rc99.val f i) (Rc99.val g i) : Nat) : Int)) nD (by decide) (fun H s => ⟨s.seq ha, s.seq hb⟩) ?_ mono_pair ?_⟩
  · rintro i x H2 H3 Qx hi sm ⟨T, rfl, nT, rfl⟩ q
    refine ⟨T, _, rfl, SqT.of upd_same, rfl, _, _, rfl, _, _, rfl, rfl, rfl, _, rfl, _, rfl, _, _, rfl, ?_⟩
    have e : (if ((Rc99.val g i : Nat) : Int) < ((Rc99.val f i : Nat) : Int) then ((Rc99.val g i : Nat) : Int) else ((Rc99.val f i : Nat) : Int)) = ((min (Rc99.val f i) (Rc99.val g i) : Nat) : Int) := by
      split <;> omega
    rw [e]
    exact q _ (same_upd nT)
  · intro H2 sm eD
    refine k H2 D sm nD ?_
    rw [eD, range_ints (fun i => min (Rc99.val f i) (Rc99.val g i)) fun i hi => rfl]
    rfl
end
end Qc
set_option Elab.async false
set_option linter.all false
set_option maxRecDepth 100000
set_option maxHeartbeats 4000000
namespace Qc
open PySem PySem.Spec PyProof.Rows L2
abbrev sLeftAt : Stmt := top 17
abbrev sLeft : Stmt := top 18
abbrev sOverAt : Stmt := top 19
abbrev sOver : Stmt := top 20
abbrev sClosing : Stmt := top 21
/-- a list comprehension's own scope -/
def lcScope : Expr → Scope
  | .ListComp _ _ sc _ => sc
  | _ => { names := [], kind := .function, isCoroutine := false, isGenerator := false }
/-- what a def returns in its i-th statement -/
def retAt (st : Stmt) (i : Nat) : Expr := match (defBody st).getD i (.Pass ⟨0, 0, 0, 0⟩) with
  | .Return (some e) _ => e
  | _ => .Constant .none 0 ⟨0, 0, 0, 0⟩
def oneAt (val : List Nat → List Nat → Nat → Nat) (K : PySem.W.Frag) (lo : Nat) : Sp := fun vs H Q _ => ∃ (a b : Addr) (f g : List Nat) (t : Nat), vs = [.ref a, .ref b, .int t] ∧ SL K H a f ∧ SL K H b g ∧ f.length = 33 ∧ g.length = 33 ∧ lo ≤ t ∧ t < 33 ∧ RetV H (.int ((val f g t : Nat) : Int)) Q
def leftVal (f g : List Nat) (t : Nat) : Nat := Rc99.greatest ((List.range (32 - t + 1)).map fun u => Rc99.val f (t + u) - Rc99.val g u)
def overVal (f g : List Nat) (t : Nat) : Nat := Rc99.greatest ((List.range (t + 1)).map fun u => Rc99.val f u - Rc99.val g u)
def spClosing (K : PySem.W.Frag) : Sp := fun vs H Q _ => ∃ (a : Addr) (f : List Nat), vs = [.ref a] ∧ SL K H a f ∧ f.length = 33 ∧ RetL H (clos f 32) Q
/-- a list of differences that a comprehension made, 0 ahead -/
theorem map_ints {n : Nat} {g : Nat → V} (d : Nat → Int) (e : ∀ i, i < n → g i = .int (d i)) : (List.range n).map g = ((List.range n).map d).map V.int := by
  rw [List.map_map]
  exact List.map_congr_left fun i hi => e i (List.mem_range.mp hi)
theorem map_toNat {n : Nat} (a b : Nat → Nat) : ((List.range n).map fun i => ((a i : Nat) : Int) - ((b i : Nat) : Int)).map Int.toNat = (List.range n).map fun i => a i - b i := by
  rw [List.map_map]
  exact List.map_congr_left fun i _ => by
    show (((a i : Nat) : Int) - ((b i : Nat) : Int)).toNat = a i - b i
    omega
section
variable {P : Program} {w : World} {mg : Str → Option Value} {K : PySem.W.Frag} {base : Heap}
theorem scTotal : FnScope ["f", "g", "one", "other"] ["f", "g"] (defScope sTotal) := ⟨rfl, rfl, rfl, by decide +kernel, rfl, by decide +kernel, by decide +kernel⟩
theorem ok_total (C : Cst mg) (F : Fd K mg "total" sTotal) : Df P w K mg base 1 "total" ["f", "g"] (spFG K Rc99.sum) := by
  refine Df.of F scTotal (fun _ _ _ _ _ _ us hl => match us, hl with | [_, _], _ => rfl) (fun vs H Q E ⟨_, _, _, _, h, _⟩ => by rw [h]; rfl) (fun f cdv A outer s H vs Q E hr h => ?_)
  obtain ⟨a, b, f, g, rfl, ha, hb, lf, lg, k⟩ := h
  refine ⟨_, pss_one (ps_ret (pe_lc (own := [("one", 2), ("other", 3)]) (g := gTup K 2 (gCons (gName 2) (gCons (gName 3) gNil))) (tt := tYes) rfl scTotal.nd
    (pi_zip (by rfl) C.zip (pa_cons (pv 0) (pa_cons (pv 1) pa_nil))) (blkOk_by (N := ["f", "g", "one", "other"]) (sc := defScope sTotal) (by decide +kernel))
    (fun _ _ _ _ _ => pg_tup rfl (pgs_cons (pg_name (i := 2) scTotal.nd rfl (.inl rfl)) (pgs_cons (pg_name (i := 3) scTotal.nd rfl (.inl rfl)) pgs_nil))) (fun _ _ _ _ _ => pts_nil)
    (fun _ _ _ _ _ => pe_op op_add (pv 2) (pv 3)))), ?_⟩
  refine ⟨_, rfl, _, rfl, a, b, _, _, rfl, ha, hb, fun D nD => lc_map (walk_fg lf lg) (fun i => .int (((Rc99.val f i : Nat) : Int) + ((Rc99.val g i : Nat) : Int))) nD (by decide) (fun H s => ⟨s.seq ha, s.seq hb⟩) ?_ mono_pair ?_⟩
  · rintro i x H2 H3 Qx hi sm ⟨T, rfl, nT, rfl⟩ q
    exact ⟨T, _, rfl, SqT.of upd_same, rfl, _, _, rfl, _, _, rfl, rfl, rfl, _, rfl, _, rfl, _, _, rfl, rfl, q _ (same_upd nT)⟩
  · intro H2 sm eD
    refine k H2 D sm nD ?_
    rw [eD, range_ints (fun i => Rc99.val f i + Rc99.val g i) fun i hi => by rw [Int.natCast_add]]
    rfl
theorem scAfter : FnScope ["f", "g", "t", "k"] ["f", "g"] (defScope sAfter) := ⟨rfl, rfl, rfl, by decide +kernel, rfl, by decide +kernel, by decide +kernel⟩
theorem ok_after (C : Cst mg) (F : Fd K mg "after" sAfter) (DT : Df P w K mg base 1 "times" [] spTimes) : Df P w K mg base 2 "after" ["f", "g"] (spFG K Rc99.conv) := by
  refine Df.of F scAfter (fun _ _ _ _ _ _ us hl => match us, hl with | [_, _], _ => rfl) (fun vs H Q E ⟨_, _, _, _, h, _⟩ => by rw [h]; rfl) (fun f cdv A outer s H vs Q E hr h => ?_)
  obtain ⟨a, b, f, g, rfl, ha, hb, lf, lg, k⟩ := h
  refine ⟨_, pss_one (ps_ret (pe_lc (own := [("t", 2)]) (g := gName 2) (tt := tYes) rfl scAfter.nd
    (pi_list (pe_df0 DT hr)) (blkOk_by (N := ["f", "g", "t", "k"]) (sc := defScope sAfter) (by decide +kernel))
    (fun _ _ _ _ _ => pg_name (i := 2) scAfter.nd rfl (Or.inr rfl)) (fun _ _ _ _ _ => pts_nil)
    (fun _ _ _ _ _ => pe_minL K C.min ((pe_lc (own := [("k", 3)]) (g := gName 3) (tt := tYes) rfl scAfter.nd
      (pi_range1 (by rfl) C.range (pa_cons (pe_op op_add (pv 2) pe_int) pa_nil)) (blkOk_by (N := ["f", "g", "t", "k"]) (sc := relS (lcScope (retAt sAfter 0)) (defScope sAfter)) (by decide +kernel))
      (fun _ _ _ _ _ => pg_name (i := 3) scAfter.nd rfl (Or.inl rfl)) (fun _ _ _ _ _ => pts_nil)
      (fun _ _ _ _ _ => pe_op op_add (pe_at K (pv 0) (pv 3)) (pe_at K (pv 1) (pe_op op_sub (pv 2) (pv 3))))))))), ?_⟩
  refine ⟨rfl, fun H1 p s1 n1 e1 => ⟨p, rfl, ⟨_, SqL.of e1⟩, fun D nD => lc_map walk_times (fun t => .int ((Rc99.val (Rc99.conv f g) t : Nat) : Int)) nD (by decide) (fun H s => s.seq (SqL.of e1)) ?_ mono_name ?_⟩⟩
  · rintro t x H2 H3 Qx ht sm ⟨rfl, rfl⟩ q
    refine ⟨rfl, _, rfl, _, _, rfl, rfl, _, rfl, by omega, by omega, fun D2 nD2 => lc_map (n := t + 1) walk_range (fun i => .int (((Rc99.val f i : Nat) : Int) + ((Rc99.val g (t - i) : Nat) : Int))) nD2 (by omega) (fun _ _ => trivial) ?_ mono_name ?_⟩
    · rintro i x H4 H5 Qy hi s5 ⟨rfl, rfl⟩ q'
      have sA : Same H H5 := Same.trans (Same.trans s1 sm) s5
      exact ⟨rfl, _, rfl, _, rfl, a, _, _, _, rfl, rfl, sA.seq ha, at_iv (k := i) (Int.zero_add _) (by omega), _, rfl, _, rfl, _, rfl, _, _, rfl, rfl, b, _, _, _, rfl, rfl, sA.seq hb, at_iv (k := t - i) (by omega) (by omega), _, _, rfl, rfl, q' _ (Same.refl _)⟩
    · intro H4 s4 eD
      have eL := map_ints (n := t + 1) (g := fun i => V.int (((Rc99.val f i : Nat) : Int) + ((Rc99.val g (t - i) : Nat) : Int))) (fun i => ((Rc99.val f i + Rc99.val g (t - i) : Nat) : Int)) (fun i _ => by rw [Int.natCast_add])
      rw [eL] at eD
      refine ⟨D2, _, rfl, SqL.of eD, by rw [List.length_map, List.length_range]; omega, fun m hm hle => ?_⟩
      rw [iv_range] at hm hle
      have e := least_is hm hle
      rw [← conv_val (by omega)] at e
      rw [e]
      exact q _ s4
  · intro H2 sm eD
    refine k H2 D (Same.trans s1 sm) (s1.free nD) ?_
    rw [eD, range_ints (Rc99.val (Rc99.conv f g)) fun i hi => rfl, range_vals (f := Rc99.conv f g) (tab_length _)]
theorem scLeftAt : FnScope ["f", "g", "t", "u"] ["f", "g", "t"] (defScope sLeftAt) := ⟨rfl, rfl, rfl, by decide +kernel, rfl, by decide +kernel, by decide +kernel⟩
theorem ok_left_at (C : Cst mg) (F : Fd K mg "left_at" sLeftAt) : Df P w K mg base 1 "left_at" ["f", "g", "t"] (oneAt leftVal K 1) := by
  refine Df.of F scLeftAt (fun _ _ _ _ _ _ us hl => match us, hl with | [_, _, _], _ => rfl) (fun vs H Q E ⟨_, _, _, _, _, h, _⟩ => by rw [h]; rfl) (fun f cdv A outer s H vs Q E hr h => ?_)
  obtain ⟨a, b, f, g, t, rfl, ha, hb, lf, lg, h1, h2, k⟩ := h
  refine ⟨_, pss_one (ps_ret (pe_callB (cr_max rfl) (by rfl) C.max (by decide +kernel) (pa_cons (pe_op op_cat (pe_lst (pa_cons pe_int pa_nil)) (pe_lc (own := [("u", 3)]) (g := gName 3) (tt := tYes) rfl scLeftAt.nd
    (pi_range1 (by rfl) C.range (pa_cons (pe_op op_add (pe_op op_sub (pe_k C.LAST) (pv 2)) pe_int) pa_nil)) (blkOk_by (N := ["f", "g", "t", "u"]) (sc := defScope sLeftAt) (by decide +kernel))
    (fun _ _ _ _ _ => pg_name (i := 3) scLeftAt.nd rfl (Or.inl rfl)) (fun _ _ _ _ _ => pts_nil)
    (fun _ _ _ _ _ => pe_op op_sub (pe_at K (pv 0) (pe_op op_add (pv 2) (pv 3))) (pe_at K (pv 1) (pv 3))))) pa_nil))), ?_⟩
  refine ⟨small_le (by decide), fun l hl => ⟨_, rfl, _, _, rfl, rfl, _, _, rfl, rfl, _, rfl, by omega, by omega, fun D nD => ?_⟩⟩
  have en : (((32 : Int) - (t : Int)) + 1).toNat = 32 - t + 1 := by omega
  rw [en]
  refine lc_map (n := 32 - t + 1) walk_range (fun u => .int (((Rc99.val f (t + u) : Nat) : Int) - ((Rc99.val g u : Nat) : Int))) nD (by omega) (fun _ _ => trivial) ?_ mono_name ?_
  · rintro i x H4 H5 Qy hi s5 ⟨rfl, rfl⟩ q'
    have sA : Same H H5 := Same.trans (same_upd hl) s5
    exact ⟨rfl, _, rfl, _, rfl, _, rfl, _, _, rfl, rfl, a, _, _, _, rfl, rfl, sA.seq ha, at_iv (k := t + i) (by omega) (by omega), _, rfl, _, rfl, b, _, _, _, rfl, rfl, sA.seq hb, at_iv (k := i) (Int.zero_add _) (by omega), _, _, rfl, rfl, q' _ (Same.refl _)⟩
  · intro H2 sm eD
    rw [map_ints (fun u => ((Rc99.val f (t + u) : Nat) : Int) - ((Rc99.val g u : Nat) : Int)) fun i hi => rfl] at eD
    refine ⟨l, D, _, _, rfl, rfl, sm _ _ upd_same, eD, ?_, fun p hp => ?_⟩
    · rw [List.length_map, List.length_map, List.length_range]
      exact small_le (by show 1 + (32 - t + 1) ≤ 1000; omega)
    · refine ⟨p, (0 : Int) :: ((List.range (32 - t + 1)).map fun u => ((Rc99.val f (t + u) : Nat) : Int) - ((Rc99.val g u : Nat) : Int)), rfl, SqL.of upd_same, by show 0 < _ + 1; omega, fun m hm hle => ?_⟩
      have e := greatest0_is (map_toNat (n := 32 - t + 1) (fun u => Rc99.val f (t + u)) (fun u => Rc99.val g u)) hm hle
      rw [e]
      exact k _ (Same.trans (Same.trans (same_upd hl) sm) (same_upd hp))
theorem scLeft : FnScope ["f", "g", "t"] ["f", "g"] (defScope sLeft) := ⟨rfl, rfl, rfl, by decide +kernel, rfl, by decide +kernel, by decide +kernel⟩
theorem ok_left (C : Cst mg) (F : Fd K mg "left" sLeft) (DL : Df P w K mg base 1 "left_at" ["f", "g", "t"] (oneAt leftVal K 1)) : Df P w K mg base 2 "left" ["f", "g"] (spFG K Rc99.deconv) := by
  refine Df.of F scLeft (fun _ _ _ _ _ _ us hl => match us, hl with | [_, _], _ => rfl) (fun vs H Q E ⟨_, _, _, _, h, _⟩ => by rw [h]; rfl) (fun f cdv A outer s H vs Q E hr h => ?_)
  obtain ⟨a, b, f, g, rfl, ha, hb, lf, lg, k⟩ := h
  refine ⟨_, pss_one (ps_ret (pe_op op_cat (pe_lst (pa_cons pe_int pa_nil)) (pe_lc (own := [("t", 2)]) (g := gName 2) (tt := tYes) rfl scLeft.nd
    (pi_range2 (by rfl) C.range (pa_cons pe_int (pa_cons (pe_op op_add (pe_k C.LAST) pe_int) pa_nil))) (blkOk_by (N := ["f", "g", "t"]) (sc := defScope sLeft) (by decide +kernel))
    (fun _ _ _ _ _ => pg_name (i := 2) scLeft.nd rfl (Or.inl rfl)) (fun _ _ _ _ _ => pts_nil) (fun _ _ _ _ _ => pe_df DL hr (pa_cons (pv 0) (pa_cons (pv 1) (pa_cons (pv 2) pa_nil))))))), ?_⟩
  refine ⟨small_le (by decide), fun l hl => ⟨_, _, rfl, rfl, _, _, rfl, ⟨by decide, by decide, by decide, by decide⟩, fun D nD => lc_map (n := 32) walk_range (fun i => .int ((leftVal f g (1 + i) : Nat) : Int)) nD (by decide) (fun _ _ => trivial) ?_ mono_name ?_⟩⟩
  · rintro i x H1 H2 Qx hi sm ⟨rfl, rfl⟩ q
    have sA : Same H H2 := Same.trans (same_upd hl) sm
    exact ⟨rfl, _, rfl, _, rfl, _, rfl, a, b, f, g, 1 + i, by simp [Int.natCast_add], sA.seq ha, sA.seq hb, lf, lg, by omega, by omega, fun H3 s3 => q _ s3⟩
  · intro H2 sm eD
    refine ⟨l, D, _, _, rfl, rfl, sm _ _ upd_same, eD, ?_, fun p hp => ?_⟩
    · rw [List.length_map, List.length_range]
      exact small_le (by decide)
    · refine k _ p (Same.trans (Same.trans (same_upd hl) sm) (same_upd hp)) ((Same.trans (same_upd hl) sm).free hp) ?_
      rw [upd_same, zero_tab (fun t => if t = 0 then 0 else leftVal f g t) rfl fun i hi => ?_]
      · rfl
      · rw [if_neg (Nat.succ_ne_zero i), Nat.add_comm 1 i]
theorem scOverAt : FnScope ["f", "g", "t", "u"] ["f", "g", "t"] (defScope sOverAt) := ⟨rfl, rfl, rfl, by decide +kernel, rfl, by decide +kernel, by decide +kernel⟩
theorem ok_over_at (C : Cst mg) (F : Fd K mg "over_at" sOverAt) : Df P w K mg base 1 "over_at" ["f", "g", "t"] (oneAt overVal K 0) := by
  refine Df.of F scOverAt (fun _ _ _ _ _ _ us hl => match us, hl with | [_, _, _], _ => rfl) (fun vs H Q E ⟨_, _, _, _, _, h, _⟩ => by rw [h]; rfl) (fun f cdv A outer s H vs Q E hr h => ?_)
  obtain ⟨a, b, f, g, t, rfl, ha, hb, lf, lg, h1, h2, k⟩ := h
  refine ⟨_, pss_one (ps_ret (pe_callB (cr_max rfl) (by rfl) C.max (by decide +kernel) (pa_cons (pe_op op_cat (pe_lst (pa_cons pe_int pa_nil)) (pe_lc (own := [("u", 3)]) (g := gName 3) (tt := tYes) rfl scOverAt.nd
    (pi_range1 (by rfl) C.range (pa_cons (pe_op op_add (pv 2) pe_int) pa_nil)) (blkOk_by (N := ["f", "g", "t", "u"]) (sc := defScope sOverAt) (by decide +kernel))
    (fun _ _ _ _ _ => pg_name (i := 3) scOverAt.nd rfl (Or.inl rfl)) (fun _ _ _ _ _ => pts_nil)
    (fun _ _ _ _ _ => pe_op op_sub (pe_at K (pv 0) (pv 3)) (pe_at K (pv 1) (pv 3))))) pa_nil))), ?_⟩
  refine ⟨small_le (by decide), fun l hl => ⟨_, rfl, _, _, rfl, rfl, _, rfl, by omega, by omega, fun D nD => ?_⟩⟩
  refine lc_map (n := t + 1) walk_range (fun u => .int (((Rc99.val f u : Nat) : Int) - ((Rc99.val g u : Nat) : Int))) nD (by omega) (fun _ _ => trivial) ?_ mono_name ?_
  · rintro i x H4 H5 Qy hi s5 ⟨rfl, rfl⟩ q'
    have sA : Same H H5 := Same.trans (same_upd hl) s5
    exact ⟨rfl, _, rfl, _, rfl, a, _, _, _, rfl, rfl, sA.seq ha, at_iv (k := i) (Int.zero_add _) (by omega), _, rfl, _, rfl, b, _, _, _, rfl, rfl, sA.seq hb, at_iv (k := i) (Int.zero_add _) (by omega), _, _, rfl, rfl, q' _ (Same.refl _)⟩
  · intro H2 sm eD
    rw [map_ints (fun u => ((Rc99.val f u : Nat) : Int) - ((Rc99.val g u : Nat) : Int)) fun i hi => rfl] at eD
    refine ⟨l, D, _, _, rfl, rfl, sm _ _ upd_same, eD, ?_, fun p hp => ?_⟩
    · rw [List.length_map, List.length_map, List.length_range]
      exact small_le (by show 1 + (t + 1) ≤ 1000; omega)
    · refine ⟨p, (0 : Int) :: ((List.range (t + 1)).map fun u => ((Rc99.val f u : Nat) : Int) - ((Rc99.val g u : Nat) : Int)), rfl, SqL.of upd_same, by show 0 < _ + 1; omega, fun m hm hle => ?_⟩
      have e := greatest0_is (map_toNat (n := t + 1) (fun u => Rc99.val f u) (fun u => Rc99.val g u)) hm hle
      rw [e]
      exact k _ (Same.trans (Same.trans (same_upd hl) sm) (same_upd hp))
theorem scOver : FnScope ["f", "g", "t"] ["f", "g"] (defScope sOver) := ⟨rfl, rfl, rfl, by decide +kernel, rfl, by decide +kernel, by decide +kernel⟩
theorem ok_over (C : Cst mg) (F : Fd K mg "over" sOver) (DT : Df P w K mg base 1 "times" [] spTimes) (DO : Df P w K mg base 1 "over_at" ["f", "g", "t"] (oneAt overVal K 0)) : Df P w K mg base 2 "over" ["f", "g"] (spFG K Rc99.rest) := by
  refine Df.of F scOver (fun _ _ _ _ _ _ us hl => match us, hl with | [_, _], _ => rfl) (fun vs H Q E ⟨_, _, _, _, h, _⟩ => by rw [h]; rfl) (fun f cdv A outer s H vs Q E hr h => ?_)
  obtain ⟨a, b, f, g, rfl, ha, hb, lf, lg, k⟩ := h
  refine ⟨_, pss_one (ps_ret (pe_lc (own := [("t", 2)]) (g := gName 2) (tt := tYes) rfl scOver.nd
    (pi_list (pe_df0 DT hr)) (blkOk_by (N := ["f", "g", "t"]) (sc := defScope sOver) (by decide +kernel))
    (fun _ _ _ _ _ => pg_name (i := 2) scOver.nd rfl (Or.inl rfl)) (fun _ _ _ _ _ => pts_nil) (fun _ _ _ _ _ => pe_df DO hr (pa_cons (pv 0) (pa_cons (pv 1) (pa_cons (pv 2) pa_nil)))))), ?_⟩
  refine ⟨rfl, fun H1 p s1 n1 e1 => ⟨p, rfl, ⟨_, SqL.of e1⟩, fun D nD => lc_map walk_times (fun t => .int ((overVal f g t : Nat) : Int)) nD (by decide) (fun H s => s.seq (SqL.of e1)) ?_ mono_name ?_⟩⟩
  · rintro t x H2 H3 Qx ht sm ⟨rfl, rfl⟩ q
    have sA : Same H H3 := Same.trans s1 sm
    exact ⟨rfl, _, rfl, _, rfl, _, rfl, a, b, f, g, t, rfl, sA.seq ha, sA.seq hb, lf, lg, by omega, ht, fun H4 s4 => q _ s4⟩
  · intro H2 sm eD
    refine k H2 D (Same.trans s1 sm) (s1.free nD) ?_
    rw [eD, range_ints (fun t => overVal f g t) fun i hi => rfl]
    rfl
end
end Qc
set_option Elab.async false
set_option linter.all false
set_option maxRecDepth 100000
set_option maxHeartbeats 1000000
namespace Qc
open PySem PySem.Spec PyProof.Rows L2
abbrev sMade : Stmt := top 22
abbrev sIsLess : Stmt := top 23
abbrev sMostAbove : Stmt := top 24
abbrev sDelayAt : Stmt := top 25
abbrev sLatest : Stmt := top 26
def optV : Option Nat → V
  | none => .non
  | some d => .int ((d : Nat) : Int)
def spMade (K : PySem.W.Frag) : Sp := fun vs H Q _ => ∃ (what : Int) (a b : Addr) (f g h : List Nat), vs = [.int what, .ref a, .ref b] ∧ SL K H a f ∧ SL K H b g ∧ Curve f ∧ Curve g ∧ Rc99.made what f g = some h ∧ RetL H h Q
/-- a value of two curves -/
def spFGV (K : PySem.W.Frag) (op : List Nat → List Nat → V) : Sp := fun vs H Q _ => ∃ (a b : Addr) (f g : List Nat), vs = [.ref a, .ref b] ∧ SL K H a f ∧ SL K H b g ∧ f.length = 33 ∧ g.length = 33 ∧ RetV H (op f g) Q
def spDelay (K : PySem.W.Frag) : Sp := fun vs H Q _ => ∃ (a b : Addr) (f g : List Nat) (t : Nat), vs = [.ref a, .ref b, .int t] ∧ SL K H a f ∧ SL K H b g ∧ f.length = 33 ∧ g.length = 33 ∧ t < 33 ∧ RetV H (optV (Rc99.lateAt f g t)) Q
theorem opt_flat (o : Option Nat) : flatV (optV o) = true := by cases o <;> rfl
theorem opts_flat (F : Nat → Option Nat) (l : List Nat) : (l.map fun t => optV (F t)).all flatV = true := by
  rw [List.all_eq_true]
  intro x hx
  obtain ⟨t, _, rfl⟩ := List.mem_map.mp hx
  exact opt_flat _
theorem none_in {F : Nat → Option Nat} {n : Nat} (h : inV .non ((List.range n).map fun t => optV (F t)) = true) : ∃ t, t < n ∧ F t = none := by
  obtain ⟨x, hx, e⟩ := List.any_eq_true.mp h
  obtain ⟨t, ht, rfl⟩ := List.mem_map.mp hx
  refine ⟨t, List.mem_range.mp ht, ?_⟩
  cases q : F t with
  | none => rfl
  | some d =>
    rw [q] at e
    exact absurd e Bool.false_ne_true
theorem none_out {F : Nat → Option Nat} {n : Nat} (h : ¬ inV .non ((List.range n).map fun t => optV (F t)) = true) : ∀ t, t < n → F t = some ((F t).getD 0) := by
  intro t ht
  cases q : F t with
  | some d => rfl
  | none =>
    refine absurd (List.any_eq_true.mpr ⟨.non, List.mem_map.mpr ⟨t, List.mem_range.mpr ht, ?_⟩, rfl⟩) h
    rw [q]
    rfl
section
variable {P : Program} {w : World} {mg : Str → Option Value} {K : PySem.W.Frag} {base : Heap}
theorem scClosing : FnScope ["f", "found", "t", "k"] ["f"] (defScope sClosing) := ⟨rfl, rfl, rfl, by decide +kernel, rfl, by decide +kernel, by decide +kernel⟩
theorem ok_closing (C : Cst mg) (F : Fd K mg "closing" sClosing) : Df P w K mg base 1 "closing" ["f"] (spClosing K) := by
  refine Df.of F scClosing (fun _ _ _ _ _ _ us hl => match us, hl with | [_], _ => rfl) (fun vs H Q E ⟨_, _, h, _⟩ => by rw [h]; rfl) (fun f cdv A outer s H vs Q E hr h => ?_)
  obtain ⟨a, f, rfl, ha, lf, k⟩ := h
  refine ⟨_, pss_cons (ps_set (i := 1) scClosing.nd rfl (Or.inr rfl) (pe_lst (pa_cons pe_int pa_nil)))
    (pss_cons (ps_for PassesOwn.never rfl (pi_range2 (by rfl) C.range (pa_cons pe_int (pa_cons (pe_op op_add (pe_k C.LAST) pe_int) pa_nil))) (pg_name (i := 2) scClosing.nd rfl (Or.inr rfl))
      (pss_one (ps_expr (pe_bm PySem.F.plainAttrs_list PySem.F.slot_list_append PySem.F.type_list_append mt_append (pv 1) (pa_cons (pe_minL K C.min (pe_op op_cat (pe_lst (pa_cons (pe_at K (pv 0) (pv 2)) pa_nil))
        (pe_lc (own := [("k", 3)]) (g := gName 3) (tt := tYes) rfl scClosing.nd (pi_range2 (by rfl) C.range (pa_cons pe_int (pa_cons (pv 2) pa_nil))) (blkOk_by (N := ["f", "found", "t", "k"]) (sc := defScope sClosing) (by decide +kernel))
          (fun _ _ _ _ _ => pg_name (i := 3) scClosing.nd rfl (Or.inl rfl)) (fun _ _ _ _ _ => pts_nil) (fun _ _ _ _ _ => pe_op op_add (pe_at K (pv 1) (pv 3)) (pe_at K (pv 1) (pe_op op_sub (pv 2) (pv 3))))))) pa_nil)))))
    (pss_one (ps_ret (pv 1)))), ?_⟩
  refine ⟨small_le (by decide), fun l hl => ⟨_, _, rfl, rfl, _, _, rfl, ⟨by decide, by decide, by decide, by decide⟩, for_range (lo := 1) (n := 32)
    (fun i σ H' => ∃ v2 : Option V, σ = [some (.ref a), some (.ref l), v2, none] ∧ Same H H' ∧ H' l = some (LL (clos f i))) ⟨none, rfl, same_upd hl, upd_same⟩ ?_ ?_⟩⟩
  · rintro i σ H1 hi ⟨v2, rfl, s1, e1⟩
    refine ⟨_, rfl, .inl ⟨rfl, _, SqL.of e1⟩, _, rfl, _, rfl, a, _, _, _, rfl, rfl, s1.seq ha, at_iv (k := i + 1) (by omega) (by omega), small_le (by show 1 ≤ 1000; decide), fun q hq => ?_⟩
    have s2 : Same H1 (upd H1 q (.lst [.int ((Rc99.val f (i + 1) : Nat) : Int)])) := same_upd hq
    refine ⟨_, rfl, _, _, rfl, ⟨by omega, by omega, by omega, by omega⟩, fun D nD => ?_⟩
    have en : ((1 + (i : Int)) - 1).toNat = i := by omega
    rw [en]
    refine lc_map (n := i) walk_range (fun j => .int (((Rc99.val (clos f i) (j + 1) + Rc99.val (clos f i) (i + 1 - (j + 1)) : Nat) : Nat) : Int)) nD (by omega) (fun _ _ => trivial) ?_ mono_name ?_
    · rintro j x H4 H5 Qy hj s5 ⟨rfl, rfl⟩ q'
      have eF : H5 l = some (LL (clos f i)) := s5 _ _ (s2 _ _ e1)
      have ec := clos_length f i
      refine ⟨rfl, _, rfl, _, rfl, l, _, _, _, rfl, rfl, SqL.of eF, at_iv (k := j + 1) (by omega) (by omega), _, rfl, _, rfl, _, rfl, _, _, rfl, rfl, l, _, _, _, rfl, rfl, SqL.of eF, at_iv (k := i + 1 - (j + 1)) (by omega) (by omega), _, _, rfl, rfl, ?_⟩
      have := q' _ (Same.refl _)
      rw [Int.natCast_add] at this
      exact this
    · intro H4 s4 eD
      have s14 : Same H1 H4 := Same.trans s2 s4
      refine ⟨q, D, _, _, rfl, rfl, s4 _ _ upd_same, eD, ?_, fun p hp => ?_⟩
      · rw [List.length_map, List.length_range]
        exact small_le (by show 1 + i ≤ 1000; omega)
      · have eL : [V.int ((Rc99.val f (i + 1) : Nat) : Int)] ++ (List.range i).map (fun j => V.int (((Rc99.val (clos f i) (j + 1) + Rc99.val (clos f i) (i + 1 - (j + 1)) : Nat) : Nat) : Int)) =
            (iv (Rc99.val f (i + 1) :: (List.range i).map fun j => Rc99.val (clos f i) (j + 1) + Rc99.val (clos f i) (i + 1 - (j + 1)))).map V.int := by
          rw [range_ints (fun j => Rc99.val (clos f i) (j + 1) + Rc99.val (clos f i) (i + 1 - (j + 1))) fun j _ => rfl]
          rfl
        rw [eL]
        have np : H1 p = none := s14.free hp
        have ef : (upd H4 p (LL (Rc99.val f (i + 1) :: (List.range i).map fun j => Rc99.val (clos f i) (j + 1) + Rc99.val (clos f i) (i + 1 - (j + 1))))) l = some (LL (clos f i)) := by
          rw [upd_ne (ne_of_none e1 np)]
          exact s14 _ _ e1
        refine ⟨p, _, rfl, SqL.of upd_same, by rw [iv_length]; show 0 < _ + 1; omega, fun m hm hle => ?_⟩
        have em := least_is hm hle
        subst em
        refine ⟨l, _, _, rfl, rfl, ef, by rw [ll_length, clos_length]; exact small1000 (by omega), _, rfl, fun b o e => ?_, ?_⟩
        · rw [upd_ne (ne_of_none e hl), upd_ne (ne_of_none e (s1.free np))]
          exact s14 _ _ (s1 _ _ e)
        · rw [upd_same]
          show some (HO.lst _) = some (LL (clos f i ++ [_]))
          unfold LL
          rw [iv_append, List.map_append]
          rfl
  · rintro σ H1 ⟨v2, rfl, s1, e1⟩
    exact ⟨_, rfl, k H1 l s1 hl e1⟩
theorem scMade : FnScope ["what", "f", "g"] ["what", "f", "g"] (defScope sMade) := ⟨rfl, rfl, rfl, by decide +kernel, rfl, by decide +kernel, by decide +kernel⟩
theorem ok_made (C : Cst mg) (F : Fd K mg "made" sMade) (D0 : Df P w K mg base 1 "least" ["f", "g"] (spFG K Rc99.lower)) (D1 : Df P w K mg base 1 "total" ["f", "g"] (spFG K Rc99.sum)) (D2 : Df P w K mg base 2 "after" ["f", "g"] (spFG K Rc99.conv))
    (D3 : Df P w K mg base 2 "left" ["f", "g"] (spFG K Rc99.deconv)) (D4 : Df P w K mg base 2 "over" ["f", "g"] (spFG K Rc99.rest)) (D5 : Df P w K mg base 1 "closing" ["f"] (spClosing K)) : Df P w K mg base 3 "made" ["what", "f", "g"] (spMade K) := by
  refine Df.of F scMade (fun _ _ _ _ _ _ us hl => match us, hl with | [_, _, _], _ => rfl) (fun vs H Q E ⟨_, _, _, _, _, _, h, _⟩ => by rw [h]; rfl) (fun f cdv A outer s H vs Q E hr h => ?_)
  obtain ⟨what, a, b, f, g, h, rfl, ha, hb, cf, cg, hm, k⟩ := h
  have hr1 : Room 1 _ := hr.mono (by decide)
  refine ⟨_, pss_cons (ps_if (pt_cmpR op_eq (pv 0) (pe_k C.LEAST) (nomark _)) (pss_one (ps_ret (pe_df D0 hr1 (pa_cons (pv 1) (pa_cons (pv 2) pa_nil))))) pss_nil)
    (pss_cons (ps_if (pt_cmpR op_eq (pv 0) (pe_k C.SUM) (nomark _)) (pss_one (ps_ret (pe_df D1 hr1 (pa_cons (pv 1) (pa_cons (pv 2) pa_nil))))) pss_nil)
    (pss_cons (ps_if (pt_cmpR op_eq (pv 0) (pe_k C.AFTER) (nomark _)) (pss_one (ps_ret (pe_df D2 hr (pa_cons (pv 1) (pa_cons (pv 2) pa_nil))))) pss_nil)
    (pss_cons (ps_if (pt_cmpR op_eq (pv 0) (pe_k C.LEFT) (nomark _)) (pss_one (ps_ret (pe_df D3 hr (pa_cons (pv 1) (pa_cons (pv 2) pa_nil))))) pss_nil)
    (pss_cons (ps_if (pt_cmpR op_eq (pv 0) (pe_k C.OVER) (nomark _)) (pss_one (ps_ret (pe_df D4 hr (pa_cons (pv 1) (pa_cons (pv 2) pa_nil))))) pss_nil)
    (pss_one (ps_ret (pe_df D5 hr1 (pa_cons (pv 1) pa_nil)))))))), ?_⟩
  unfold Rc99.made at hm
  refine ⟨_, rfl, rfl, _, rfl, ite2 (fun e => ?_) (fun e => ?_)⟩
  · have e : what = 0 := V.int.inj (of_decide_eq_true e)
    rw [if_pos e] at hm
    cases hm
    exact ⟨_, rfl, _, rfl, a, b, f, g, rfl, ha, hb, cf.long, cg.long, k⟩
  have e0 : ¬ what = 0 := fun z => e (decide_eq_true (congrArg V.int z))
  rw [if_neg e0] at hm
  refine ⟨_, rfl, rfl, _, rfl, ite2 (fun e => ?_) (fun e => ?_)⟩
  · have e : what = 1 := V.int.inj (of_decide_eq_true e)
    rw [if_pos e] at hm
    cases hm
    exact ⟨_, rfl, _, rfl, a, b, f, g, rfl, ha, hb, cf.long, cg.long, k⟩
  have e1 : ¬ what = 1 := fun z => e (decide_eq_true (congrArg V.int z))
  rw [if_neg e1] at hm
  refine ⟨_, rfl, rfl, _, rfl, ite2 (fun e => ?_) (fun e => ?_)⟩
  · have e : what = 2 := V.int.inj (of_decide_eq_true e)
    rw [if_pos e] at hm
    cases hm
    exact ⟨_, rfl, _, rfl, a, b, f, g, rfl, ha, hb, cf.long, cg.long, k⟩
  have e2 : ¬ what = 2 := fun z => e (decide_eq_true (congrArg V.int z))
  rw [if_neg e2] at hm
  refine ⟨_, rfl, rfl, _, rfl, ite2 (fun e => ?_) (fun e => ?_)⟩
  · have e : what = 3 := V.int.inj (of_decide_eq_true e)
    rw [if_pos e] at hm
    cases hm
    exact ⟨_, rfl, _, rfl, a, b, f, g, rfl, ha, hb, cf.long, cg.long, k⟩
  have e3 : ¬ what = 3 := fun z => e (decide_eq_true (congrArg V.int z))
  rw [if_neg e3] at hm
  refine ⟨_, rfl, rfl, _, rfl, ite2 (fun e => ?_) (fun e => ?_)⟩
  · have e : what = 4 := V.int.inj (of_decide_eq_true e)
    rw [if_pos e] at hm
    cases hm
    exact ⟨_, rfl, _, rfl, a, b, f, g, rfl, ha, hb, cf.long, cg.long, k⟩
  have e4 : ¬ what = 4 := fun z => e (decide_eq_true (congrArg V.int z))
  rw [if_neg e4] at hm
  by_cases e5 : what = 5
  · rw [if_pos e5] at hm
    cases hm
    refine ⟨_, rfl, a, f, rfl, ha, cf.long, ?_⟩
    rw [close_is cf.first cf.long]
    exact k
  · rw [if_neg e5] at hm
    cases hm
theorem scIsLess : FnScope ["f", "g", "one", "other"] ["f", "g"] (defScope sIsLess) := ⟨rfl, rfl, rfl, by decide +kernel, rfl, by decide +kernel, by decide +kernel⟩
theorem ok_is_less (C : Cst mg) (F : Fd K mg "is_less" sIsLess) : Df P w K mg base 1 "is_less" ["f", "g"] (spFGV K fun f g => .bl (Rc99.under f g)) := by
  refine Df.of F scIsLess (fun _ _ _ _ _ _ us hl => match us, hl with | [_, _], _ => rfl) (fun vs H Q E ⟨_, _, _, _, h, _⟩ => by rw [h]; rfl) (fun f cdv A outer s H vs Q E hr h => ?_)
  obtain ⟨a, b, f, g, rfl, ha, hb, lf, lg, k⟩ := h
  have k : RetV H (.bl (Rc99.under f g)) Q := k
  refine ⟨_, pss_cons (ps_for PassesOwn.never rfl (pi_zip (by rfl) C.zip (pa_cons (pv 0) (pa_cons (pv 1) pa_nil))) (pg_tup rfl (pgs_cons (pg_name (i := 2) scIsLess.nd rfl (.inl rfl)) (pgs_cons (pg_name (i := 3) scIsLess.nd rfl (.inl rfl)) pgs_nil)))
      (pss_one (ps_if (pt_cmpR op_gt (pv 2) (pv 3) (nomark _)) (pss_one (ps_ret pe_bl)) pss_nil)))
    (pss_one (ps_ret pe_bl)), ?_⟩
  refine ⟨_, rfl, _, rfl, a, b, _, _, rfl, ha, hb, for_it (walk_fg lf lg) (fun i σ H' => ∃ v2 v3 : Option V, σ = [some (.ref a), some (.ref b), v2, v3] ∧ Same H H' ∧ ∀ t, t < i → Rc99.val f t ≤ Rc99.val g t)
    ⟨none, none, rfl, Same.refl _, fun t ht => absurd ht (Nat.not_lt_zero t)⟩ (fun i σ H' _ ⟨_, _, _, s1, _⟩ => ⟨s1.seq ha, s1.seq hb⟩) ?_ ?_⟩
  · rintro i x σ H1 H2 hi ⟨v2, v3, rfl, s1, q⟩ ⟨T, rfl, nT, rfl⟩
    refine ⟨T, _, rfl, SqT.of upd_same, rfl, _, _, rfl, _, _, rfl, rfl, _, rfl, _, rfl, _, _, rfl, rfl, _, rfl, ite2 (fun e => ?_) (fun e => ?_)⟩
    · have e := of_decide_eq_true e
      have := k _ (Same.trans s1 (same_upd (o := .tup [.int ((Rc99.val f i : Nat) : Int), .int ((Rc99.val g i : Nat) : Int)]) nT))
      rw [under_false hi (by omega)] at this
      exact this
    · refine ⟨_, _, rfl, Same.trans s1 (same_upd nT), fun t ht => ?_⟩
      have e : ¬ ((Rc99.val g i : Nat) : Int) < ((Rc99.val f i : Nat) : Int) := fun z => e (decide_eq_true z)
      by_cases h : t = i
      · subst h
        omega
      · exact q t (by omega)
  · rintro σ H1 ⟨v2, v3, rfl, s1, q⟩
    have := k _ s1
    rw [under_true q] at this
    exact this
theorem scMostAbove : FnScope ["f", "g", "one", "other"] ["f", "g"] (defScope sMostAbove) := ⟨rfl, rfl, rfl, by decide +kernel, rfl, by decide +kernel, by decide +kernel⟩
theorem ok_most_above (C : Cst mg) (F : Fd K mg "most_above" sMostAbove) : Df P w K mg base 1 "most_above" ["f", "g"] (spFGV K fun f g => .int ((Rc99.backlog f g : Nat) : Int)) := by
  refine Df.of F scMostAbove (fun _ _ _ _ _ _ us hl => match us, hl with | [_, _], _ => rfl) (fun vs H Q E ⟨_, _, _, _, h, _⟩ => by rw [h]; rfl) (fun f cdv A outer s H vs Q E hr h => ?_)
  obtain ⟨a, b, f, g, rfl, ha, hb, lf, lg, k⟩ := h
  have k : RetV H (.int ((Rc99.backlog f g : Nat) : Int)) Q := k
  refine ⟨_, pss_one (ps_ret (pe_maxL K C.max (pe_op op_cat (pe_lst (pa_cons pe_int pa_nil)) (pe_lc (own := [("one", 2), ("other", 3)]) (g := gTup K 2 (gCons (gName 2) (gCons (gName 3) gNil))) (tt := tYes) rfl scMostAbove.nd
    (pi_zip (by rfl) C.zip (pa_cons (pv 0) (pa_cons (pv 1) pa_nil))) (blkOk_by (N := ["f", "g", "one", "other"]) (sc := defScope sMostAbove) (by decide +kernel))
    (fun _ _ _ _ _ => pg_tup rfl (pgs_cons (pg_name (i := 2) scMostAbove.nd rfl (.inl rfl)) (pgs_cons (pg_name (i := 3) scMostAbove.nd rfl (.inl rfl)) pgs_nil))) (fun _ _ _ _ _ => pts_nil)
    (fun _ _ _ _ _ => pe_op op_sub (pv 2) (pv 3)))))), ?_⟩
  refine ⟨small_le (by decide), fun l hl => ⟨_, rfl, _, rfl, a, b, _, _, rfl, (same_upd hl).seq ha, (same_upd hl).seq hb, fun D nD => lc_map (walk_fg lf lg) (fun i => .int (((Rc99.val f i : Nat) : Int) - ((Rc99.val g i : Nat) : Int))) nD (by decide) (fun H s => ⟨(Same.trans (same_upd hl) s).seq ha, (Same.trans (same_upd hl) s).seq hb⟩) ?_ mono_pair ?_⟩⟩
  · rintro i x H2 H3 Qx hi sm ⟨T, rfl, nT, rfl⟩ q
    exact ⟨T, _, rfl, SqT.of upd_same, rfl, _, _, rfl, _, _, rfl, rfl, rfl, _, rfl, _, rfl, _, _, rfl, rfl, q _ (same_upd nT)⟩
  · intro H2 sm eD
    rw [map_ints (fun u => ((Rc99.val f u : Nat) : Int) - ((Rc99.val g u : Nat) : Int)) fun i hi => rfl] at eD
    refine ⟨l, D, _, _, rfl, rfl, sm _ _ upd_same, eD, ?_, fun p hp => ?_⟩
    · rw [List.length_map, List.length_map, List.length_range]
      exact small_le (by decide)
    · refine ⟨p, (0 : Int) :: ((List.range 33).map fun u => ((Rc99.val f u : Nat) : Int) - ((Rc99.val g u : Nat) : Int)), rfl, SqL.of upd_same, by show 0 < _ + 1; omega, fun m hm hle => ?_⟩
      have e := greatest0_is (map_toNat (n := 33) (fun u => Rc99.val f u) (fun u => Rc99.val g u)) hm hle
      rw [e]
      exact k _ (Same.trans (Same.trans (same_upd hl) sm) (same_upd hp))
theorem scDelayAt : FnScope ["f", "g", "t", "later"] ["f", "g", "t"] (defScope sDelayAt) := ⟨rfl, rfl, rfl, by decide +kernel, rfl, by decide +kernel, by decide +kernel⟩
theorem ok_delay_at (C : Cst mg) (F : Fd K mg "delay_at" sDelayAt) : Df P w K mg base 1 "delay_at" ["f", "g", "t"] (spDelay K) := by
  refine Df.of F scDelayAt (fun _ _ _ _ _ _ us hl => match us, hl with | [_, _, _], _ => rfl) (fun vs H Q E ⟨_, _, _, _, _, h, _⟩ => by rw [h]; rfl) (fun f cdv A outer s H vs Q E hr h => ?_)
  obtain ⟨a, b, f, g, t, rfl, ha, hb, lf, lg, ht, k⟩ := h
  refine ⟨_, pss_cons (ps_for PassesOwn.never rfl (pi_range2 (by rfl) C.range (pa_cons (pv 2) (pa_cons (pe_op op_add (pe_k C.LAST) pe_int) pa_nil))) (pg_name (i := 3) scDelayAt.nd rfl (Or.inl rfl))
      (pss_one (ps_if (pt_cmpR op_ge (pe_at K (pv 1) (pv 3)) (pe_at K (pv 0) (pv 2)) (nomark _)) (pss_one (ps_ret (pe_op op_sub (pv 3) (pv 2)))) pss_nil)))
    (pss_one (ps_ret pe_non)), ?_⟩
  refine ⟨_, rfl, _, _, rfl, rfl, _, _, rfl, ⟨by omega, by omega, by decide, by decide⟩, ?_⟩
  have en : (((32 : Int) + 1) - (t : Int)).toNat = 32 - t + 1 := by omega
  rw [en]
  have eL : ∀ d, (fun d => decide (Rc99.val f t ≤ Rc99.val g (t + d))) d = decide (Rc99.val f t ≤ Rc99.val g (t + d)) := fun _ => rfl
  refine for_range (lo := (t : Int)) (n := 32 - t + 1) (fun i σ H' => ∃ v3 : Option V, σ = [some (.ref a), some (.ref b), some (.int t), v3] ∧ H' = H ∧ ∀ d, d < i → Rc99.val g (t + d) < Rc99.val f t) ⟨none, rfl, rfl, fun d hd => absurd hd (Nat.not_lt_zero d)⟩ ?_ ?_
  · rintro i σ H1 hi ⟨v3, rfl, rfl, q⟩
    refine ⟨_, rfl, _, rfl, b, _, _, _, rfl, rfl, hb, at_iv (k := t + i) (by omega) (by omega), _, rfl, _, rfl, a, _, _, _, rfl, rfl, ha, at_iv (k := t) rfl (by omega), _, _, rfl, rfl, _, rfl, ite2 (fun e => ?_) (fun e => ?_)⟩
    · have e := of_decide_eq_true e
      have fd : Rc99.lateAt f g t = some i := find_range hi (decide_eq_true (by omega)) fun d hd => decide_eq_false (by have := q d hd; omega)
      refine ⟨_, rfl, _, rfl, _, _, rfl, rfl, ?_⟩
      have := k _ (Same.refl _)
      rw [fd] at this
      show Q (V.int (((t : Int) + (i : Nat)) - (t : Int))) H1
      rw [show ((t : Int) + (i : Nat)) - (t : Int) = ((i : Nat) : Int) by omega]
      exact this
    · have e : ¬ ((Rc99.val f t : Nat) : Int) ≤ ((Rc99.val g (t + i) : Nat) : Int) := fun z => e (decide_eq_true z)
      refine ⟨_, rfl, rfl, fun d hd => ?_⟩
      by_cases h : d = i
      · subst h
        omega
      · exact q d (by omega)
  · rintro σ H1 ⟨v3, rfl, rfl, q⟩
    have fd : Rc99.lateAt f g t = none := find_none fun d hd => decide_eq_false (by have := q d hd; omega)
    have := k _ (Same.refl _)
    rw [fd] at this
    exact this
theorem scLatest : FnScope ["f", "g", "delays", "t"] ["f", "g"] (defScope sLatest) := ⟨rfl, rfl, rfl, by decide +kernel, rfl, by decide +kernel, by decide +kernel⟩
theorem ok_latest (C : Cst mg) (F : Fd K mg "latest" sLatest) (DT : Df P w K mg base 1 "times" [] spTimes) (DD : Df P w K mg base 1 "delay_at" ["f", "g", "t"] (spDelay K)) : Df P w K mg base 2 "latest" ["f", "g"] (spFGV K fun f g => optV (Rc99.late f g)) := by
  refine Df.of F scLatest (fun _ _ _ _ _ _ us hl => match us, hl with | [_, _], _ => rfl) (fun vs H Q E ⟨_, _, _, _, h, _⟩ => by rw [h]; rfl) (fun f cdv A outer s H vs Q E hr h => ?_)
  obtain ⟨a, b, f, g, rfl, ha, hb, lf, lg, k⟩ := h
  have k : RetV H (optV (Rc99.late f g)) Q := k
  refine ⟨_, pss_cons (ps_setLc (i := 2) (own := [("t", 3)]) (g := gName 3) (tt := tYes) rfl scLatest.nd rfl rfl (sw_true rfl rfl rfl (by decide +kernel))
      (pi_list (pe_df0 DT hr)) (blkOk_by (N := ["f", "g", "delays", "t"]) (sc := defScope sLatest) (by decide +kernel))
      (fun _ _ _ _ _ => pg_name (i := 3) scLatest.nd rfl (Or.inl rfl)) (fun _ _ _ _ _ => pts_nil) (fun _ _ _ _ _ => pe_df DD hr (pa_cons (pv 0) (pa_cons (pv 1) (pa_cons (pv 3) pa_nil)))))
    (pss_cons (ps_if (pt_cmpR op_in_seq pe_non (pv 2) (by rfl)) (pss_one (ps_ret pe_non)) pss_nil)
    (pss_one (ps_ret (pe_maxL K C.max (pv 2))))), ?_⟩
  refine ⟨rfl, fun H1 p s1 n1 e1 => ⟨p, rfl, ⟨_, SqL.of e1⟩, fun D nD => lc_map walk_times (fun t => optV (Rc99.lateAt f g t)) nD (by decide) (fun H s => s.seq (SqL.of e1)) ?_ mono_name ?_⟩⟩
  · rintro t x H2 H3 Qx ht sm ⟨rfl, rfl⟩ q
    have sA : Same H H3 := Same.trans s1 sm
    exact ⟨rfl, _, rfl, _, rfl, _, rfl, a, b, f, g, t, rfl, sA.seq ha, sA.seq hb, lf, lg, ht, fun H4 s4 => q _ s4⟩
  · intro H2 sm eD
    have k' := k H2 (Same.trans s1 sm)
    refine ⟨_, rfl, D, _, rfl, .inl (SqL.of eD), rfl, opts_flat _ _, _, rfl, ite2 (fun e => ?_) (fun e => ?_)⟩
    · obtain ⟨t, ht, q⟩ := none_in e
      rw [late_none ht q] at k'
      exact k'
    · have q := none_out e
      rw [range_ints (fun t => (Rc99.lateAt f g t).getD 0) fun t ht => by rw [q t ht]; rfl] at eD
      refine ⟨_, rfl, D, _, rfl, SqL.of eD, by rw [iv_length, List.length_map, List.length_range]; decide, fun m hm hle => ?_⟩
      rw [late_some q] at k'
      rw [greatest_is hm hle]
      exact k'
end
end Qc
set_option Elab.async false
set_option linter.all false
set_option maxRecDepth 100000
set_option maxHeartbeats 1000000
namespace Qc
open PySem PySem.Spec PyProof.Rows L2
abbrev sIsFlow : Stmt := top 29
abbrev sComeBy : Stmt := top 30
abbrev sKeepsTo : Stmt := top 31
abbrev sGoneBy : Stmt := top 32
abbrev sHeldBack : Stmt := top 33
abbrev sIsCurve : Stmt := top 35
def spIsFlow (K : PySem.W.Frag) : Sp := fun vs H Q _ => ∃ (a : Addr) (l : List Nat), vs = [.ref a] ∧ SL K H a l ∧ RetV H (.bl (Rc99.flow l (l.length : Nat))) Q
def spComeBy (K : PySem.W.Frag) : Sp := fun vs H Q _ => ∃ (a : Addr) (l : List Nat), vs = [.ref a] ∧ SL K H a l ∧ l.length ≤ 32 ∧ RetL H (come l) Q
def spKeepsTo (K : PySem.W.Frag) : Sp := fun vs H Q _ => ∃ (a b : Addr) (l f : List Nat), vs = [.ref a, .ref b] ∧ SL K H a l ∧ SL K H b f ∧ l.length ≤ 32 ∧ f.length = 33 ∧ RetV H (.bl (Rc99.within f l)) Q
def gone (f l : List Nat) : List Nat := (List.range (l.length + 1)).map (Rc99.through (Rc99.close f) l)
def spGoneBy (K : PySem.W.Frag) : Sp := fun vs H Q _ => ∃ (a b : Addr) (l f : List Nat), vs = [.ref a, .ref b] ∧ SL K H a l ∧ SL K H b f ∧ l.length ≤ 32 ∧ Curve f ∧ RetL H (gone f l) Q
def spHeldBack (K : PySem.W.Frag) : Sp := fun vs H Q _ => ∃ (a b : Addr) (l f : List Nat), vs = [.ref a, .ref b] ∧ SL K H a l ∧ SL K H b f ∧ l.length ≤ 32 ∧ Curve f ∧ RetL H (Rc99.shaped f l) Q
def spIsCurve : Sp := fun vs H Q _ => ∃ k : Int, vs = [.int k] ∧ Q (.bl (Rc99.below k 8)) H
/-! ### the plain part -/
theorem flow_out {l : List Nat} (h : ¬ (1 ≤ l.length ∧ l.length ≤ 32)) : Rc99.flow l (l.length : Nat) = false := by
  unfold Rc99.flow
  by_cases h1 : (1 : Int) ≤ (l.length : Nat)
  · have h2 : ¬ ((l.length : Nat) : Int) ≤ (Rc99.LAST : Int) := by
      show ¬ ((l.length : Nat) : Int) ≤ ((32 : Nat) : Int)
      omega
    rw [decide_eq_false h2, Bool.false_and, Bool.and_false]
  · rw [decide_eq_false h1, Bool.false_and]
theorem flow_in {l : List Nat} (h1 : 1 ≤ l.length) (h2 : l.length ≤ 32) : Rc99.flow l (l.length : Nat) = l.all fun x => decide (x ≤ 1000000) := by
  unfold Rc99.flow
  rw [decide_eq_true (show (1 : Int) ≤ (l.length : Nat) by omega), decide_eq_true (show ((l.length : Nat) : Int) ≤ (Rc99.LAST : Int) by show ((l.length : Nat) : Int) ≤ ((32 : Nat) : Int); omega), Int.toNat_natCast, beq_self_eq_true, Bool.true_and, Bool.true_and, Bool.true_and]
  rfl
theorem all_max {l : List Nat} {m : Int} (hm : m ∈ iv l) (hle : ∀ y ∈ iv l, y ≤ m) : decide (m ≤ 1000000) = l.all fun x => decide (x ≤ 1000000) := by
  obtain ⟨n, hn, rfl⟩ := mem_iv.mp hm
  by_cases h : (n : Int) ≤ 1000000
  · rw [decide_eq_true h]
    symm
    rw [List.all_eq_true]
    intro x hx
    have := hle _ (mem_iv.mpr ⟨x, hx, rfl⟩)
    exact decide_eq_true (by omega)
  · rw [decide_eq_false h]
    symm
    cases e : l.all fun x => decide (x ≤ 1000000) with
    | false => rfl
    | true =>
      have := of_decide_eq_true (List.all_eq_true.mp e n hn)
      omega
theorem come_succ {l : List Nat} {i : Nat} (h : i < l.length) : (List.range (i + 1 + 1)).map (Rc99.total l) = (List.range (i + 1)).map (Rc99.total l) ++ [Rc99.total l i + Rc99.val l i] := by
  rw [List.range_succ, List.map_append, ← total_succ (val_get h)]
  rfl
theorem come_last {l : List Nat} {i : Nat} : atI ((iv ((List.range (i + 1)).map (Rc99.total l))).map V.int) (-1) = some (.int ((Rc99.total l i : Nat) : Int)) := by
  rw [List.range_succ, List.map_append, iv_append, List.map_append]
  exact atI_last _ _
theorem shaped_is {f l : List Nat} (F : Curve f) (h : l.length ≤ 32) {g : Nat → V} (e : ∀ i, i < l.length → g i = .int (((Rc99.through (Rc99.close f) l (i + 1) : Nat) : Int) - ((Rc99.through (Rc99.close f) l i : Nat) : Int))) :
    (List.range l.length).map g = (iv (Rc99.shaped f l)).map V.int := by
  unfold Rc99.shaped
  refine range_ints _ fun i hi => ?_
  have := through_mono (f := Rc99.close f) (l := l) (curve_power 5 F) (t := i) (by omega)
  rw [e i hi]
  congr 1
  omega
theorem gone_length (f l : List Nat) : (gone f l).length = l.length + 1 := by
  unfold gone
  rw [List.length_map, List.length_range]
theorem gone_val {f l : List Nat} {t : Nat} (h : t ≤ l.length) : Rc99.val (gone f l) t = Rc99.through (Rc99.close f) l t := val_range (by omega)
section
variable {P : Program} {w : World} {mg : Str → Option Value} {K : PySem.W.Frag} {base : Heap}
theorem scIsFlow : FnScope ["flow"] ["flow"] (defScope sIsFlow) := ⟨rfl, rfl, rfl, by decide +kernel, rfl, by decide +kernel, by decide +kernel⟩
theorem ok_is_flow (C : Cst mg) (F : Fd K mg "is_flow" sIsFlow) : Df P w K mg base 1 "is_flow" ["flow"] (spIsFlow K) := by
  refine Df.of F scIsFlow (fun _ _ _ _ _ _ us hl => match us, hl with | [_], _ => rfl) (fun vs H Q E ⟨_, _, h, _⟩ => by rw [h]; rfl) (fun f cdv A outer s H vs Q E hr h => ?_)
  obtain ⟨a, l, rfl, ha, k⟩ := h
  refine ⟨_, pss_cons (ps_if (pt_not (pt_chain op_le op_le pe_int (pe_callB call_len_seq (by rfl) C.len PySem.boot_len (pa_cons (pv 0) pa_nil)) (pe_k C.SLOTSF))) (pss_one (ps_ret pe_bl)) pss_nil)
    (pss_one (ps_ret (pe_cmpR op_le (pe_maxL K C.max (pv 0)) (pe_k C.MOST) (nomark _)))), ?_⟩
  have eL := ll_length l
  have k0 := k H (Same.refl _)
  refine ⟨_, rfl, a, _, rfl, .inl ha, _, _, rfl, rfl, _, rfl, ite2 (fun e => ⟨_, _, rfl, rfl, _, rfl, ite2 (fun e2 => ?_) (fun e2 => ?_)⟩) (fun e => ⟨_, rfl, iteT ?_⟩)⟩
  · rw [Bool.not_eq_true', decide_eq_false_iff_not] at e2
    rw [flow_out (by omega)] at k0
    exact k0
  · have e := of_decide_eq_true e
    rw [Bool.not_eq_true', Bool.not_eq_false] at e2
    have e2 := of_decide_eq_true e2
    refine ⟨_, rfl, a, _, rfl, ha, by rw [iv_length]; omega, fun m hm hle => ⟨_, _, rfl, rfl, ?_⟩⟩
    show Q (V.bl (decide (m ≤ 1000000))) H
    rw [all_max hm hle, ← flow_in (by omega) (by omega)]
    exact k0
  · have e : ¬ (1 : Int) ≤ (((iv l).map V.int).length : Nat) := fun z => e (decide_eq_true z)
    rw [flow_out (by omega)] at k0
    exact k0
theorem scComeBy : FnScope ["flow", "found", "number"] ["flow"] (defScope sComeBy) := ⟨rfl, rfl, rfl, by decide +kernel, rfl, by decide +kernel, by decide +kernel⟩
theorem ok_come_by (C : Cst mg) (F : Fd K mg "come_by" sComeBy) : Df P w K mg base 1 "come_by" ["flow"] (spComeBy K) := by
  refine Df.of F scComeBy (fun _ _ _ _ _ _ us hl => match us, hl with | [_], _ => rfl) (fun vs H Q E ⟨_, _, h, _⟩ => by rw [h]; rfl) (fun f cdv A outer s H vs Q E hr h => ?_)
  obtain ⟨a, l, rfl, ha, hl, k⟩ := h
  refine ⟨_, pss_cons (ps_set (i := 1) scComeBy.nd rfl (Or.inl rfl) (pe_lst (pa_cons pe_int pa_nil)))
    (pss_cons (ps_for PassesOwn.never rfl (pi_list (pv 0)) (pg_name (i := 2) scComeBy.nd rfl (Or.inl rfl))
      (pss_one (ps_expr (pe_bm PySem.F.plainAttrs_list PySem.F.slot_list_append PySem.F.type_list_append mt_append (pv 1) (pa_cons (pe_op op_add (pe_at K (pv 1) (pe_un un_neg pe_int)) (pv 2)) pa_nil)))))
    (pss_one (ps_ret (pv 1)))), ?_⟩
  refine ⟨small_le (by decide), fun p hp => ⟨_, rfl, a, rfl, ⟨_, (same_upd hp).seq ha⟩, for_list (K := K) (a := a) (xs := (iv l).map V.int)
    (fun i σ H' => ∃ v2 : Option V, σ = [some (.ref a), some (.ref p), v2] ∧ Same H H' ∧ H' p = some (LL ((List.range (i + 1)).map (Rc99.total l)))) ⟨none, rfl, same_upd hp, upd_same⟩ (fun i σ H' _ ⟨_, _, s1, _⟩ => s1.seq ha) ?_ ?_⟩⟩
  · rintro i y σ H1 hi ⟨v2, rfl, s1, e1⟩
    have hi' : i < l.length := by
      have := (List.getElem?_eq_some_iff.mp hi).1
      rw [ll_length] at this
      exact this
    rw [iv_getV hi'] at hi
    cases hi
    refine ⟨_, rfl, .inl ⟨rfl, _, SqL.of e1⟩, _, rfl, _, rfl, p, _, _, _, rfl, rfl, SqL.of e1, come_last, _, rfl, _, _, rfl, rfl, p, _, _, rfl, rfl, e1, ?_, ?_⟩
    · rw [ll_length, List.length_map, List.length_range]
      exact small1000 (by omega)
    · refine ⟨_, rfl, same_put s1 hp, ?_⟩
      rw [upd_same, come_succ hi']
      unfold LL
      rw [iv_append, List.map_append]
      rfl
  · rintro σ H1 ⟨v2, rfl, s1, e1⟩
    rw [ll_length] at e1
    exact ⟨_, rfl, k H1 p s1 hp e1⟩
theorem scKeepsTo : FnScope ["flow", "curve", "come", "s", "t"] ["flow", "curve"] (defScope sKeepsTo) := ⟨rfl, rfl, rfl, by decide +kernel, rfl, by decide +kernel, by decide +kernel⟩
theorem ok_keeps_to (C : Cst mg) (F : Fd K mg "keeps_to" sKeepsTo) (DC : Df P w K mg base 1 "come_by" ["flow"] (spComeBy K)) : Df P w K mg base 2 "keeps_to" ["flow", "curve"] (spKeepsTo K) := by
  refine Df.of F scKeepsTo (fun _ _ _ _ _ _ us hl => match us, hl with | [_, _], _ => rfl) (fun vs H Q E ⟨_, _, _, _, h, _⟩ => by rw [h]; rfl) (fun f cdv A outer s H vs Q E hr h => ?_)
  obtain ⟨a, b, l, f, rfl, ha, hb, hl, lf, k⟩ := h
  refine ⟨_, pss_cons (ps_set (i := 2) scKeepsTo.nd rfl (Or.inl rfl) (pe_df DC hr (pa_cons (pv 0) pa_nil)))
    (pss_cons (ps_for PassesOwn.never rfl (pi_range1 (by rfl) C.range (pa_cons (pe_callB call_len_seq (by rfl) C.len PySem.boot_len (pa_cons (pv 2) pa_nil)) pa_nil)) (pg_name (i := 3) scKeepsTo.nd rfl (Or.inl rfl))
      (pss_one (ps_for PassesOwn.never rfl (pi_range2 (by rfl) C.range (pa_cons (pv 3) (pa_cons (pe_callB call_len_seq (by rfl) C.len PySem.boot_len (pa_cons (pv 2) pa_nil)) pa_nil))) (pg_name (i := 4) scKeepsTo.nd rfl (Or.inl rfl))
        (pss_one (ps_if (pt_cmpR op_gt (pe_op op_sub (pe_at K (pv 2) (pv 4)) (pe_at K (pv 2) (pv 3))) (pe_at K (pv 1) (pe_op op_sub (pv 4) (pv 3))) (nomark _)) (pss_one (ps_ret pe_bl)) pss_nil)))))
    (pss_one (ps_ret pe_bl))), ?_⟩
  refine ⟨_, rfl, a, l, rfl, ha, hl, fun H1 p s1 n1 e1 => ?_⟩
  have eL : ((iv (come l)).map V.int).length = l.length + 1 := by rw [ll_length, come_length]
  have cL := come_length l
  refine ⟨_, rfl, p, _, rfl, .inl (SqL.of e1), _, rfl, by rw [eL]; omega, by rw [eL]; omega, ?_⟩
  rw [eL, Int.toNat_natCast]
  refine for_range (lo := 0) (n := l.length + 1) (fun i σ H' => ∃ v3 v4 : Option V, σ = [some (.ref a), some (.ref b), some (.ref p), v3, v4] ∧ H' = H1 ∧ ∀ s t, s < i → s ≤ t → t ≤ l.length → Rc99.total l t ≤ Rc99.total l s + Rc99.val f (t - s))
    ⟨none, none, rfl, rfl, fun s t h => absurd h (Nat.not_lt_zero s)⟩ ?_ ?_
  · rintro i σ H2 hi ⟨v3, v4, rfl, rfl, q⟩
    refine ⟨_, rfl, _, rfl, p, _, rfl, .inl (SqL.of e1), _, _, rfl, ⟨by omega, by omega, by rw [eL]; omega, by rw [eL]; omega⟩, ?_⟩
    rw [eL, show (((l.length + 1 : Nat) : Int) - (0 + (i : Int))).toNat = l.length + 1 - i by omega]
    refine for_range (lo := 0 + (i : Int)) (n := l.length + 1 - i) (fun j σ H' => ∃ v4 : Option V, σ = [some (.ref a), some (.ref b), some (.ref p), some (.int (0 + (i : Int))), v4] ∧ H' = H2 ∧ ∀ d, d < j → Rc99.total l (i + d) ≤ Rc99.total l i + Rc99.val f d)
      ⟨v4, rfl, rfl, fun d h => absurd h (Nat.not_lt_zero d)⟩ ?_ ?_
    · rintro j σ H3 hj ⟨v4, rfl, rfl, q2⟩
      refine ⟨_, rfl, _, rfl, p, _, _, _, rfl, rfl, SqL.of e1, at_iv (k := i + j) (by omega) (by omega), _, rfl, _, rfl, p, _, _, _, rfl, rfl, SqL.of e1, at_iv (k := i) (by omega) (by omega), _, _, rfl, rfl, _, rfl, _, rfl, _, rfl, _, _, rfl, rfl, b, _, _, _, rfl, rfl, s1.seq hb, at_iv (k := j) (by omega) (by omega), _, _, rfl, rfl, _, rfl, ite2 (fun e => ?_) (fun e => ?_)⟩
      · have e := of_decide_eq_true e
        rw [come_val (by omega), come_val (by omega)] at e
        have := k _ s1
        rw [within_false (s := i) (t := i + j) (by omega) (by omega) (by rw [show i + j - i = j by omega]; omega)] at this
        exact this
      · have e : ¬ (((Rc99.val f j : Nat) : Int) < ((Rc99.val (come l) (i + j) : Nat) : Int) - ((Rc99.val (come l) i : Nat) : Int)) := fun z => e (decide_eq_true z)
        rw [come_val (by omega), come_val (by omega)] at e
        refine ⟨_, rfl, rfl, fun d hd => ?_⟩
        by_cases h : d = j
        · subst h
          omega
        · exact q2 d (by omega)
    · rintro σ H3 ⟨v4, rfl, rfl, q2⟩
      refine ⟨_, _, rfl, rfl, fun s t hs ht htl => ?_⟩
      by_cases h : s = i
      · subst h
        have := q2 (t - s) (by omega)
        rw [show s + (t - s) = t by omega] at this
        exact this
      · exact q s t (by omega) ht htl
  · rintro σ H2 ⟨v3, v4, rfl, rfl, q⟩
    have := k _ s1
    rw [within_true fun s t h1 h2 => q s t (by omega) h1 h2] at this
    exact this
theorem scGoneBy : FnScope ["flow", "curve", "come", "closed", "t", "k"] ["flow", "curve"] (defScope sGoneBy) := ⟨rfl, rfl, rfl, by decide +kernel, rfl, by decide +kernel, by decide +kernel⟩
theorem ok_gone_by (C : Cst mg) (F : Fd K mg "gone_by" sGoneBy) (DC : Df P w K mg base 1 "come_by" ["flow"] (spComeBy K)) (DL : Df P w K mg base 1 "closing" ["f"] (spClosing K)) : Df P w K mg base 2 "gone_by" ["flow", "curve"] (spGoneBy K) := by
  refine Df.of F scGoneBy (fun _ _ _ _ _ _ us hl => match us, hl with | [_, _], _ => rfl) (fun vs H Q E ⟨_, _, _, _, h, _⟩ => by rw [h]; rfl) (fun f cdv A outer s H vs Q E hr h => ?_)
  obtain ⟨a, b, l, f, rfl, ha, hb, hl, cf, k⟩ := h
  refine ⟨_, pss_cons (ps_set (i := 2) scGoneBy.nd rfl (Or.inr rfl) (pe_df DC hr (pa_cons (pv 0) pa_nil)))
    (pss_cons (ps_set (i := 3) scGoneBy.nd rfl (Or.inr rfl) (pe_df DL hr (pa_cons (pv 1) pa_nil)))
    (pss_one (ps_ret (pe_lc (own := [("t", 4)]) (g := gName 4) (tt := tYes) rfl scGoneBy.nd
      (pi_range1 (by rfl) C.range (pa_cons (pe_callB call_len_seq (by rfl) C.len PySem.boot_len (pa_cons (pv 2) pa_nil)) pa_nil)) (blkOk_by (N := ["flow", "curve", "come", "closed", "t", "k"]) (sc := defScope sGoneBy) (by decide +kernel))
      (fun _ _ _ _ _ => pg_name (i := 4) scGoneBy.nd rfl (Or.inr rfl)) (fun _ _ _ _ _ => pts_nil)
      (fun _ _ _ _ _ => pe_minL K C.min (pe_lc (own := [("k", 5)]) (g := gName 5) (tt := tYes) rfl scGoneBy.nd
        (pi_range1 (by rfl) C.range (pa_cons (pe_op op_add (pv 4) pe_int) pa_nil)) (blkOk_by (N := ["flow", "curve", "come", "closed", "t", "k"]) (sc := relS (lcScope (retAt sGoneBy 2)) (defScope sGoneBy)) (by decide +kernel))
        (fun _ _ _ _ _ => pg_name (i := 5) scGoneBy.nd rfl (Or.inl rfl)) (fun _ _ _ _ _ => pts_nil)
        (fun _ _ _ _ _ => pe_op op_add (pe_at K (pv 2) (pv 5)) (pe_at K (pv 3) (pe_op op_sub (pv 4) (pv 5)))))))))), ?_⟩
  refine ⟨_, rfl, a, l, rfl, ha, hl, fun H1 p s1 n1 e1 => ?_⟩
  refine ⟨_, rfl, b, f, rfl, s1.seq hb, cf.long, fun H2 q s2 n2 e2 => ?_⟩
  rw [close_is cf.first cf.long] at e2
  have e1' := s2 _ _ e1
  have eL : ((iv (come l)).map V.int).length = l.length + 1 := by rw [ll_length, come_length]
  have cL := come_length l
  have kL : (Rc99.close f).length = 33 := power_length 5 cf.long
  refine ⟨_, rfl, p, _, rfl, .inl (SqL.of e1'), _, rfl, by rw [eL]; omega, by rw [eL]; omega, fun D nD => ?_⟩
  rw [eL, Int.toNat_natCast]
  refine lc_map (n := l.length + 1) walk_range (fun t => .int ((Rc99.through (Rc99.close f) l t : Nat) : Int)) nD (by omega) (fun _ _ => trivial) ?_ mono_name ?_
  · rintro t x H4 H3 Qx ht sm ⟨rfl, rfl⟩ q3
    refine ⟨rfl, _, rfl, _, _, rfl, rfl, _, rfl, by omega, by omega, fun D2 nD2 => ?_⟩
    rw [show ((0 + (t : Int)) + 1).toNat = t + 1 by omega]
    refine lc_map (n := t + 1) walk_range (fun i => .int ((Rc99.total l i + Rc99.val (Rc99.close f) (t - i) : Nat) : Int)) nD2 (by omega) (fun _ _ => trivial) ?_ mono_name ?_
    · rintro i x H6 H5 Qy hi s5 ⟨rfl, rfl⟩ q'
      have sA : Same H2 H5 := Same.trans sm s5
      refine ⟨rfl, _, rfl, _, rfl, p, _, _, _, rfl, rfl, SqL.of (sA _ _ e1'), at_iv (k := i) (Int.zero_add _) (by omega), _, rfl, _, rfl, _, rfl, _, _, rfl, rfl, q, _, _, _, rfl, rfl, SqL.of (sA _ _ e2), at_iv (k := t - i) (by omega) (by omega), _, _, rfl, rfl, ?_⟩
      have := q' _ (Same.refl _)
      rw [Int.natCast_add, ← come_val (by omega)] at this
      exact this
    · intro H6 s6 eD
      rw [range_ints (fun i => Rc99.total l i + Rc99.val (Rc99.close f) (t - i)) fun i _ => rfl] at eD
      refine ⟨D2, _, rfl, SqL.of eD, by rw [iv_length, List.length_map, List.length_range]; omega, fun m hm hle => ?_⟩
      rw [least_is hm hle]
      exact q3 _ s6
  · intro H4 s4 eD
    refine k H4 D (Same.trans (Same.trans s1 s2) s4) ((Same.trans s1 s2).free nD) ?_
    rw [eD, range_ints (Rc99.through (Rc99.close f) l) fun i hi => rfl]
    rfl
theorem scHeldBack : FnScope ["flow", "curve", "gone", "t"] ["flow", "curve"] (defScope sHeldBack) := ⟨rfl, rfl, rfl, by decide +kernel, rfl, by decide +kernel, by decide +kernel⟩
theorem ok_held_back (C : Cst mg) (F : Fd K mg "held_back" sHeldBack) (DG : Df P w K mg base 2 "gone_by" ["flow", "curve"] (spGoneBy K)) : Df P w K mg base 3 "held_back" ["flow", "curve"] (spHeldBack K) := by
  refine Df.of F scHeldBack (fun _ _ _ _ _ _ us hl => match us, hl with | [_, _], _ => rfl) (fun vs H Q E ⟨_, _, _, _, h, _⟩ => by rw [h]; rfl) (fun f cdv A outer s H vs Q E hr h => ?_)
  obtain ⟨a, b, l, f, rfl, ha, hb, hl, cf, k⟩ := h
  refine ⟨_, pss_cons (ps_set (i := 2) scHeldBack.nd rfl (Or.inr rfl) (pe_df DG hr (pa_cons (pv 0) (pa_cons (pv 1) pa_nil))))
    (pss_one (ps_ret (pe_lc (own := [("t", 3)]) (g := gName 3) (tt := tYes) rfl scHeldBack.nd
      (pi_range2 (by rfl) C.range (pa_cons pe_int (pa_cons (pe_callB call_len_seq (by rfl) C.len PySem.boot_len (pa_cons (pv 2) pa_nil)) pa_nil))) (blkOk_by (N := ["flow", "curve", "gone", "t"]) (sc := defScope sHeldBack) (by decide +kernel))
      (fun _ _ _ _ _ => pg_name (i := 3) scHeldBack.nd rfl (Or.inl rfl)) (fun _ _ _ _ _ => pts_nil)
      (fun _ _ _ _ _ => pe_op op_sub (pe_at K (pv 2) (pv 3)) (pe_at K (pv 2) (pe_op op_sub (pv 3) pe_int)))))), ?_⟩
  refine ⟨_, rfl, _, rfl, a, b, l, f, rfl, ha, hb, hl, cf, fun H1 p s1 n1 e1 => ?_⟩
  have eL : ((iv (gone f l)).map V.int).length = l.length + 1 := by rw [ll_length, gone_length]
  have gL := gone_length f l
  refine ⟨_, rfl, p, _, rfl, .inl (SqL.of e1), _, _, rfl, ⟨by decide, by decide, by rw [eL]; omega, by rw [eL]; omega⟩, fun D nD => ?_⟩
  rw [eL, show (((l.length + 1 : Nat) : Int) - 1).toNat = l.length by omega]
  refine lc_map (n := l.length) walk_range (fun t => .int (((Rc99.through (Rc99.close f) l (t + 1) : Nat) : Int) - ((Rc99.through (Rc99.close f) l t : Nat) : Int))) nD (by omega) (fun _ _ => trivial) ?_ mono_name ?_
  · rintro t x H4 H3 Qx ht sm ⟨rfl, rfl⟩ q3
    refine ⟨rfl, _, rfl, _, rfl, p, _, _, _, rfl, rfl, SqL.of (sm _ _ e1), at_iv (k := t + 1) (by omega) (by omega), _, rfl, _, rfl, _, _, rfl, rfl, p, _, _, _, rfl, rfl, SqL.of (sm _ _ e1), at_iv (k := t) (by omega) (by omega), _, _, rfl, rfl, ?_⟩
    rw [gone_val (by omega), gone_val (by omega)]
    exact q3 _ (Same.refl _)
  · intro H4 s4 eD
    refine k H4 D (Same.trans s1 s4) (s1.free nD) ?_
    rw [eD, shaped_is cf hl fun i hi => rfl]
theorem scIsCurve : FnScope ["k"] ["k"] (defScope sIsCurve) := ⟨rfl, rfl, rfl, by decide +kernel, rfl, by decide +kernel, by decide +kernel⟩
theorem ok_is_curve (C : Cst mg) (F : Fd K mg "is_curve" sIsCurve) : Df P w K mg base 1 "is_curve" ["k"] spIsCurve := by
  refine Df.of F scIsCurve (fun _ _ _ _ _ _ us hl => match us, hl with | [_], _ => rfl) (fun vs H Q E ⟨_, h, _⟩ => by rw [h]; rfl) (fun f cdv A outer s H vs Q E hr h => ?_)
  obtain ⟨z, rfl, k⟩ := h
  refine ⟨_, pss_one (ps_ret (pe_chain op_le op_lt pe_int (pv 0) (pe_k C.CURVES))), ?_⟩
  refine ⟨_, rfl, _, _, rfl, rfl, _, rfl, ite2 (fun e => ⟨_, _, rfl, rfl, ?_⟩) (fun e => ?_)⟩
  · unfold Rc99.below at k
    rw [e, Bool.true_and] at k
    exact k
  · have e : decide ((0 : Int) ≤ z) = false := by simpa using e
    unfold Rc99.below at k
    rw [e, Bool.false_and] at k
    exact k
end
end Qc
set_option Elab.async false
set_option linter.all false
set_option maxRecDepth 100000
set_option maxHeartbeats 1000000
namespace Qc
open PySem PySem.Spec PyProof.Rows L2
abbrev sKInit : Stmt := inClass (top 36) 0
abbrev sKCurve : Stmt := inClass (top 36) 1
abbrev sKKeep : Stmt := inClass (top 36) 2
abbrev sKMake : Stmt := inClass (top 36) 3
abbrev sKLess : Stmt := inClass (top 36) 4
abbrev sKMost : Stmt := inClass (top 36) 5
abbrev sKLate : Stmt := inClass (top 36) 6
/-! ### a method: where it stands; what it promises -/
structure Md (K : PySem.W.Frag) (C : Addr) (m qual : Str) (st : Stmt) : Prop where
  ex : ∃ (f : Addr) (fd : FuncData), Meth K C m f ∧ Fun K m qual st f fd
structure Dm (P : Program) (w : World) (K : PySem.W.Frag) (mg : Str → Option Value) (base : Heap) (C : Addr) (k : Nat) (m : Str) (ps : List Str) (sp : Sp) : Prop where
  ex : ∃ (f : Addr) (fd : FuncData), Meth K C m f ∧ Binds K fd ps [] ∧ FnOk P w K mg base CX0 k f fd ps sp
section
variable {P : Program} {w : World} {mg : Str → Option Value} {K : PySem.W.Frag} {base : Heap}
theorem Dm.of {C : Addr} {m qual : Str} {st : Stmt} {N ps : List Str} {k : Nat} {sp : Sp} (F : Md K C m qual st) (S : FnScope N ps (defScope st))
    (hb : ∀ (kV doc pm : Value) (an : Option Addr) (cdv ct : Value) (us : List Value), us.length = ps.length → bindArgs (PySem.W.fnOf m qual (defArgs st) (defBody st) (defScope st) .none kV doc pm an cdv ct) ⟨us, []⟩ = pure (ps.zip us))
    (len : ∀ us H Q E, sp us H Q E → us.length = ps.length)
    (hbody : ∀ (f : Addr) (cdv : Value) (A : Around) (outer : List Env) (s : Shared) (H : Hp) (vs : List V) (Q : VK) (E : XK), Room k (A.deeper (envOfC qual (defScope st) s.heap.objs.size f cdv)) → sp vs H Q E →
      ∃ t, PSs (cxOf CX0 P w K mg base N qual (defScope st) f cdv A outer s H E).nox (defBody st) t ∧ t { nx := fun _ H' => Q .non H', rt := Q } (start N vs) H) : Dm P w K mg base C (k + 1) m ps sp := by
  obtain ⟨f, fd, h1, h2⟩ := F.ex
  exact ⟨f, fd, h1, h2.binds hb, h2.ok S len (hbody f)⟩
end
section
variable {X : Cx} {k : Nat} {C : Addr} {ps : List Str} {sp : Sp} {m : Str} {apos pos : Pos} {o e : Expr} {es : List Expr} {ta : TE} {t : TA}
theorem pe_dm {pl : Sem Bool} (he : PE X o ta) (c : Cls X.K C) (D : Dm X.prog X.w X.K X.mg X.base C k m ps sp) (hr : Room k X.A) (ha : PA X (e :: es) t)
    (hpl : (backTo pos (starEach es X.env)).any (·.1) = false := by rfl) (hst : starEach (e :: es) X.env = (false, eval e X.env) :: starEach es X.env := by rfl)
    (ht : eval (.Call (.Attribute o m apos) (e :: es) [] pos) X.env = (do
      let ob ← eval o X.env
      standAt apos.atName
      let (fn, bef) ← holding [ob] (getMethod ob m pl)
      callWith pos fn bef (backTo pos (starEach (e :: es) X.env)) (backToKw pos (keywordEach [] X.env))) := by rfl) :
    PE X (.Call (.Attribute o m apos) (e :: es) [] pos) (tMeth C m sp [] E0 ta t) := by
  obtain ⟨f, fd, h1, h3, h4⟩ := D.ex
  exact pe_meth he c h1 h4 hr h3 .nil pass0 ha hst hpl ht
end
/-- what the top has written of the class -/
structure KCls (K : PySem.W.Frag) (mg : Str → Option Value) (C : Addr) : Prop where
  cl : Cls K C
  nC : NoAttr K C "curves"
  mgC : mg "Keeper" = some (.ref C)
/-! ### how the curves lie in the heap -/
/-- all but the list of the curves stands; what that list holds was in it, or is new -/
def SameBut (L : Addr) (H H' : Hp) : Prop := (∀ b o, H b = some o → b ≠ L → H' b = some o) ∧ ∀ items, H L = some (.lst items) → ∃ items', H' L = some (.lst items') ∧ ∀ c, V.ref c ∈ items' → V.ref c ∈ items ∨ H c = none
/-- the same where one address is put in -/
def KeptBut (L c : Addr) (H H' : Hp) : Prop := (∀ b o, H b = some o → b ≠ L → H' b = some o) ∧ ∀ items, H L = some (.lst items) → ∃ items', H' L = some (.lst items') ∧ ∀ d, V.ref d ∈ items' → V.ref d ∈ items ∨ d = c
theorem same_but {H H' : Hp} (s : Same H H') (L : Addr) : SameBut L H H' := ⟨fun b o e _ => s b o e, fun items e => ⟨items, s _ _ e, fun c h => .inl h⟩⟩
theorem SameBut.trans {L : Addr} {H H1 H2 : Hp} (a : SameBut L H H1) (b : SameBut L H1 H2) : SameBut L H H2 := by
  refine ⟨fun c o e n => b.1 c o (a.1 c o e n) n, fun items e => ?_⟩
  obtain ⟨i1, e1, h1⟩ := a.2 items e
  obtain ⟨i2, e2, h2⟩ := b.2 i1 e1
  refine ⟨i2, e2, fun c hc => ?_⟩
  rcases h2 c hc with h | h
  · exact h1 c h
  · refine .inr ?_
    cases q : H c with
    | none => rfl
    | some o =>
      by_cases z : c = L
      · rw [z, e1] at h
        cases h
      · rw [a.1 c o q z] at h
        cases h
theorem keep_but {L p : Addr} {H H1 H2 : Hp} (s : Same H H1) (n : H p = none) (k : KeptBut L p H1 H2) : SameBut L H H2 := by
  refine ⟨fun c o e z => k.1 c o (s c o e) z, fun items e => ?_⟩
  obtain ⟨i2, e2, h2⟩ := k.2 items (s _ _ e)
  refine ⟨i2, e2, fun c hc => ?_⟩
  rcases h2 c hc with h | h
  · exact .inl h
  · rw [h]
    exact .inr n
structure KeepAt (C : Addr) (H : Hp) (kp L : Addr) (s : Rc99.Abs) : Prop where
  ins : ∃ dx, H kp = some (.ins C dx [("curves", .ref L)])
  cs : ∃ cs : List Addr, H L = some (.lst (cs.map V.ref)) ∧ cs.length = 8 ∧ ∀ (j : Nat) (c : Addr), cs[j]? = some c → ∃ f, s.curves[j]? = some f ∧ H c = some (LL f)
  len : s.curves.length = 8
  good : ∀ f ∈ s.curves, Curve f
theorem KeepAt.same {C : Addr} {H H' : Hp} {kp L : Addr} {s : Rc99.Abs} (k : KeepAt C H kp L s) (e : Same H H') : KeepAt C H' kp L s := by
  obtain ⟨dx, h1⟩ := k.ins
  obtain ⟨cs, h2, h3, h4⟩ := k.cs
  refine ⟨⟨dx, e _ _ h1⟩, ⟨cs, e _ _ h2, h3, fun j c hc => ?_⟩, k.len, k.good⟩
  obtain ⟨f, h5, h6⟩ := h4 j c hc
  exact ⟨f, h5, e _ _ h6⟩
theorem lk_curves {v : V} : List.lookup ("curves" : Str) [(("curves" : Str), v)] = some v := by
  have e : (("curves" : Str) == ("curves" : Str)) = true := beq_self_eq_true _
  simp only [List.lookup, e]
theorem lk_none {m : Str} {v : V} (h : (m == ("curves" : Str)) = false) : List.lookup m [(("curves" : Str), v)] = none := by
  simp only [List.lookup, h]
theorem get_below {s : Rc99.Abs} {k : Int} {f : List Nat} (h : Rc99.get s k = some f) : Rc99.below k 8 = true ∧ s.curves[k.toNat]? = some f := by
  unfold Rc99.get at h
  by_cases e : Rc99.below k Rc99.KEPT = true
  · rw [if_pos e] at h
    exact ⟨e, h⟩
  · rw [if_neg e] at h
    cases h
theorem below_iff {k : Int} {n : Nat} : Rc99.below k n = true ↔ 0 ≤ k ∧ k < (n : Int) := by
  unfold Rc99.below
  rw [Bool.and_eq_true, decide_eq_true_iff, decide_eq_true_iff]
theorem get_some {C : Addr} {H : Hp} {kp L : Addr} {s : Rc99.Abs} (K : KeepAt C H kp L s) {k : Int} (h : Rc99.below k 8 = true) : ∃ f, Rc99.get s k = some f := by
  have hb := below_iff.mp h
  have hl := K.len
  have e : k.toNat < s.curves.length := by omega
  refine ⟨s.curves[k.toNat], ?_⟩
  unfold Rc99.get
  rw [if_pos (show Rc99.below k Rc99.KEPT = true from h)]
  exact List.getElem?_eq_getElem e
theorem get_none {s : Rc99.Abs} {k : Int} (h : Rc99.below k 8 = false) : Rc99.get s k = none := by
  unfold Rc99.get
  rw [if_neg]
  intro e
  rw [show Rc99.below k Rc99.KEPT = false from h] at e
  exact Bool.false_ne_true e
/-- a curve by its number -/
theorem KeepAt.at_ {C : Addr} {H : Hp} {kp L : Addr} {s : Rc99.Abs} (K : KeepAt C H kp L s) {k : Int} {f : List Nat} (h : Rc99.get s k = some f) :
    ∃ (cs : List Addr) (c : Addr), H L = some (.lst (cs.map V.ref)) ∧ atI (cs.map V.ref) k = some (.ref c) ∧ H c = some (LL f) ∧ Curve f := by
  obtain ⟨hb, hf⟩ := get_below h
  have hb := below_iff.mp hb
  obtain ⟨cs, h2, h3, h4⟩ := K.cs
  have hk : k.toNat < cs.length := by omega
  obtain ⟨f', e1, e2⟩ := h4 k.toNat cs[k.toNat] (List.getElem?_eq_getElem hk)
  rw [hf] at e1
  cases e1
  refine ⟨cs, cs[k.toNat], h2, at_of (j := k.toNat) (by omega) ?_, e2, K.good _ (List.mem_of_getElem? hf)⟩
  rw [List.getElem?_map, List.getElem?_eq_getElem hk]
  rfl
theorem refs_ints {cs : List Addr} {ns : List Int} (h : 0 < cs.length) : ¬ (cs.map V.ref = ns.map V.int) := by
  intro e
  cases cs with
  | nil => exact absurd h (Nat.lt_irrefl _)
  | cons c r =>
    cases ns with
    | nil => cases e
    | cons n ns => cases e
/-- a list of whole numbers is not the list of the curves -/
theorem KeepAt.ne {C : Addr} {H : Hp} {kp L : Addr} {s : Rc99.Abs} (K : KeepAt C H kp L s) {c : Addr} {ns : List Int} (h : H c = some (.lst (ns.map V.int))) : c ≠ L := by
  obtain ⟨cs, h2, h3, _⟩ := K.cs
  intro e
  rw [e, h2] at h
  exact refs_ints (ns := ns) (show 0 < cs.length by omega) (HO.lst.inj (Option.some.inj h))
theorem KeepAt.put {C : Addr} {H : Hp} {kp L : Addr} {s : Rc99.Abs} (K : KeepAt C H kp L s) {k : Int} (hk : Rc99.below k 8 = true) {c : Addr} {f : List Nat} (hc : H c = some (LL f)) (cf : Curve f) {cs : List Addr} (h2 : H L = some (.lst (cs.map V.ref))) :
    KeepAt C (upd H L (.lst ((cs.map V.ref).set k.toNat (.ref c)))) kp L (Rc99.put s k f) := by
  have hb := below_iff.mp hk
  obtain ⟨dx, h1⟩ := K.ins
  obtain ⟨cs', h2', h3, h4⟩ := K.cs
  have ecs : cs' = cs := by
    rw [h2] at h2'
    have := HO.lst.inj (Option.some.inj h2')
    exact (List.map_inj_right (fun _ _ e => V.ref.inj e)).mp this.symm
  subst ecs
  have nk : kp ≠ L := ne_of h1 h2 (by intro z; cases z)
  refine ⟨⟨dx, by rw [upd_ne nk]; exact h1⟩, ⟨cs'.set k.toNat c, ?_, by rw [List.length_set]; exact h3, fun j d hd => ?_⟩, ?_, fun g hg => ?_⟩
  · rw [upd_same, List.map_set]
  · by_cases e : j = k.toNat
    · subst e
      rw [List.getElem?_set_self (by omega)] at hd
      cases hd
      refine ⟨f, ?_, by rw [upd_ne (K.ne hc)]; exact hc⟩
      show (s.curves.set k.toNat f)[k.toNat]? = some f
      rw [List.getElem?_set_self (by rw [K.len]; omega)]
    · rw [List.getElem?_set_ne (fun q => e q.symm)] at hd
      obtain ⟨g, e1, e2⟩ := h4 j d hd
      refine ⟨g, ?_, by rw [upd_ne (K.ne e2)]; exact e2⟩
      show (s.curves.set k.toNat f)[j]? = some g
      rw [List.getElem?_set_ne (fun q => e q.symm)]
      exact e1
  · show (s.curves.set k.toNat f).length = 8
    rw [List.length_set]
    exact K.len
  · rcases List.mem_or_eq_of_mem_set (show g ∈ s.curves.set k.toNat f from hg) with h | h
    · exact K.good g h
    · rw [h]
      exact cf
theorem made_five (f g : List Nat) : Rc99.made 5 f g = some (Rc99.close f) := by
  unfold Rc99.made
  rw [if_neg (by decide), if_neg (by decide), if_neg (by decide), if_neg (by decide), if_neg (by decide), if_pos rfl]
/-! ### promises -/
def spKInit (C : Addr) : Sp := fun vs H Q _ => ∃ p dx : Addr, vs = [.ref p] ∧ H p = some (.ins C dx []) ∧ ∀ (H' : Hp) (L : Addr), KeepAt C H' p L {} → (∀ b o, H b = some o → b ≠ p → H' b = some o) → H L = none → (∀ items, H' L = some (.lst items) → ∀ c, V.ref c ∈ items → H c = none) → Q .non H'
def spKCurve (C : Addr) : Sp := fun vs H Q _ => ∃ (kp L : Addr) (s : Rc99.Abs) (k : Int) (f : List Nat), vs = [.ref kp, .int k] ∧ KeepAt C H kp L s ∧ Rc99.get s k = some f ∧ ∀ c, H c = some (LL f) → Q (.ref c) H
def spKKeep (C : Addr) : Sp := fun vs H Q _ => ∃ (kp L : Addr) (s : Rc99.Abs) (k : Int) (c : Addr) (f : List Nat), vs = [.ref kp, .int k, .ref c] ∧ KeepAt C H kp L s ∧ Rc99.below k 8 = true ∧ H c = some (LL f) ∧ Curve f ∧
  ∀ H' : Hp, KeepAt C H' kp L (Rc99.put s k f) → KeptBut L c H H' → Q .non H'
def spKMake (C : Addr) : Sp := fun vs H Q _ => ∃ (kp L : Addr) (s : Rc99.Abs) (k what a b : Int) (f g h : List Nat), vs = [.ref kp, .int k, .int what, .int a, .int b] ∧ KeepAt C H kp L s ∧ Rc99.below k 8 = true ∧ Rc99.get s a = some f ∧ Rc99.get s b = some g ∧ Rc99.made what f g = some h ∧
  (1000000 < Rc99.greatest h → ∀ H', Same H H' → Q (.bl false) H') ∧ (¬ 1000000 < Rc99.greatest h → ∀ H', KeepAt C H' kp L (Rc99.put s k h) → SameBut L H H' → Q (.bl true) H')
def spKTwo (C : Addr) (op : List Nat → List Nat → V) : Sp := fun vs H Q _ => ∃ (kp L : Addr) (s : Rc99.Abs) (a b : Int) (f g : List Nat), vs = [.ref kp, .int a, .int b] ∧ KeepAt C H kp L s ∧ Rc99.get s a = some f ∧ Rc99.get s b = some g ∧ RetV H (op f g) Q
section
variable {P : Program} {w : World} {K : PySem.W.Frag} {mg : Str → Option Value} {base : Heap} {C : Addr}
theorem scKInit : FnScope ["self", "k"] ["self"] (defScope sKInit) := ⟨rfl, rfl, rfl, by decide +kernel, rfl, by decide +kernel, by decide +kernel⟩
theorem ok_kinit {f : Addr} {fd : FuncData} (T : KCls K mg C) (N : Cst mg) (F : Fun K "__init__" "Keeper.__init__" sKInit f fd) (DN : Df P w K mg base 1 "nothing" [] spNothing) : FnOk P w K mg base CX0 2 f fd ["self"] (spKInit C) := by
  refine F.ok scKInit (fun vs H Q E ⟨_, _, h, _⟩ => by rw [h]; rfl) (fun cdv A outer s H vs Q E hr h => ?_)
  obtain ⟨p, dx, rfl, hp, k⟩ := h
  refine ⟨_, pss_one (ps_fld (pv 0) (pe_lc (own := [("k", 1)]) (g := gName 1) (tt := tYes) rfl scKInit.nd (pi_range1 (by rfl) N.range (pa_cons (pe_k N.CURVES) pa_nil)) (blkOk_by (N := ["self", "k"]) (sc := defScope sKInit) (by decide +kernel))
    (fun _ _ _ _ _ => pg_name (i := 1) scKInit.nd rfl (Or.inl rfl)) (fun _ _ _ _ _ => pts_nil) (fun _ _ _ _ _ => pe_df0 DN hr)) rfl), ?_⟩
  refine ⟨_, rfl, by decide, by decide, fun D nD => lc_range (lo := 0) (n := 8) (fun i H' => Same H H' ∧ ∃ cs : List Addr, cs.length = i ∧ H' D = some (.lst (cs.map V.ref)) ∧ (∀ c ∈ cs, H c = none) ∧ ∀ c ∈ cs, H' c = some (LL (List.replicate 33 0))) ⟨same_upd nD, [], rfl, upd_same, fun c hc => absurd hc (by simp), fun c hc => absurd hc (by simp)⟩ ?_ ?_⟩
  · rintro i H1 hi ⟨s1, cs, e1, e2, e0, e3⟩
    refine ⟨rfl, rfl, fun H2 q s2 n2 e4 => ⟨_, s2 _ _ e2, by rw [List.length_map]; exact small1000 (by omega), same_put (Same.trans s1 s2) nD, cs ++ [q], by rw [List.length_append, e1]; rfl, ?_, fun c hc => ?_, fun c hc => ?_⟩⟩
    · rw [upd_same, List.map_append]
      rfl
    · rcases List.mem_append.mp hc with hc | hc
      · exact e0 c hc
      · obtain rfl : c = q := by simpa using hc
        exact s1.free n2
    · have nc : c ≠ D := by
        rcases List.mem_append.mp hc with hc | hc
        · intro e
          have := e3 c hc
          rw [e, e2] at this
          have := congrArg List.length (HO.lst.inj (Option.some.inj this))
          rw [List.length_map, ll_length, List.length_replicate] at this
          omega
        · obtain rfl : c = q := by simpa using hc
          exact fun e => ne_of_none e2 n2 e.symm
      rw [upd_ne nc]
      rcases List.mem_append.mp hc with hc | hc
      · exact s2 _ _ (e3 c hc)
      · obtain rfl : c = q := by simpa using hc
        exact e4
  · rintro H1 ⟨s1, cs, e1, e2, e00, e3⟩
    have e0 := s1 _ _ hp
    refine ⟨_, rfl, p, C, dx, _, rfl, e0, T.cl, T.nC, by show 0 < 1000; decide, ?_⟩
    have nD' : D ≠ p := fun e => by
      rw [e, hp] at nD
      cases nD
    refine k _ D ⟨⟨dx, upd_same⟩, ⟨cs, by rw [upd_ne nD']; exact e2, e1, fun j c hc => ⟨List.replicate 33 0, ?_, ?_⟩⟩, rfl, fun f hf => ?_⟩ (fun b o e hb => by rw [upd_ne hb]; exact s1 _ _ e) nD (fun items ei c hc => ?_)
    · have hj := (List.getElem?_eq_some_iff.mp hc).1
      show (List.replicate 8 (List.replicate 33 0))[j]? = _
      rw [List.getElem?_replicate, if_pos (by omega)]
    · have h3 := e3 c (List.mem_of_getElem? hc)
      rw [upd_ne (ne_of h3 e0 (by intro z; cases z))]
      exact h3
    · have : f = List.replicate 33 0 := (List.mem_replicate.mp (show f ∈ List.replicate 8 (List.replicate 33 0) from hf)).2
      rw [this]
      refine ⟨by rw [List.length_replicate], rfl, fun s t h1 h2 => ?_⟩
      have z : ∀ t, Rc99.val (List.replicate 33 0) t = 0 := fun t => by
        unfold Rc99.val
        rw [List.getD_eq_getElem?_getD, List.getElem?_replicate]
        split <;> rfl
      rw [z, z]
      exact Nat.le_refl _
    · rw [upd_ne nD', e2] at ei
      cases ei
      obtain ⟨d, hd, e⟩ := List.mem_map.mp hc
      cases e
      exact e00 _ hd
theorem scKCurve : FnScope ["self", "k"] ["self", "k"] (defScope sKCurve) := ⟨rfl, rfl, rfl, by decide +kernel, rfl, by decide +kernel, by decide +kernel⟩
theorem ok_kcurve (T : KCls K mg C) (F : Md K C "curve" "Keeper.curve" sKCurve) : Dm P w K mg base C 1 "curve" ["self", "k"] (spKCurve C) := by
  refine Dm.of F scKCurve (fun _ _ _ _ _ _ us hl => match us, hl with | [_, _], _ => rfl) (fun vs H Q E ⟨_, _, _, _, _, h, _⟩ => by rw [h]; rfl) (fun f cdv A outer s H vs Q E hr h => ?_)
  obtain ⟨kp, L, st, k, f, rfl, KA, hg, q⟩ := h
  obtain ⟨dx, h1⟩ := KA.ins
  obtain ⟨cs, c, h2, h3, h4, _⟩ := KA.at_ hg
  refine ⟨_, pss_one (ps_ret (pe_at K (pe_fld (pv 0) rfl) (pv 1))), ?_⟩
  exact ⟨_, rfl, kp, C, dx, _, _, rfl, h1, T.cl, T.nC, lk_curves, _, rfl, L, _, _, _, rfl, rfl, SqL.of h2, h3, q c h4⟩
theorem scKKeep : FnScope ["self", "k", "curve"] ["self", "k", "curve"] (defScope sKKeep) := ⟨rfl, rfl, rfl, by decide +kernel, rfl, by decide +kernel, by decide +kernel⟩
theorem ok_kkeep (T : KCls K mg C) (F : Md K C "keep" "Keeper.keep" sKKeep) : Dm P w K mg base C 1 "keep" ["self", "k", "curve"] (spKKeep C) := by
  refine Dm.of F scKKeep (fun _ _ _ _ _ _ us hl => match us, hl with | [_, _, _], _ => rfl) (fun vs H Q E ⟨_, _, _, _, _, _, h, _⟩ => by rw [h]; rfl) (fun f cdv A outer s H vs Q E hr h => ?_)
  obtain ⟨kp, L, st, k, c, f, rfl, KA, hk, hc, cf, q⟩ := h
  obtain ⟨dx, h1⟩ := KA.ins
  obtain ⟨cs, h2, h3, _⟩ := KA.cs
  have hb := below_iff.mp hk
  refine ⟨_, pss_one (ps_asg (pv 2) (pg_sub (pe_fld (pv 0) rfl) (pv 1) set_list)), ?_⟩
  refine ⟨_, rfl, _, rfl, kp, C, dx, _, _, rfl, h1, T.cl, T.nC, lk_curves, _, rfl, L, _, _, k.toNat, rfl, rfl, h2, ?_, ?_⟩
  · unfold ixN
    rw [if_pos hb.1, if_pos (by rw [List.length_map]; omega)]
  · refine q _ (KA.put hk hc cf h2) ⟨fun b o e nb => by rw [upd_ne nb]; exact e, fun items e => ⟨_, upd_same, fun d hd => ?_⟩⟩
    rw [h2] at e
    cases e
    rcases List.mem_or_eq_of_mem_set hd with h | h
    · exact .inl h
    · exact .inr (V.ref.inj h)
theorem scKMake : FnScope ["self", "k", "what", "a", "b", "other", "found"] ["self", "k", "what", "a", "b"] (defScope sKMake) := ⟨rfl, rfl, rfl, by decide +kernel, rfl, by decide +kernel, by decide +kernel⟩
theorem ok_kmake (T : KCls K mg C) (N : Cst mg) (F : Md K C "make" "Keeper.make" sKMake) (DM : Df P w K mg base 3 "made" ["what", "f", "g"] (spMade K)) (DK : Dm P w K mg base C 1 "keep" ["self", "k", "curve"] (spKKeep C)) : Dm P w K mg base C 4 "make" ["self", "k", "what", "a", "b"] (spKMake C) := by
  refine Dm.of F scKMake (fun _ _ _ _ _ _ us hl => match us, hl with | [_, _, _, _, _], _ => rfl) (fun vs H Q E ⟨_, _, _, _, _, _, _, _, _, _, h, _⟩ => by rw [h]; rfl) (fun f cdv A outer s H vs Q E hr h => ?_)
  obtain ⟨kp, L, st, k, what, a, b, f, g, h, rfl, KA, hk, hga, hgb, hm, q1, q2⟩ := h
  obtain ⟨dx, h1⟩ := KA.ins
  obtain ⟨cs, c, h2, h3, h4, cf⟩ := KA.at_ hga
  obtain ⟨cs2, c2, h2', h3', h4', cg⟩ := KA.at_ hgb
  have hr1 : Room 1 _ := hr.mono (by decide)
  refine ⟨_, pss_cons (ps_set (i := 5) scKMake.nd rfl (Or.inl rfl) (pe_at K (pe_fld (pv 0) rfl) (pv 3)))
    (pss_cons (ps_if (pt_cmpR op_ne (pv 2) (pe_k N.CLOSING) (nomark _)) (pss_one (ps_set (i := 5) scKMake.nd rfl (Or.inl rfl) (pe_at K (pe_fld (pv 0) rfl) (pv 4)))) pss_nil)
    (pss_cons (ps_set (i := 6) scKMake.nd rfl (Or.inl rfl) (pe_df DM hr (pa_cons (pv 2) (pa_cons (pe_at K (pe_fld (pv 0) rfl) (pv 3)) (pa_cons (pv 5) pa_nil)))))
    (pss_cons (ps_if (pt_cmpR op_gt (pe_maxL K N.max (pv 6)) (pe_k N.MOST) (nomark _)) (pss_one (ps_ret pe_bl)) pss_nil)
    (pss_cons (ps_expr (pe_dm (pv 0) T.cl DK hr1 (pa_cons (pv 1) (pa_cons (pv 6) pa_nil))))
    (pss_one (ps_ret pe_bl)))))), ?_⟩
  have rest : ∀ (Hn : Hp) (p : Addr), Same H Hn → H p = none → Hn p = some (LL h) → Curve h → (∀ m : Int, m ∈ iv h → (∀ y ∈ iv h, y ≤ m) → m = (Rc99.greatest h : Int)) := fun _ _ _ _ _ _ m hm hle => greatest_is hm hle
  have ch : Curve h := curve_made cf cg hm
  refine ⟨_, rfl, kp, C, dx, _, _, rfl, h1, T.cl, T.nC, lk_curves, _, rfl, L, _, _, _, rfl, rfl, SqL.of h2, h3, _, rfl, rfl, _, rfl, ite2 (fun e => ?_) (fun e => ?_)⟩
  · refine ⟨_, rfl, kp, C, dx, _, _, rfl, h1, T.cl, T.nC, lk_curves, _, rfl, L, _, _, _, rfl, rfl, SqL.of h2', h3', ?_⟩
    refine ⟨_, rfl, _, rfl, kp, C, dx, _, _, rfl, h1, T.cl, T.nC, lk_curves, _, rfl, L, _, _, _, rfl, rfl, SqL.of h2, h3, _, rfl, what, c, c2, f, g, h, rfl, SqL.of h4, SqL.of h4', cf, cg, hm, fun H1 p s1 n1 e1 => ?_⟩
    refine ⟨_, rfl, p, _, rfl, SqL.of e1, by rw [iv_length, ch.long]; decide, fun m hm' hle => ⟨_, _, rfl, rfl, _, rfl, ite2 (fun e => ?_) (fun e => ?_)⟩⟩
    · have e := of_decide_eq_true e
      rw [greatest_is hm' hle] at e
      exact q1 (by omega) H1 s1
    · have e : ¬ (1000000 : Int) < m := fun z => e (decide_eq_true z)
      rw [greatest_is hm' hle] at e
      refine ⟨_, rfl, kp, dx, _, rfl, s1 _ _ h1, lk_none (by decide +kernel), _, rfl, _, rfl, kp, L, st, k, p, h, rfl, KA.same s1, hk, e1, ch, fun H2 K2 s2 => ?_⟩
      exact q2 (by omega) H2 K2 (keep_but s1 n1 s2)
  · have e5 : what = 5 := by
      have z : ¬ (!decide (V.int what = V.int 5)) = true := e
      rw [Bool.not_eq_true', Bool.not_eq_false] at z
      exact V.int.inj (of_decide_eq_true z)
    have hm5 : Rc99.made what f f = some h := by
      rw [e5, made_five] at hm ⊢
      exact hm
    refine ⟨_, rfl, _, rfl, kp, C, dx, _, _, rfl, h1, T.cl, T.nC, lk_curves, _, rfl, L, _, _, _, rfl, rfl, SqL.of h2, h3, _, rfl, what, c, c, f, f, h, rfl, SqL.of h4, SqL.of h4, cf, cf, hm5, fun H1 p s1 n1 e1 => ?_⟩
    refine ⟨_, rfl, p, _, rfl, SqL.of e1, by rw [iv_length, ch.long]; decide, fun m hm' hle => ⟨_, _, rfl, rfl, _, rfl, ite2 (fun e => ?_) (fun e => ?_)⟩⟩
    · have e := of_decide_eq_true e
      rw [greatest_is hm' hle] at e
      exact q1 (by omega) H1 s1
    · have e : ¬ (1000000 : Int) < m := fun z => e (decide_eq_true z)
      rw [greatest_is hm' hle] at e
      refine ⟨_, rfl, kp, dx, _, rfl, s1 _ _ h1, lk_none (by decide +kernel), _, rfl, _, rfl, kp, L, st, k, p, h, rfl, KA.same s1, hk, e1, ch, fun H2 K2 s2 => ?_⟩
      exact q2 (by omega) H2 K2 (keep_but s1 n1 s2)
theorem scKLess : FnScope ["self", "a", "b"] ["self", "a", "b"] (defScope sKLess) := ⟨rfl, rfl, rfl, by decide +kernel, rfl, by decide +kernel, by decide +kernel⟩
theorem ok_kless (T : KCls K mg C) (F : Md K C "less" "Keeper.less" sKLess) (D : Df P w K mg base 1 "is_less" ["f", "g"] (spFGV K fun f g => .bl (Rc99.under f g))) : Dm P w K mg base C 2 "less" ["self", "a", "b"] (spKTwo C fun f g => .bl (Rc99.under f g)) := by
  refine Dm.of F scKLess (fun _ _ _ _ _ _ us hl => match us, hl with | [_, _, _], _ => rfl) (fun vs H Q E ⟨_, _, _, _, _, _, _, h, _⟩ => by rw [h]; rfl) (fun f cdv A outer s H vs Q E hr h => ?_)
  obtain ⟨kp, L, st, a, b, f, g, rfl, KA, hga, hgb, q⟩ := h
  obtain ⟨dx, h1⟩ := KA.ins
  obtain ⟨cs, c, h2, h3, h4, cf⟩ := KA.at_ hga
  obtain ⟨cs2, c2, h2', h3', h4', cg⟩ := KA.at_ hgb
  refine ⟨_, pss_one (ps_ret (pe_df D hr (pa_cons (pe_at K (pe_fld (pv 0) rfl) (pv 1)) (pa_cons (pe_at K (pe_fld (pv 0) rfl) (pv 2)) pa_nil)))), ?_⟩
  exact ⟨_, rfl, kp, C, dx, _, _, rfl, h1, T.cl, T.nC, lk_curves, _, rfl, L, _, _, _, rfl, rfl, SqL.of h2, h3, _, rfl, kp, C, dx, _, _, rfl, h1, T.cl, T.nC, lk_curves, _, rfl, L, _, _, _, rfl, rfl, SqL.of h2', h3', c, c2, f, g, rfl, SqL.of h4, SqL.of h4', cf.long, cg.long, q⟩
theorem scKMost : FnScope ["self", "a", "b"] ["self", "a", "b"] (defScope sKMost) := ⟨rfl, rfl, rfl, by decide +kernel, rfl, by decide +kernel, by decide +kernel⟩
theorem ok_kmost (T : KCls K mg C) (F : Md K C "most" "Keeper.most" sKMost) (D : Df P w K mg base 1 "most_above" ["f", "g"] (spFGV K fun f g => .int ((Rc99.backlog f g : Nat) : Int))) : Dm P w K mg base C 2 "most" ["self", "a", "b"] (spKTwo C fun f g => .int ((Rc99.backlog f g : Nat) : Int)) := by
  refine Dm.of F scKMost (fun _ _ _ _ _ _ us hl => match us, hl with | [_, _, _], _ => rfl) (fun vs H Q E ⟨_, _, _, _, _, _, _, h, _⟩ => by rw [h]; rfl) (fun f cdv A outer s H vs Q E hr h => ?_)
  obtain ⟨kp, L, st, a, b, f, g, rfl, KA, hga, hgb, q⟩ := h
  obtain ⟨dx, h1⟩ := KA.ins
  obtain ⟨cs, c, h2, h3, h4, cf⟩ := KA.at_ hga
  obtain ⟨cs2, c2, h2', h3', h4', cg⟩ := KA.at_ hgb
  refine ⟨_, pss_one (ps_ret (pe_df D hr (pa_cons (pe_at K (pe_fld (pv 0) rfl) (pv 1)) (pa_cons (pe_at K (pe_fld (pv 0) rfl) (pv 2)) pa_nil)))), ?_⟩
  exact ⟨_, rfl, kp, C, dx, _, _, rfl, h1, T.cl, T.nC, lk_curves, _, rfl, L, _, _, _, rfl, rfl, SqL.of h2, h3, _, rfl, kp, C, dx, _, _, rfl, h1, T.cl, T.nC, lk_curves, _, rfl, L, _, _, _, rfl, rfl, SqL.of h2', h3', c, c2, f, g, rfl, SqL.of h4, SqL.of h4', cf.long, cg.long, q⟩
theorem scKLate : FnScope ["self", "a", "b"] ["self", "a", "b"] (defScope sKLate) := ⟨rfl, rfl, rfl, by decide +kernel, rfl, by decide +kernel, by decide +kernel⟩
theorem ok_klate (T : KCls K mg C) (F : Md K C "late" "Keeper.late" sKLate) (D : Df P w K mg base 2 "latest" ["f", "g"] (spFGV K fun f g => optV (Rc99.late f g))) : Dm P w K mg base C 3 "late" ["self", "a", "b"] (spKTwo C fun f g => optV (Rc99.late f g)) := by
  refine Dm.of F scKLate (fun _ _ _ _ _ _ us hl => match us, hl with | [_, _, _], _ => rfl) (fun vs H Q E ⟨_, _, _, _, _, _, _, h, _⟩ => by rw [h]; rfl) (fun f cdv A outer s H vs Q E hr h => ?_)
  obtain ⟨kp, L, st, a, b, f, g, rfl, KA, hga, hgb, q⟩ := h
  obtain ⟨dx, h1⟩ := KA.ins
  obtain ⟨cs, c, h2, h3, h4, cf⟩ := KA.at_ hga
  obtain ⟨cs2, c2, h2', h3', h4', cg⟩ := KA.at_ hgb
  refine ⟨_, pss_one (ps_ret (pe_df D hr (pa_cons (pe_at K (pe_fld (pv 0) rfl) (pv 1)) (pa_cons (pe_at K (pe_fld (pv 0) rfl) (pv 2)) pa_nil)))), ?_⟩
  exact ⟨_, rfl, kp, C, dx, _, _, rfl, h1, T.cl, T.nC, lk_curves, _, rfl, L, _, _, _, rfl, rfl, SqL.of h2, h3, _, rfl, kp, C, dx, _, _, rfl, h1, T.cl, T.nC, lk_curves, _, rfl, L, _, _, _, rfl, rfl, SqL.of h2', h3', c, c2, f, g, rfl, SqL.of h4, SqL.of h4', cf.long, cg.long, q⟩
end
end Qc
set_option Elab.async false
set_option linter.all false
set_option maxRecDepth 100000
set_option maxHeartbeats 1000000
namespace Qc
open PySem PySem.Spec PyProof.Rows L2
abbrev sSetLine : Stmt := top 44
abbrev sSetRate : Stmt := top 45
abbrev sIsRow : Stmt := top 46
abbrev sSetRow : Stmt := top 47
abbrev sMake : Stmt := top 48
abbrev sValue : Stmt := top 49
abbrev sLate : Stmt := top 50
abbrev sCompared : Stmt := top 51
abbrev sFits : Stmt := top 52
abbrev sShape : Stmt := top 53
/-! ### what a call of the desk comes to -/
def ansOf (a : Rc99.Ans) : List Int := a.value :: iv a.numbers
/-- the call is done: the curves are as the specification has them, its answer is a new list, all else stands -/
def Done (C : Addr) (H : Hp) (kp L : Addr) (s : Rc99.Abs) (c : Rc99.Call) (Q : VK) : Prop :=
  ∀ (H' : Hp) (q : Addr), SameBut L H H' → KeepAt C H' kp L (Rc99.does s c).1 → H q = none → H' q = some (.lst ((ansOf (Rc99.does s c).2).map V.int)) → Q (.ref q) H'
theorem Done.stay {C : Addr} {H : Hp} {kp L : Addr} {s : Rc99.Abs} {c : Rc99.Call} {Q : VK} (D : Done C H kp L s c Q) (KA : KeepAt C H kp L s) {a : Rc99.Ans} (e : Rc99.does s c = (s, a)) {H1 : Hp} (sm : Same H H1) {q : Addr} (nq : H1 q = none) {xs : List V} (ex : xs = (ansOf a).map V.int) :
    Q (.ref q) (upd H1 q (.lst xs)) := by
  refine D _ q (same_but (Same.trans sm (same_upd nq)) L) ?_ (sm.free nq) ?_
  · rw [e]
    exact KA.same (Same.trans sm (same_upd nq))
  · rw [upd_same, e, ex]
theorem Done.kept {C : Addr} {H : Hp} {kp L : Addr} {s s' : Rc99.Abs} {c : Rc99.Call} {Q : VK} (D : Done C H kp L s c Q) {a : Rc99.Ans} (e : Rc99.does s c = (s', a)) {H1 : Hp} (sb : SameBut L H H1) (KA : KeepAt C H1 kp L s') (hL : H L ≠ none) {q : Addr} (nq : H1 q = none) {xs : List V} (ex : xs = (ansOf a).map V.int) :
    Q (.ref q) (upd H1 q (.lst xs)) := by
  have nqL : q ≠ L := by
    intro z
    obtain ⟨cs, h2, _⟩ := KA.cs
    rw [z, h2] at nq
    cases nq
  refine D _ q (SameBut.trans sb (same_but (same_upd nq) L)) ?_ ?_ ?_
  · rw [e]
    exact KA.same (same_upd nq)
  · cases hq : H q with
    | none => rfl
    | some o =>
      rw [sb.1 q o hq nqL] at nq
      cases nq
  · rw [upd_same, e, ex]
theorem KeepAt.tracked {C : Addr} {H : Hp} {kp L : Addr} {s : Rc99.Abs} (K : KeepAt C H kp L s) : H L ≠ none := by
  obtain ⟨cs, h2, _⟩ := K.cs
  rw [h2]
  intro z
  cases z
theorem not_true {b : Bool} (h : (!b) = true) : b = false := by simpa using h
theorem not_not_true {b : Bool} (h : ¬ (!b) = true) : b = true := by simpa using h
theorem dec_not {p : Prop} [Decidable p] (h : ¬ decide p = true) : ¬ p := fun z => h (decide_eq_true z)
/-! ### promises -/
def spSetLine (C : Addr) : Sp := fun vs H Q _ => ∃ (kp L : Addr) (s : Rc99.Abs) (k b r : Int), vs = [.ref kp, .int k, .int b, .int r] ∧ KeepAt C H kp L s ∧ Done C H kp L s (.line k b r) Q
def spSetRate (C : Addr) : Sp := fun vs H Q _ => ∃ (kp L : Addr) (s : Rc99.Abs) (k r d : Int), vs = [.ref kp, .int k, .int r, .int d] ∧ KeepAt C H kp L s ∧ Done C H kp L s (.rate k r d) Q
def rowOk (l : List Nat) : Bool := decide (l.length = 32 ∧ Rc99.rising l = true ∧ (l.all fun x => decide (x ≤ Rc99.MOST)) = true)
def spIsRow (K : PySem.W.Frag) : Sp := fun vs H Q _ => ∃ (a : Addr) (l : List Nat), vs = [.ref a] ∧ SL K H a l ∧ l.length ≤ 32 ∧ Q (.bl (rowOk l)) H
def spSetRow (C : Addr) : Sp := fun vs H Q _ => ∃ (kp L : Addr) (s : Rc99.Abs) (k : Int) (a : Addr) (l : List Nat), vs = [.ref kp, .int k, .ref a] ∧ KeepAt C H kp L s ∧ H a = some (LL l) ∧ l.length ≤ 32 ∧ Done C H kp L s (.row k l (l.length : Nat)) Q
def spMake (C : Addr) : Sp := fun vs H Q _ => ∃ (kp L : Addr) (s : Rc99.Abs) (k what a b : Int) (tp : Addr), vs = [.ref kp, .int k, .int what, .ref tp] ∧ KeepAt C H kp L s ∧ H tp = some (.tup [.int a, .int b]) ∧ Done C H kp L s (.make k what a b) Q
def spValue (C : Addr) : Sp := fun vs H Q _ => ∃ (kp L : Addr) (s : Rc99.Abs) (k t : Int), vs = [.ref kp, .int k, .int t] ∧ KeepAt C H kp L s ∧ Done C H kp L s (.value k t) Q
def spLate (C : Addr) : Sp := fun vs H Q _ => ∃ (kp L : Addr) (s : Rc99.Abs) (a b : Int) (f g : List Nat), vs = [.ref kp, .int a, .int b] ∧ KeepAt C H kp L s ∧ Rc99.get s a = some f ∧ Rc99.get s b = some g ∧ Done C H kp L s (.late a b) Q
def cmpCall (n a b : Int) : Rc99.Call := if n = 6 then .less a b else if n = 7 then .most a b else .late a b
def spCompared (C : Addr) : Sp := fun vs H Q _ => ∃ (kp L : Addr) (s : Rc99.Abs) (n a b : Int), vs = [.ref kp, .int n, .int a, .int b] ∧ KeepAt C H kp L s ∧ Done C H kp L s (cmpCall n a b) Q
def spFits (C : Addr) : Sp := fun vs H Q _ => ∃ (kp L : Addr) (s : Rc99.Abs) (a : Int) (p : Addr) (l : List Nat), vs = [.ref kp, .int a, .ref p] ∧ KeepAt C H kp L s ∧ H p = some (LL l) ∧ l.length ≤ 32 ∧ Done C H kp L s (.fits a l (l.length : Nat)) Q
def spShape (C : Addr) : Sp := fun vs H Q _ => ∃ (kp L : Addr) (s : Rc99.Abs) (a : Int) (p : Addr) (l : List Nat) (m : Int), vs = [.ref kp, .int a, .ref p, .int m] ∧ KeepAt C H kp L s ∧ H p = some (LL l) ∧ l.length ≤ 32 ∧ Done C H kp L s (.shape a l (l.length : Nat) m) Q
/-! ### the plain part -/
theorem does_line {s : Rc99.Abs} {k b r : Int} (h1 : Rc99.below k 8 = true) (h2 : 0 ≤ b) (h3 : 0 ≤ r) (h4 : b + 32 * r ≤ 1000000) :
    Rc99.does s (.line k b r) = (Rc99.put s k (Rc99.tab fun t => if t = 0 then 0 else b.toNat + r.toNat * t), { value := 0 }) := if_pos ⟨h1, h2, h3, h4⟩
theorem does_line_no {s : Rc99.Abs} {k b r : Int} (h : ¬ (Rc99.below k 8 = true ∧ 0 ≤ b ∧ 0 ≤ r ∧ b + 32 * r ≤ 1000000)) : Rc99.does s (.line k b r) = (s, Rc99.refused) := if_neg h
theorem does_rate {s : Rc99.Abs} {k r d : Int} (h1 : Rc99.below k 8 = true) (h3 : 0 ≤ r) (h4 : 32 * r ≤ 1000000) (h5 : 0 ≤ d ∧ d ≤ 32) :
    Rc99.does s (.rate k r d) = (Rc99.put s k (Rc99.tab fun t => r.toNat * (t - d.toNat)), { value := 0 }) := if_pos ⟨h1, h3, h4, below_iff.mpr ⟨h5.1, by show d < ((32 + 1 : Nat) : Int); omega⟩⟩
theorem does_rate_no {s : Rc99.Abs} {k r d : Int} (h : ¬ (Rc99.below k 8 = true ∧ 0 ≤ r ∧ 32 * r ≤ 1000000 ∧ (0 ≤ d ∧ d ≤ 32))) : Rc99.does s (.rate k r d) = (s, Rc99.refused) := if_neg fun ⟨a, b, c, e⟩ => h ⟨a, b, c, by
  have q := below_iff.mp e
  have q2 : d < ((32 + 1 : Nat) : Int) := q.2
  exact ⟨q.1, by omega⟩⟩
theorem does_row {s : Rc99.Abs} {k : Int} {l : List Nat} (h1 : Rc99.below k 8 = true) (h2 : rowOk l = true) : Rc99.does s (.row k l (l.length : Nat)) = (Rc99.put s k (0 :: l), { value := 0 }) := by
  have h := of_decide_eq_true h2
  exact if_pos ⟨h1, by rw [h.1]; rfl, h.1, h.2.1, h.2.2⟩
theorem does_row_no {s : Rc99.Abs} {k : Int} {l : List Nat} (h : ¬ (Rc99.below k 8 = true ∧ rowOk l = true)) : Rc99.does s (.row k l (l.length : Nat)) = (s, Rc99.refused) := if_neg fun ⟨a, _, c, d, e⟩ => h ⟨a, decide_eq_true ⟨c, d, e⟩⟩
theorem row_bad_len {l : List Nat} (h : ¬ l.length = 32) : rowOk l = false := decide_eq_false fun z => h z.1
theorem row_bad_last {l : List Nat} (h1 : l.length = 32) (h : 1000000 < Rc99.val l 31) : rowOk l = false := decide_eq_false fun z => by
  have : Rc99.val l 31 ≤ 1000000 := of_decide_eq_true (List.all_eq_true.mp z.2.2 _ (mem_val (by omega)))
  omega
theorem row_bad_fall {l : List Nat} {i : Nat} (h1 : i + 1 < l.length) (h : Rc99.val l (i + 1) < Rc99.val l i) : rowOk l = false := decide_eq_false fun z => by
  rw [rising_false h1 h] at z
  exact Bool.false_ne_true z.2.1
theorem row_good {l : List Nat} (h1 : l.length = 32) (h2 : ¬ 1000000 < Rc99.val l 31) (h3 : ∀ i, i + 1 < 32 → Rc99.val l i ≤ Rc99.val l (i + 1)) : rowOk l = true := by
  have hr : Rc99.rising l = true := rising_true fun i hi => h3 i (by omega)
  refine decide_eq_true ⟨h1, hr, List.all_eq_true.mpr fun x hx => decide_eq_true ?_⟩
  obtain ⟨t, ht, e⟩ := val_mem hx
  have := rising_le hr t (31 - t) (by omega)
  rw [show t + (31 - t) = 31 by omega, e] at this
  show x ≤ 1000000
  omega
theorem made_some {what : Int} (h : 0 ≤ what ∧ what ≤ 5) (f g : List Nat) : ∃ r, Rc99.made what f g = some r := by
  have c : what = 0 ∨ what = 1 ∨ what = 2 ∨ what = 3 ∨ what = 4 ∨ what = 5 := by omega
  unfold Rc99.made
  rcases c with e | e | e | e | e | e <;> subst e
  · exact ⟨_, if_pos rfl⟩
  · rw [if_neg (by decide), if_pos rfl]; exact ⟨_, rfl⟩
  · rw [if_neg (by decide), if_neg (by decide), if_pos rfl]; exact ⟨_, rfl⟩
  · rw [if_neg (by decide), if_neg (by decide), if_neg (by decide), if_pos rfl]; exact ⟨_, rfl⟩
  · rw [if_neg (by decide), if_neg (by decide), if_neg (by decide), if_neg (by decide), if_pos rfl]; exact ⟨_, rfl⟩
  · rw [if_neg (by decide), if_neg (by decide), if_neg (by decide), if_neg (by decide), if_neg (by decide), if_pos rfl]; exact ⟨_, rfl⟩
theorem made_none {what : Int} (h : ¬ (0 ≤ what ∧ what ≤ 5)) (f g : List Nat) : Rc99.made what f g = none := by
  unfold Rc99.made
  rw [if_neg (by omega), if_neg (by omega), if_neg (by omega), if_neg (by omega), if_neg (by omega), if_neg (by omega)]
theorem does_make {s : Rc99.Abs} {k what a b : Int} {f g h : List Nat} (h1 : Rc99.below k 8 = true) (ha : Rc99.get s a = some f) (hb : Rc99.get s b = some g) (hm : Rc99.made what f g = some h) :
    Rc99.does s (.make k what a b) = if 1000000 < Rc99.greatest h then (s, { value := -2 }) else (Rc99.put s k h, { value := 0 }) := by
  show (if Rc99.below k Rc99.KEPT = false then _ else _) = _
  rw [if_neg (by rw [show Rc99.below k Rc99.KEPT = true from h1]; decide)]
  simp only [ha, hb, hm]
  rfl
theorem does_make_k {s : Rc99.Abs} {k what a b : Int} (h1 : Rc99.below k 8 = false) : Rc99.does s (.make k what a b) = (s, Rc99.refused) := if_pos h1
theorem does_make_a {s : Rc99.Abs} {k what a b : Int} (h1 : Rc99.below k 8 = true) (ha : Rc99.get s a = none) : Rc99.does s (.make k what a b) = (s, Rc99.refused) := by
  show (if Rc99.below k Rc99.KEPT = false then _ else _) = _
  rw [if_neg (by rw [show Rc99.below k Rc99.KEPT = true from h1]; decide)]
  simp only [ha]
theorem does_make_b {s : Rc99.Abs} {k what a b : Int} (h1 : Rc99.below k 8 = true) (hb : Rc99.get s b = none) : Rc99.does s (.make k what a b) = (s, Rc99.refused) := by
  show (if Rc99.below k Rc99.KEPT = false then _ else _) = _
  rw [if_neg (by rw [show Rc99.below k Rc99.KEPT = true from h1]; decide)]
  simp only [hb]
  cases Rc99.get s a <;> rfl
theorem does_make_w {s : Rc99.Abs} {k what a b : Int} {f g : List Nat} (h1 : Rc99.below k 8 = true) (ha : Rc99.get s a = some f) (hb : Rc99.get s b = some g) (hm : Rc99.made what f g = none) : Rc99.does s (.make k what a b) = (s, Rc99.refused) := by
  show (if Rc99.below k Rc99.KEPT = false then _ else _) = _
  rw [if_neg (by rw [show Rc99.below k Rc99.KEPT = true from h1]; decide)]
  simp only [ha, hb, hm]
theorem does_value {s : Rc99.Abs} {k t : Int} {f : List Nat} (hg : Rc99.get s k = some f) (ht : 0 ≤ t ∧ t ≤ 32) : Rc99.does s (.value k t) = (s, { value := ((Rc99.val f t.toNat : Nat) : Int) }) := by
  simp only [Rc99.does, hg]
  rw [if_pos (below_iff.mpr ⟨ht.1, by show t < ((32 + 1 : Nat) : Int); omega⟩)]
theorem does_value_k {s : Rc99.Abs} {k t : Int} (hg : Rc99.get s k = none) : Rc99.does s (.value k t) = (s, Rc99.refused) := by
  simp only [Rc99.does, hg]
theorem does_value_t {s : Rc99.Abs} {k t : Int} {f : List Nat} (hg : Rc99.get s k = some f) (ht : ¬ (0 ≤ t ∧ t ≤ 32)) : Rc99.does s (.value k t) = (s, Rc99.refused) := by
  simp only [Rc99.does, hg]
  rw [if_neg]
  intro z
  have q := below_iff.mp z
  have q2 : t < ((32 + 1 : Nat) : Int) := q.2
  omega
theorem does_cmp_no {s : Rc99.Abs} {n a b : Int} (h : Rc99.get s a = none ∨ Rc99.get s b = none) : Rc99.does s (cmpCall n a b) = (s, Rc99.refused) := by
  unfold cmpCall
  rcases h with h | h
  · split
    · simp only [Rc99.does, h]
    · split <;> simp only [Rc99.does, h]
  · split
    · simp only [Rc99.does, h]
      cases Rc99.get s a <;> rfl
    · split <;> simp only [Rc99.does, h] <;> cases Rc99.get s a <;> rfl
theorem does_less {s : Rc99.Abs} {a b : Int} {f g : List Nat} (ha : Rc99.get s a = some f) (hb : Rc99.get s b = some g) : Rc99.does s (.less a b) = (s, { value := Rc99.bit (Rc99.under f g) }) := by
  simp only [Rc99.does, ha, hb]
theorem does_most {s : Rc99.Abs} {a b : Int} {f g : List Nat} (ha : Rc99.get s a = some f) (hb : Rc99.get s b = some g) : Rc99.does s (.most a b) = (s, { value := ((Rc99.backlog f g : Nat) : Int) }) := by
  simp only [Rc99.does, ha, hb]
theorem does_late {s : Rc99.Abs} {a b : Int} {f g : List Nat} {d : Nat} (ha : Rc99.get s a = some f) (hb : Rc99.get s b = some g) (hl : Rc99.late f g = some d) : Rc99.does s (.late a b) = (s, { value := ((d : Nat) : Int) }) := by
  simp only [Rc99.does, ha, hb, hl]
theorem does_late_no {s : Rc99.Abs} {a b : Int} {f g : List Nat} (ha : Rc99.get s a = some f) (hb : Rc99.get s b = some g) (hl : Rc99.late f g = none) : Rc99.does s (.late a b) = (s, { value := -2 }) := by
  simp only [Rc99.does, ha, hb, hl]
theorem does_fits {s : Rc99.Abs} {a : Int} {l f : List Nat} (ha : Rc99.get s a = some f) (hl : Rc99.flow l (l.length : Nat) = true) : Rc99.does s (.fits a l (l.length : Nat)) = (s, { value := Rc99.bit (Rc99.within f l) }) := by
  simp only [Rc99.does, ha]
  exact if_pos hl
theorem does_fits_a {s : Rc99.Abs} {a : Int} {l : List Nat} (ha : Rc99.get s a = none) : Rc99.does s (.fits a l (l.length : Nat)) = (s, Rc99.refused) := by
  simp only [Rc99.does, ha]
theorem does_fits_l {s : Rc99.Abs} {a : Int} {l f : List Nat} (ha : Rc99.get s a = some f) (hl : Rc99.flow l (l.length : Nat) = false) : Rc99.does s (.fits a l (l.length : Nat)) = (s, Rc99.refused) := by
  simp only [Rc99.does, ha]
  exact if_neg (by rw [hl]; exact Bool.false_ne_true)
theorem does_shape {s : Rc99.Abs} {a m : Int} {l f : List Nat} (ha : Rc99.get s a = some f) (hl : Rc99.flow l (l.length : Nat) = true) : Rc99.does s (.shape a l (l.length : Nat) m) = (s, { value := ((l.length : Nat) : Int), numbers := (Rc99.shaped f l).take (Rc99.room_ m 32) }) := by
  simp only [Rc99.does, ha]
  exact if_pos hl
theorem does_shape_a {s : Rc99.Abs} {a m : Int} {l : List Nat} (ha : Rc99.get s a = none) : Rc99.does s (.shape a l (l.length : Nat) m) = (s, Rc99.refused) := by
  simp only [Rc99.does, ha]
theorem does_shape_l {s : Rc99.Abs} {a m : Int} {l f : List Nat} (ha : Rc99.get s a = some f) (hl : Rc99.flow l (l.length : Nat) = false) : Rc99.does s (.shape a l (l.length : Nat) m) = (s, Rc99.refused) := by
  simp only [Rc99.does, ha]
  exact if_neg (by rw [hl]; exact Bool.false_ne_true)
end Qc
set_option Elab.async false
set_option linter.all false
set_option maxRecDepth 100000
set_option maxHeartbeats 1000000
namespace Qc
open PySem PySem.Spec PyProof.Rows L2
section
variable {P : Program} {w : World} {K : PySem.W.Frag} {mg : Str → Option Value} {base : Heap} {C : Addr}
theorem scSetLine : FnScope ["keeper", "k", "b", "r"] ["keeper", "k", "b", "r"] (defScope sSetLine) := ⟨rfl, rfl, rfl, by decide +kernel, rfl, by decide +kernel, by decide +kernel⟩
theorem ok_set_line (T : KCls K mg C) (N : Cst mg) (F : Fd K mg "set_line" sSetLine) (DI : Df P w K mg base 1 "is_curve" ["k"] spIsCurve) (DL : Df P w K mg base 1 "line" ["b", "r"] spLine) (DK : Dm P w K mg base C 1 "keep" ["self", "k", "curve"] (spKKeep C)) :
    Df P w K mg base 2 "set_line" ["keeper", "k", "b", "r"] (spSetLine C) := by
  refine Df.of F scSetLine (fun _ _ _ _ _ _ us hl => match us, hl with | [_, _, _, _], _ => rfl) (fun vs H Q E ⟨_, _, _, _, _, _, h, _⟩ => by rw [h]; rfl) (fun f cdv A outer s H vs Q E hr h => ?_)
  obtain ⟨kp, L, st, k, b, r, rfl, KA, dn⟩ := h
  obtain ⟨dx, h1⟩ := KA.ins
  refine ⟨_, pss_cons (ps_if (PW.pt (pw_or (pt_not (pt_val (pe_df DI hr (pa_cons (pv 1) pa_nil)))) (pw_or (pt_cmpR op_lt (pv 2) pe_int (nomark _)) (pw_or (pt_cmpR op_lt (pv 3) pe_int (nomark _))
      (pw_or1 (pt_cmpR op_gt (pe_op op_add (pv 2) (pe_op op_mul (pe_k N.LAST) (pv 3))) (pe_k N.MOST) (nomark _))))))) (pss_one (ps_ret (pe_lst (pa_cons (pe_k N.OUT) pa_nil)))) pss_nil)
    (pss_cons (ps_expr (pe_dm (pv 0) T.cl DK hr (pa_cons (pv 1) (pa_cons (pe_df DL hr (pa_cons (pv 2) (pa_cons (pv 3) pa_nil))) pa_nil))))
    (pss_one (ps_ret (pe_lst (pa_cons pe_int pa_nil))))), ?_⟩
  refine ⟨_, rfl, k, rfl, _, rfl, ite2 (fun e1 => ⟨small_le (by decide), fun q hq => ?_⟩) (fun e1 => ⟨_, rfl, _, _, rfl, rfl, _, rfl, ite2 (fun e2 => ⟨small_le (by decide), fun q hq => ?_⟩) (fun e2 => ⟨_, rfl, _, _, rfl, rfl, _, rfl, ite2 (fun e3 => ⟨small_le (by decide), fun q hq => ?_⟩)
    (fun e3 => ⟨_, rfl, _, rfl, _, _, rfl, rfl, .inl ⟨by decide, by decide⟩, _, _, rfl, rfl, _, _, rfl, rfl, _, rfl, ite2 (fun e4 => ⟨small_le (by decide), fun q hq => ?_⟩) (fun e4 => ?_)⟩)⟩)⟩)⟩
  · exact dn.stay KA (does_line_no fun z => by rw [not_true e1] at z; exact Bool.false_ne_true z.1) (Same.refl _) hq rfl
  · have e2 := of_decide_eq_true e2
    exact dn.stay KA (does_line_no fun z => by omega) (Same.refl _) hq rfl
  · have e3 := of_decide_eq_true e3
    exact dn.stay KA (does_line_no fun z => by omega) (Same.refl _) hq rfl
  · have e4 := of_decide_eq_true e4
    exact dn.stay KA (does_line_no fun z => by omega) (Same.refl _) hq rfl
  · have e1 := not_not_true e1
    have e2 := dec_not e2
    have e3 := dec_not e3
    have e4 : ¬ (1000000 : Int) < b + 32 * r := dec_not e4
    refine ⟨_, rfl, kp, dx, _, rfl, h1, lk_none (by decide +kernel), _, rfl, _, rfl, _, rfl, b.toNat, r.toNat, ?_, by omega, fun H1 p s1 n1 e5 => ?_⟩
    · rw [Int.toNat_of_nonneg (by omega), Int.toNat_of_nonneg (by omega)]
      rfl
    · refine ⟨kp, L, st, k, p, _, rfl, KA.same s1, e1, e5, curve_line _ _, fun H2 K2 s2 => ⟨small_le (by decide), fun q hq => ?_⟩⟩
      exact dn.kept (does_line e1 (by omega) (by omega) (by omega)) (keep_but s1 n1 s2) K2 KA.tracked hq rfl
theorem scSetRate : FnScope ["keeper", "k", "r", "d"] ["keeper", "k", "r", "d"] (defScope sSetRate) := ⟨rfl, rfl, rfl, by decide +kernel, rfl, by decide +kernel, by decide +kernel⟩
theorem ok_set_rate (T : KCls K mg C) (N : Cst mg) (F : Fd K mg "set_rate" sSetRate) (DI : Df P w K mg base 1 "is_curve" ["k"] spIsCurve) (DR : Df P w K mg base 2 "rate" ["r", "d"] spRate) (DK : Dm P w K mg base C 1 "keep" ["self", "k", "curve"] (spKKeep C)) :
    Df P w K mg base 3 "set_rate" ["keeper", "k", "r", "d"] (spSetRate C) := by
  refine Df.of F scSetRate (fun _ _ _ _ _ _ us hl => match us, hl with | [_, _, _, _], _ => rfl) (fun vs H Q E ⟨_, _, _, _, _, _, h, _⟩ => by rw [h]; rfl) (fun f cdv A outer s H vs Q E hr h => ?_)
  obtain ⟨kp, L, st, k, r, d, rfl, KA, dn⟩ := h
  obtain ⟨dx, h1⟩ := KA.ins
  have hr1 : Room 1 _ := hr.mono (by decide)
  refine ⟨_, pss_cons (ps_if (PW.pt (pw_or (pt_not (pt_val (pe_df DI hr1 (pa_cons (pv 1) pa_nil)))) (pw_or (pt_cmpR op_lt (pv 2) pe_int (nomark _)) (pw_or (pt_cmpR op_gt (pe_op op_mul (pe_k N.LAST) (pv 2)) (pe_k N.MOST) (nomark _))
      (pw_or1 (pt_not (pt_chain op_le op_le pe_int (pv 3) (pe_k N.LAST)))))))) (pss_one (ps_ret (pe_lst (pa_cons (pe_k N.OUT) pa_nil)))) pss_nil)
    (pss_cons (ps_expr (pe_dm (pv 0) T.cl DK hr1 (pa_cons (pv 1) (pa_cons (pe_df DR hr (pa_cons (pv 2) (pa_cons (pv 3) pa_nil))) pa_nil))))
    (pss_one (ps_ret (pe_lst (pa_cons pe_int pa_nil))))), ?_⟩
  refine ⟨_, rfl, k, rfl, _, rfl, ite2 (fun e1 => ⟨small_le (by decide), fun q hq => ?_⟩) (fun e1 => ⟨_, rfl, _, _, rfl, rfl, _, rfl, ite2 (fun e2 => ⟨small_le (by decide), fun q hq => ?_⟩) (fun e2 => ⟨_, rfl, _, _, rfl, rfl, .inl ⟨by decide, by decide⟩, _, _, rfl, rfl, _, rfl, ite2 (fun e3 => ⟨small_le (by decide), fun q hq => ?_⟩)
    (fun e3 => ⟨_, rfl, _, _, rfl, rfl, _, rfl, ite2 (fun e4 => ⟨_, _, rfl, rfl, _, rfl, ite2 (fun e5 => ⟨small_le (by decide), fun q hq => ?_⟩) (fun e5 => ?_)⟩) (fun e4 => ⟨_, rfl, small_le (by decide), fun q hq => ?_⟩)⟩)⟩)⟩)⟩
  · exact dn.stay KA (does_rate_no fun z => by rw [not_true e1] at z; exact Bool.false_ne_true z.1) (Same.refl _) hq rfl
  · have e2 := of_decide_eq_true e2
    exact dn.stay KA (does_rate_no fun z => by omega) (Same.refl _) hq rfl
  · have e3 := of_decide_eq_true e3
    exact dn.stay KA (does_rate_no fun z => by omega) (Same.refl _) hq rfl
  · have e5 := of_decide_eq_false (not_true e5)
    exact dn.stay KA (does_rate_no fun z => by omega) (Same.refl _) hq rfl
  · have e1 := not_not_true e1
    have e2 := dec_not e2
    have e3 : ¬ (1000000 : Int) < 32 * r := dec_not e3
    have e4 := of_decide_eq_true e4
    have e5 := of_decide_eq_true (not_not_true e5)
    refine ⟨_, rfl, kp, dx, _, rfl, h1, lk_none (by decide +kernel), _, rfl, _, rfl, _, rfl, r.toNat, d.toNat, ?_, by omega, fun H1 p s1 n1 e6 => ?_⟩
    · rw [Int.toNat_of_nonneg (by omega), Int.toNat_of_nonneg (by omega)]
      rfl
    · refine ⟨kp, L, st, k, p, _, rfl, KA.same s1, e1, e6, curve_rate _ _, fun H2 K2 s2 => ⟨small_le (by decide), fun q hq => ?_⟩⟩
      exact dn.kept (does_rate e1 (by omega) (by omega) (by omega)) (keep_but s1 n1 s2) K2 KA.tracked hq rfl
  · have e4 := dec_not e4
    exact dn.stay KA (does_rate_no fun z => by omega) (Same.refl _) hq rfl
theorem scIsRow : FnScope ["row", "at"] ["row"] (defScope sIsRow) := ⟨rfl, rfl, rfl, by decide +kernel, rfl, by decide +kernel, by decide +kernel⟩
theorem ok_is_row (N : Cst mg) (F : Fd K mg "is_row" sIsRow) : Df P w K mg base 1 "is_row" ["row"] (spIsRow K) := by
  refine Df.of F scIsRow (fun _ _ _ _ _ _ us hl => match us, hl with | [_], _ => rfl) (fun vs H Q E ⟨_, _, h, _⟩ => by rw [h]; rfl) (fun f cdv A outer s H vs Q E hr h => ?_)
  obtain ⟨a, l, rfl, ha, hl, q⟩ := h
  refine ⟨_, pss_cons (ps_if (PW.pt (pw_or (pt_cmpR op_ne (pe_callB call_len_seq (by rfl) N.len PySem.boot_len (pa_cons (pv 0) pa_nil)) (pe_k N.LAST) (nomark _)) (pw_or1 (pt_cmpR op_gt (pe_at K (pv 0) (pe_un un_neg pe_int)) (pe_k N.MOST) (nomark _))))) (pss_one (ps_ret pe_bl)) pss_nil)
    (pss_cons (ps_for PassesOwn.never rfl (pi_range2 (by rfl) N.range (pa_cons pe_int (pa_cons (pe_callB call_len_seq (by rfl) N.len PySem.boot_len (pa_cons (pv 0) pa_nil)) pa_nil))) (pg_name (i := 1) scIsRow.nd rfl (Or.inl rfl))
      (pss_one (ps_if (pt_cmpR op_lt (pe_at K (pv 0) (pv 1)) (pe_at K (pv 0) (pe_op op_sub (pv 1) pe_int)) (nomark _)) (pss_one (ps_ret pe_bl)) pss_nil)))
    (pss_one (ps_ret pe_bl))), ?_⟩
  have eL := ll_length l
  refine ⟨_, rfl, a, _, rfl, .inl ha, rfl, _, rfl, ite2 (fun e1 => ?_) (fun e1 => ?_)⟩
  · have e1 : ¬ l.length = 32 := fun z => by
      have e1 := of_decide_eq_false (not_true e1)
      apply e1
      rw [eL, z]
      rfl
    rw [row_bad_len e1] at q
    exact q
  · have e1 : l.length = 32 := by
      have e1 := V.int.inj (of_decide_eq_true (not_not_true e1))
      rw [eL] at e1
      omega
    have at31 : atI ((iv l).map V.int) (-1) = some (.int ((Rc99.val l 31 : Nat) : Int)) := by
      unfold atI ixN
      rw [if_neg (by decide), eL, e1]
      show ((iv l).map V.int)[31]? = _
      exact iv_getV (by omega)
    refine ⟨_, rfl, _, rfl, a, _, _, _, rfl, rfl, ha, at31, _, _, rfl, rfl, _, rfl, ite2 (fun e2 => ?_) (fun e2 => ?_)⟩
    · have e2 := of_decide_eq_true e2
      rw [row_bad_last e1 (by omega)] at q
      exact q
    · have e2 : ¬ (1000000 : Int) < ((Rc99.val l 31 : Nat) : Int) := dec_not e2
      refine ⟨_, rfl, a, _, rfl, .inl ha, _, _, rfl, ⟨by decide, by decide, by rw [eL, e1]; decide, by rw [eL, e1]; decide⟩, ?_⟩
      rw [eL, e1]
      refine for_range (lo := 1) (n := 31) (fun i σ H' => ∃ v1 : Option V, σ = [some (.ref a), v1] ∧ H' = H ∧ ∀ j, j < i → Rc99.val l j ≤ Rc99.val l (j + 1)) ⟨none, rfl, rfl, fun j hj => absurd hj (Nat.not_lt_zero j)⟩ ?_ ?_
      · rintro i σ H1 hi ⟨v1, rfl, rfl, z⟩
        refine ⟨_, rfl, _, rfl, a, _, _, _, rfl, rfl, ha, at_iv (k := i + 1) (by omega) (by omega), _, rfl, _, rfl, _, _, rfl, rfl, a, _, _, _, rfl, rfl, ha, at_iv (k := i) (by omega) (by omega), _, _, rfl, rfl, _, rfl, ite2 (fun e3 => ?_) (fun e3 => ?_)⟩
        · have e3 := of_decide_eq_true e3
          rw [row_bad_fall (i := i) (by omega) (by omega)] at q
          exact q
        · have e3 : ¬ ((Rc99.val l (i + 1) : Nat) : Int) < ((Rc99.val l i : Nat) : Int) := dec_not e3
          refine ⟨_, rfl, rfl, fun j hj => ?_⟩
          by_cases h : j = i
          · subst h
            omega
          · exact z j (by omega)
      · rintro σ H1 ⟨v1, rfl, rfl, z⟩
        rw [row_good e1 (by omega) fun i hi => z i (by omega)] at q
        exact q
theorem scSetRow : FnScope ["keeper", "k", "row"] ["keeper", "k", "row"] (defScope sSetRow) := ⟨rfl, rfl, rfl, by decide +kernel, rfl, by decide +kernel, by decide +kernel⟩
theorem ok_set_row (T : KCls K mg C) (N : Cst mg) (F : Fd K mg "set_row" sSetRow) (DI : Df P w K mg base 1 "is_curve" ["k"] spIsCurve) (DR : Df P w K mg base 1 "is_row" ["row"] (spIsRow K)) (DK : Dm P w K mg base C 1 "keep" ["self", "k", "curve"] (spKKeep C)) :
    Df P w K mg base 2 "set_row" ["keeper", "k", "row"] (spSetRow C) := by
  refine Df.of F scSetRow (fun _ _ _ _ _ _ us hl => match us, hl with | [_, _, _], _ => rfl) (fun vs H Q E ⟨_, _, _, _, _, _, h, _⟩ => by rw [h]; rfl) (fun f cdv A outer s H vs Q E hr h => ?_)
  obtain ⟨kp, L, st, k, a, l, rfl, KA, ha, hl, dn⟩ := h
  obtain ⟨dx, h1⟩ := KA.ins
  refine ⟨_, pss_cons (ps_if (PW.pt (pw_or (pt_not (pt_val (pe_df DI hr (pa_cons (pv 1) pa_nil)))) (pw_or1 (pt_not (pt_val (pe_df DR hr (pa_cons (pv 2) pa_nil))))))) (pss_one (ps_ret (pe_lst (pa_cons (pe_k N.OUT) pa_nil)))) pss_nil)
    (pss_cons (ps_expr (pe_dm (pv 0) T.cl DK hr (pa_cons (pv 1) (pa_cons (pe_op op_cat (pe_lst (pa_cons pe_int pa_nil)) (pv 2)) pa_nil))))
    (pss_one (ps_ret (pe_lst (pa_cons pe_int pa_nil))))), ?_⟩
  refine ⟨_, rfl, k, rfl, _, rfl, ite2 (fun e1 => ⟨small_le (by decide), fun q hq => ?_⟩) (fun e1 => ⟨_, rfl, a, l, rfl, SqL.of ha, hl, _, rfl, ite2 (fun e2 => ⟨small_le (by decide), fun q hq => ?_⟩) (fun e2 => ?_)⟩)⟩
  · exact dn.stay KA (does_row_no fun z => by rw [not_true e1] at z; exact Bool.false_ne_true z.1) (Same.refl _) hq rfl
  · exact dn.stay KA (does_row_no fun z => by rw [not_true e2] at z; exact Bool.false_ne_true z.2) (Same.refl _) hq rfl
  · have e1 := not_not_true e1
    have e2 := not_not_true e2
    have hR := of_decide_eq_true e2
    refine ⟨_, rfl, kp, dx, _, rfl, h1, lk_none (by decide +kernel), _, rfl, small_le (by decide), fun p hp => ⟨_, rfl, p, a, _, _, rfl, rfl, upd_same, (same_upd hp) _ _ ha, ?_, fun q hq => ?_⟩⟩
    · rw [ll_length]
      exact small_le (by show 1 + l.length ≤ 1000; omega)
    · have s2 := Same.trans (same_upd (o := .lst [.int 0]) hp) (same_upd (o := .lst ([.int 0] ++ (iv l).map V.int)) hq)
      refine ⟨kp, L, st, k, q, 0 :: l, rfl, KA.same s2, e1, upd_same, curve_row hR.1 hR.2.1, fun H2 K2 s3 => ⟨small_le (by decide), fun q2 hq2 => ?_⟩⟩
      exact dn.kept (does_row e1 e2) (keep_but s2 ((same_upd hp).free hq) s3) K2 KA.tracked hq2 rfl
theorem scMake : FnScope ["keeper", "k", "what", "both", "a", "b"] ["keeper", "k", "what", "both"] (defScope sMake) := ⟨rfl, rfl, rfl, by decide +kernel, rfl, by decide +kernel, by decide +kernel⟩
theorem ok_make (T : KCls K mg C) (N : Cst mg) (F : Fd K mg "make" sMake) (DI : Df P w K mg base 1 "is_curve" ["k"] spIsCurve) (DM : Dm P w K mg base C 4 "make" ["self", "k", "what", "a", "b"] (spKMake C)) :
    Df P w K mg base 5 "make" ["keeper", "k", "what", "both"] (spMake C) := by
  refine Df.of F scMake (fun _ _ _ _ _ _ us hl => match us, hl with | [_, _, _, _], _ => rfl) (fun vs H Q E ⟨_, _, _, _, _, _, _, _, h, _⟩ => by rw [h]; rfl) (fun f cdv A outer s H vs Q E hr h => ?_)
  obtain ⟨kp, L, st, k, what, a, b, tp, rfl, KA, hT, dn⟩ := h
  obtain ⟨dx, h1⟩ := KA.ins
  have hr1 : Room 1 _ := hr.mono (by decide)
  refine ⟨_, pss_cons (ps_asg (pv 3) (pg_tup rfl (pgs_cons (pg_name (i := 4) scMake.nd rfl (.inl rfl)) (pgs_cons (pg_name (i := 5) scMake.nd rfl (.inl rfl)) pgs_nil))))
    (pss_cons (ps_if (PW.pt (pw_or (pt_not (pt_val (pe_df DI hr1 (pa_cons (pv 1) pa_nil)))) (pw_or (pt_not (pt_val (pe_df DI hr1 (pa_cons (pv 4) pa_nil)))) (pw_or (pt_not (pt_val (pe_df DI hr1 (pa_cons (pv 5) pa_nil))))
      (pw_or1 (pt_not (pt_chain op_le op_le pe_int (pv 2) (pe_k N.CLOSING)))))))) (pss_one (ps_ret (pe_lst (pa_cons (pe_k N.OUT) pa_nil)))) pss_nil)
    (pss_cons (ps_if (pt_not (pt_val (pe_dm (pv 0) T.cl DM hr (pa_cons (pv 1) (pa_cons (pv 2) (pa_cons (pv 4) (pa_cons (pv 5) pa_nil))))))) (pss_one (ps_ret (pe_lst (pa_cons (pe_k N.CANNOT) pa_nil)))) pss_nil)
    (pss_one (ps_ret (pe_lst (pa_cons pe_int pa_nil)))))), ?_⟩
  refine ⟨_, rfl, tp, _, rfl, SqT.of hT, rfl, _, _, rfl, _, _, rfl, rfl, ?_⟩
  refine ⟨_, rfl, k, rfl, _, rfl, ite2 (fun e1 => ⟨small_le (by decide), fun q hq => ?_⟩) (fun e1 => ⟨_, rfl, a, rfl, _, rfl, ite2 (fun e2 => ⟨small_le (by decide), fun q hq => ?_⟩) (fun e2 => ⟨_, rfl, b, rfl, _, rfl, ite2 (fun e3 => ⟨small_le (by decide), fun q hq => ?_⟩)
    (fun e3 => ⟨_, rfl, _, _, rfl, rfl, _, rfl, ite2 (fun e4 => ⟨_, _, rfl, rfl, _, rfl, ite2 (fun e5 => ⟨small_le (by decide), fun q hq => ?_⟩) (fun e5 => ?_)⟩) (fun e4 => ⟨_, rfl, small_le (by decide), fun q hq => ?_⟩)⟩)⟩)⟩)⟩
  · exact dn.stay KA (does_make_k (not_true e1)) (Same.refl _) hq rfl
  · exact dn.stay KA (does_make_a (not_not_true e1) (get_none (not_true e2))) (Same.refl _) hq rfl
  · exact dn.stay KA (does_make_b (not_not_true e1) (get_none (not_true e3))) (Same.refl _) hq rfl
  · have e5 := of_decide_eq_false (not_true e5)
    obtain ⟨f, hf⟩ := get_some KA (not_not_true e2)
    obtain ⟨g, hg⟩ := get_some KA (not_not_true e3)
    exact dn.stay KA (does_make_w (not_not_true e1) hf hg (made_none (by omega) f g)) (Same.refl _) hq rfl
  · have e1 := not_not_true e1
    have e4 := of_decide_eq_true e4
    have e5 := of_decide_eq_true (not_not_true e5)
    obtain ⟨f, hf⟩ := get_some KA (not_not_true e2)
    obtain ⟨g, hg⟩ := get_some KA (not_not_true e3)
    obtain ⟨h, hm⟩ := made_some ⟨e4, e5⟩ f g
    have dm := does_make e1 hf hg hm
    refine ⟨_, rfl, kp, dx, _, rfl, h1, lk_none (by decide +kernel), _, rfl, _, rfl, _, rfl, _, rfl, kp, L, st, k, what, a, b, f, g, h, rfl, KA, e1, hf, hg, hm, fun big H1 s1 => ?_, fun big H1 K1 s1 => ?_⟩
    · rw [if_pos big] at dm
      exact ⟨_, rfl, small_le (by decide), fun q hq => dn.stay KA dm s1 hq rfl⟩
    · rw [if_neg big] at dm
      exact ⟨_, rfl, small_le (by decide), fun q hq => dn.kept dm s1 K1 KA.tracked hq rfl⟩
  · have e4 := dec_not e4
    obtain ⟨f, hf⟩ := get_some KA (not_not_true e2)
    obtain ⟨g, hg⟩ := get_some KA (not_not_true e3)
    exact dn.stay KA (does_make_w (not_not_true e1) hf hg (made_none (by omega) f g)) (Same.refl _) hq rfl
end
end Qc
set_option Elab.async false
set_option linter.all false
set_option maxRecDepth 100000
set_option maxHeartbeats 1000000
namespace Qc
open PySem PySem.Spec PyProof.Rows L2
abbrev sAnswer : Stmt := top 54
abbrev sListAt : Stmt := top 55
abbrev sSizeOf : Stmt := top 56
theorem eqT {i j : Int} {A B : Prop} (e : i = j) (h : A) : if decide (V.int i = V.int j) = true then A else B := by
  rw [if_pos (decide_eq_true (congrArg V.int e))]
  exact h
theorem eqF {i j : Int} {A B : Prop} (e : ¬ i = j) (h : B) : if decide (V.int i = V.int j) = true then A else B := by
  rw [if_neg (fun z => e (V.int.inj (of_decide_eq_true z)))]
  exact h
/-- a call but begin: its number, its numbers, its list -/
inductive CallIs : Int → List Int → List Nat → Rc99.Call → Prop
  | line (k b r : Int) (l : List Nat) : CallIs 1 [k, b, r] l (.line k b r)
  | rate (k r d : Int) (l : List Nat) : CallIs 2 [k, r, d] l (.rate k r d)
  | row (k : Int) (l : List Nat) : CallIs 3 [k] l (.row k l (l.length : Nat))
  | make (k what a b : Int) (l : List Nat) : CallIs 4 [k, what, a, b] l (.make k what a b)
  | value (k t : Int) (l : List Nat) : CallIs 5 [k, t] l (.value k t)
  | less (a b : Int) (l : List Nat) : CallIs 6 [a, b] l (.less a b)
  | most (a b : Int) (l : List Nat) : CallIs 7 [a, b] l (.most a b)
  | late (a b : Int) (l : List Nat) : CallIs 8 [a, b] l (.late a b)
  | fits (a : Int) (l : List Nat) : CallIs 9 [a] l (.fits a l (l.length : Nat))
  | shape (a m : Int) (l : List Nat) : CallIs 10 [a, m] l (.shape a l (l.length : Nat) m)
def spAnswer (C : Addr) : Sp := fun vs H Q _ => ∃ (kp L : Addr) (s : Rc99.Abs) (n : Int) (xs : List Int) (ag ar : Addr) (l : List Nat) (c : Rc99.Call), vs = [.ref kp, .int n, .ref ag, .ref ar] ∧ KeepAt C H kp L s ∧ H ag = some (.lst (xs.map V.int)) ∧ H ar = some (LL l) ∧ l.length ≤ 32 ∧ CallIs n xs l c ∧ Done C H kp L s c Q
/-- a call that has a list -/
def wl (n : Int) : Bool := n == 3 || (n == 9 || n == 10)
def spListAt (K : PySem.W.Frag) : Sp := fun vs H Q _ => ∃ (ac : Addr) (ns : List Int) (n : Int) (i : Nat), vs = [.ref ac, .int n, .int (i : Int)] ∧ SqL K H ac (ns.map V.int) ∧
  (wl n = false → ∀ (H' : Hp) (p : Addr), Same H H' → H p = none → H' p = some (.lst []) → Q (.ref p) H') ∧
  (wl n = true → ∃ m : Nat, ns[i]? = some (m : Int) ∧ i + 1 + m ≤ ns.length ∧ ∀ (H' : Hp) (p : Addr), Same H H' → H p = none → H' p = some (.lst (((ns.drop (i + 1)).take m).map V.int)) → Q (.ref p) H')
def spSizeOf (K : PySem.W.Frag) : Sp := fun vs H Q _ => ∃ (ac : Addr) (ns : List Int) (n : Int) (i : Nat), vs = [.ref ac, .int n, .int (i : Int)] ∧ SqL K H ac (ns.map V.int) ∧
  (wl n = false → Q (.int 0) H) ∧ (wl n = true → ∃ m : Int, ns[i]? = some m ∧ Q (.int (1 + m)) H)
theorem wl_in (n : Int) : inV (.int n) [.int 3, .int 9, .int 10] = wl n := by
  show ((3 : Int) == n || ((9 : Int) == n || ((10 : Int) == n || false))) = (n == 3 || (n == 9 || n == 10))
  have e : ∀ z : Int, (z == n) = (n == z) := fun z => by
    by_cases h : z = n
    · subst h
      rfl
    · rw [beq_eq_false_iff_ne.mpr h, beq_eq_false_iff_ne.mpr fun q => h q.symm]
  rw [e, e, e, Bool.or_false]
/-- the slice of a list of whole numbers -/
theorem cut_mid (ns : List Int) (i m : Nat) (h : i + m ≤ ns.length) {lo hi : Int} (e1 : lo = (i : Int)) (e2 : hi = ((i + m : Nat) : Int)) : cutV (ns.map V.int) (some lo) (some hi) = ((ns.drop i).take m).map V.int := by
  subst e1 e2
  unfold cutV
  rw [HT.sIx_nat, HT.sIx_nat, List.length_map, Nat.min_eq_left (show i ≤ ns.length by omega), Nat.min_eq_left h, show i + m - i = m by omega, ← List.map_drop, ← List.map_take]
theorem cut_to (l : List Nat) {m : Int} (h : 0 ≤ m) : cutV ((iv l).map V.int) none (some m) = (iv (l.take m.toNat)).map V.int := by
  unfold cutV
  rw [HT.sIx_none, show (some m) = some ((m.toNat : Nat) : Int) by rw [Int.toNat_of_nonneg h], HT.sIx_nat, ll_length, Nat.sub_zero, List.drop_zero, ← List.map_take, ← iv_take]
  by_cases z : m.toNat ≤ l.length
  · rw [Nat.min_eq_left z]
  · rw [Nat.min_eq_right (Nat.le_of_lt (Nat.lt_of_not_le z)), List.take_of_length_le (Nat.le_refl _), List.take_of_length_le (by omega)]
section
variable {P : Program} {w : World} {K : PySem.W.Frag} {mg : Str → Option Value} {base : Heap} {C : Addr}
theorem scValue : FnScope ["keeper", "k", "t"] ["keeper", "k", "t"] (defScope sValue) := ⟨rfl, rfl, rfl, by decide +kernel, rfl, by decide +kernel, by decide +kernel⟩
theorem ok_value (T : KCls K mg C) (N : Cst mg) (F : Fd K mg "value" sValue) (DI : Df P w K mg base 1 "is_curve" ["k"] spIsCurve) (DC : Dm P w K mg base C 1 "curve" ["self", "k"] (spKCurve C)) : Df P w K mg base 2 "value" ["keeper", "k", "t"] (spValue C) := by
  refine Df.of F scValue (fun _ _ _ _ _ _ us hl => match us, hl with | [_, _, _], _ => rfl) (fun vs H Q E ⟨_, _, _, _, _, h, _⟩ => by rw [h]; rfl) (fun f cdv A outer s H vs Q E hr h => ?_)
  obtain ⟨kp, L, st, k, t, rfl, KA, dn⟩ := h
  obtain ⟨dx, h1⟩ := KA.ins
  refine ⟨_, pss_cons (ps_if (PW.pt (pw_or (pt_not (pt_val (pe_df DI hr (pa_cons (pv 1) pa_nil)))) (pw_or1 (pt_not (pt_chain op_le op_le pe_int (pv 2) (pe_k N.LAST)))))) (pss_one (ps_ret (pe_lst (pa_cons (pe_k N.OUT) pa_nil)))) pss_nil)
    (pss_one (ps_ret (pe_lst (pa_cons (pe_at K (pe_dm (pv 0) T.cl DC hr (pa_cons (pv 1) pa_nil)) (pv 2)) pa_nil)))), ?_⟩
  refine ⟨_, rfl, k, rfl, _, rfl, ite2 (fun e1 => ⟨small_le (by decide), fun q hq => ?_⟩) (fun e1 => ⟨_, rfl, _, _, rfl, rfl, _, rfl, ite2 (fun e4 => ⟨_, _, rfl, rfl, _, rfl, ite2 (fun e5 => ⟨small_le (by decide), fun q hq => ?_⟩) (fun e5 => ?_)⟩) (fun e4 => ⟨_, rfl, small_le (by decide), fun q hq => ?_⟩)⟩)⟩
  · exact dn.stay KA (does_value_k (get_none (not_true e1))) (Same.refl _) hq rfl
  · have e5 := of_decide_eq_false (not_true e5)
    obtain ⟨f, hf⟩ := get_some KA (not_not_true e1)
    exact dn.stay KA (does_value_t hf (by omega)) (Same.refl _) hq rfl
  · have e4 := of_decide_eq_true e4
    have e5 := of_decide_eq_true (not_not_true e5)
    obtain ⟨f, hf⟩ := get_some KA (not_not_true e1)
    have cf : Curve f := (KA.at_ hf).elim fun _ z => z.elim fun _ z => z.2.2.2
    refine ⟨_, rfl, kp, dx, _, rfl, h1, lk_none (by decide +kernel), _, rfl, kp, L, st, k, f, rfl, KA, hf, fun c hc => ⟨_, rfl, c, _, _, _, rfl, rfl, SqL.of hc, at_iv (k := t.toNat) (by omega) (by rw [cf.long]; omega), small_le (by show 1 ≤ 1000; decide), fun q hq => ?_⟩⟩
    exact dn.stay KA (does_value hf ⟨e4, e5⟩) (Same.refl _) hq rfl
  · have e4 := dec_not e4
    obtain ⟨f, hf⟩ := get_some KA (not_not_true e1)
    exact dn.stay KA (does_value_t hf (by omega)) (Same.refl _) hq rfl
theorem scLate : FnScope ["keeper", "a", "b", "found"] ["keeper", "a", "b"] (defScope sLate) := ⟨rfl, rfl, rfl, by decide +kernel, rfl, by decide +kernel, by decide +kernel⟩
theorem ok_late (T : KCls K mg C) (N : Cst mg) (F : Fd K mg "late" sLate) (DL : Dm P w K mg base C 3 "late" ["self", "a", "b"] (spKTwo C fun f g => optV (Rc99.late f g))) : Df P w K mg base 4 "late" ["keeper", "a", "b"] (spLate C) := by
  refine Df.of F scLate (fun _ _ _ _ _ _ us hl => match us, hl with | [_, _, _], _ => rfl) (fun vs H Q E ⟨_, _, _, _, _, _, _, h, _⟩ => by rw [h]; rfl) (fun f cdv A outer s H vs Q E hr h => ?_)
  obtain ⟨kp, L, st, a, b, f, g, rfl, KA, hf, hg, dn⟩ := h
  obtain ⟨dx, h1⟩ := KA.ins
  refine ⟨_, pss_cons (ps_set (i := 3) scLate.nd rfl (Or.inl rfl) (pe_dm (pv 0) T.cl DL hr (pa_cons (pv 1) (pa_cons (pv 2) pa_nil))))
    (pss_cons (ps_if (pt_cmpR op_isN (pv 3) pe_non (nomark _)) (pss_one (ps_ret (pe_lst (pa_cons (pe_k N.CANNOT) pa_nil)))) pss_nil)
    (pss_one (ps_ret (pe_lst (pa_cons (pv 3) pa_nil))))), ?_⟩
  refine ⟨_, rfl, kp, dx, _, rfl, h1, lk_none (by decide +kernel), _, rfl, _, rfl, kp, L, st, a, b, f, g, rfl, KA, hf, hg, ?_⟩
  show RetV H (optV (Rc99.late f g)) _
  cases e : Rc99.late f g with
  | none =>
    intro H1 s1
    refine ⟨_, rfl, rfl, _, rfl, ite2 (fun _ => ⟨small_le (by decide), fun q hq => ?_⟩) (fun z => absurd (decide_eq_true rfl) z)⟩
    exact dn.stay KA (does_late_no hf hg e) s1 hq rfl
  | some d =>
    intro H1 s1
    refine ⟨_, rfl, rfl, _, rfl, ite2 (fun z => absurd (of_decide_eq_true z) (fun y => by cases y)) (fun _ => ⟨_, rfl, small_le (by show 1 ≤ 1000; decide), fun q hq => ?_⟩)⟩
    exact dn.stay KA (does_late hf hg e) s1 hq rfl
theorem scCompared : FnScope ["keeper", "number", "a", "b"] ["keeper", "number", "a", "b"] (defScope sCompared) := ⟨rfl, rfl, rfl, by decide +kernel, rfl, by decide +kernel, by decide +kernel⟩
theorem ok_compared (T : KCls K mg C) (N : Cst mg) (F : Fd K mg "compared" sCompared) (DI : Df P w K mg base 1 "is_curve" ["k"] spIsCurve) (DS : Dm P w K mg base C 2 "less" ["self", "a", "b"] (spKTwo C fun f g => .bl (Rc99.under f g)))
    (DM : Dm P w K mg base C 2 "most" ["self", "a", "b"] (spKTwo C fun f g => .int ((Rc99.backlog f g : Nat) : Int))) (DL : Df P w K mg base 4 "late" ["keeper", "a", "b"] (spLate C)) : Df P w K mg base 5 "compared" ["keeper", "number", "a", "b"] (spCompared C) := by
  refine Df.of F scCompared (fun _ _ _ _ _ _ us hl => match us, hl with | [_, _, _, _], _ => rfl) (fun vs H Q E ⟨_, _, _, _, _, _, h, _⟩ => by rw [h]; rfl) (fun f cdv A outer s H vs Q E hr h => ?_)
  obtain ⟨kp, L, st, n, a, b, rfl, KA, dn⟩ := h
  obtain ⟨dx, h1⟩ := KA.ins
  have hr1 : Room 1 _ := hr.mono (by decide)
  have hr2 : Room 2 _ := hr.mono (by decide)
  refine ⟨_, pss_cons (ps_if (PW.pt (pw_or (pt_not (pt_val (pe_df DI hr1 (pa_cons (pv 2) pa_nil)))) (pw_or1 (pt_not (pt_val (pe_df DI hr1 (pa_cons (pv 3) pa_nil))))))) (pss_one (ps_ret (pe_lst (pa_cons (pe_k N.OUT) pa_nil)))) pss_nil)
    (pss_cons (ps_if (pt_cmpR op_eq (pv 1) pe_int (nomark _)) (pss_one (ps_ret (pe_lst (pa_cons (pe_callTy call_int1 (by rfl) N.int (by decide +kernel) (pa_cons (pe_dm (pv 0) T.cl DS hr2 (pa_cons (pv 2) (pa_cons (pv 3) pa_nil))) pa_nil)) pa_nil)))) pss_nil)
    (pss_cons (ps_if (pt_cmpR op_eq (pv 1) pe_int (nomark _)) (pss_one (ps_ret (pe_lst (pa_cons (pe_dm (pv 0) T.cl DM hr2 (pa_cons (pv 2) (pa_cons (pv 3) pa_nil))) pa_nil)))) pss_nil)
    (pss_one (ps_ret (pe_df DL hr (pa_cons (pv 0) (pa_cons (pv 2) (pa_cons (pv 3) pa_nil)))))))), ?_⟩
  refine ⟨_, rfl, a, rfl, _, rfl, ite2 (fun e1 => ⟨small_le (by decide), fun q hq => ?_⟩) (fun e1 => ⟨_, rfl, b, rfl, _, rfl, ite2 (fun e2 => ⟨small_le (by decide), fun q hq => ?_⟩) (fun e2 => ?_)⟩)⟩
  · exact dn.stay KA (does_cmp_no (.inl (get_none (not_true e1)))) (Same.refl _) hq rfl
  · exact dn.stay KA (does_cmp_no (.inr (get_none (not_true e2)))) (Same.refl _) hq rfl
  · obtain ⟨f, hf⟩ := get_some KA (not_not_true e1)
    obtain ⟨g, hg⟩ := get_some KA (not_not_true e2)
    unfold cmpCall at dn
    by_cases n6 : n = 6
    · rw [if_pos n6] at dn
      refine ⟨_, rfl, rfl, _, rfl, eqT n6 ⟨_, rfl, kp, dx, _, rfl, h1, lk_none (by decide +kernel), _, rfl, _, rfl, kp, L, st, a, b, f, g, rfl, KA, hf, hg, fun H1 s1 => .inr ⟨_, rfl, small_le (by show 1 ≤ 1000; decide), fun q hq => ?_⟩⟩⟩
      exact dn.stay KA (does_less hf hg) s1 hq rfl
    · rw [if_neg n6] at dn
      by_cases n7 : n = 7
      · rw [if_pos n7] at dn
        refine ⟨_, rfl, rfl, _, rfl, eqF n6 ⟨_, rfl, rfl, _, rfl, eqT n7 ⟨_, rfl, kp, dx, _, rfl, h1, lk_none (by decide +kernel), _, rfl, _, rfl, kp, L, st, a, b, f, g, rfl, KA, hf, hg, fun H1 s1 => ⟨small_le (by show 1 ≤ 1000; decide), fun q hq => ?_⟩⟩⟩⟩
        exact dn.stay KA (does_most hf hg) s1 hq rfl
      · rw [if_neg n7] at dn
        exact ⟨_, rfl, rfl, _, rfl, eqF n6 ⟨_, rfl, rfl, _, rfl, eqF n7 ⟨_, rfl, _, rfl, _, rfl, kp, L, st, a, b, f, g, rfl, KA, hf, hg, dn⟩⟩⟩
theorem scFits : FnScope ["keeper", "a", "flow"] ["keeper", "a", "flow"] (defScope sFits) := ⟨rfl, rfl, rfl, by decide +kernel, rfl, by decide +kernel, by decide +kernel⟩
theorem ok_fits (T : KCls K mg C) (N : Cst mg) (F : Fd K mg "fits" sFits) (DI : Df P w K mg base 1 "is_curve" ["k"] spIsCurve) (DF : Df P w K mg base 1 "is_flow" ["flow"] (spIsFlow K)) (DT : Df P w K mg base 2 "keeps_to" ["flow", "curve"] (spKeepsTo K)) (DC : Dm P w K mg base C 1 "curve" ["self", "k"] (spKCurve C)) :
    Df P w K mg base 3 "fits" ["keeper", "a", "flow"] (spFits C) := by
  refine Df.of F scFits (fun _ _ _ _ _ _ us hl => match us, hl with | [_, _, _], _ => rfl) (fun vs H Q E ⟨_, _, _, _, _, _, h, _⟩ => by rw [h]; rfl) (fun f cdv A outer s H vs Q E hr h => ?_)
  obtain ⟨kp, L, st, a, p, l, rfl, KA, hp, hl, dn⟩ := h
  obtain ⟨dx, h1⟩ := KA.ins
  have hr1 : Room 1 _ := hr.mono (by decide)
  refine ⟨_, pss_cons (ps_if (PW.pt (pw_or (pt_not (pt_val (pe_df DI hr1 (pa_cons (pv 1) pa_nil)))) (pw_or1 (pt_not (pt_val (pe_df DF hr1 (pa_cons (pv 2) pa_nil))))))) (pss_one (ps_ret (pe_lst (pa_cons (pe_k N.OUT) pa_nil)))) pss_nil)
    (pss_one (ps_ret (pe_lst (pa_cons (pe_callTy call_int1 (by rfl) N.int (by decide +kernel) (pa_cons (pe_df DT hr (pa_cons (pv 2) (pa_cons (pe_dm (pv 0) T.cl DC hr1 (pa_cons (pv 1) pa_nil)) pa_nil))) pa_nil)) pa_nil)))), ?_⟩
  refine ⟨_, rfl, a, rfl, _, rfl, ite2 (fun e1 => ⟨small_le (by decide), fun q hq => ?_⟩) (fun e1 => ⟨_, rfl, p, l, rfl, SqL.of hp, fun H1 s1 => ⟨_, rfl, ite2 (fun e2 => ⟨small_le (by decide), fun q hq => ?_⟩) (fun e2 => ?_)⟩⟩)⟩
  · exact dn.stay KA (does_fits_a (get_none (not_true e1))) (Same.refl _) hq rfl
  · obtain ⟨f, hf⟩ := get_some KA (not_not_true e1)
    exact dn.stay KA (does_fits_l hf (not_true e2)) s1 hq rfl
  · obtain ⟨f, hf⟩ := get_some KA (not_not_true e1)
    have cf : Curve f := (KA.at_ hf).elim fun _ z => z.elim fun _ z => z.2.2.2
    refine ⟨_, rfl, _, rfl, kp, dx, _, rfl, s1 _ _ h1, lk_none (by decide +kernel), _, rfl, kp, L, st, a, f, rfl, KA.same s1, hf, fun c hc => ⟨p, c, l, f, rfl, SqL.of (s1 _ _ hp), SqL.of hc, hl, cf.long, fun H2 s2 => .inr ⟨_, rfl, small_le (by show 1 ≤ 1000; decide), fun q hq => ?_⟩⟩⟩
    exact dn.stay KA (does_fits hf (not_not_true e2)) (Same.trans s1 s2) hq rfl
theorem scShape : FnScope ["keeper", "a", "flow", "most"] ["keeper", "a", "flow", "most"] (defScope sShape) := ⟨rfl, rfl, rfl, by decide +kernel, rfl, by decide +kernel, by decide +kernel⟩
theorem ok_shape (T : KCls K mg C) (N : Cst mg) (F : Fd K mg "shape" sShape) (DI : Df P w K mg base 1 "is_curve" ["k"] spIsCurve) (DF : Df P w K mg base 1 "is_flow" ["flow"] (spIsFlow K)) (DB : Df P w K mg base 3 "held_back" ["flow", "curve"] (spHeldBack K)) (DC : Dm P w K mg base C 1 "curve" ["self", "k"] (spKCurve C)) :
    Df P w K mg base 4 "shape" ["keeper", "a", "flow", "most"] (spShape C) := by
  refine Df.of F scShape (fun _ _ _ _ _ _ us hl => match us, hl with | [_, _, _, _], _ => rfl) (fun vs H Q E ⟨_, _, _, _, _, _, _, h, _⟩ => by rw [h]; rfl) (fun f cdv A outer s H vs Q E hr h => ?_)
  obtain ⟨kp, L, st, a, p, l, m, rfl, KA, hp, hl, dn⟩ := h
  obtain ⟨dx, h1⟩ := KA.ins
  have hr1 : Room 1 _ := hr.mono (by decide)
  have eL := ll_length l
  refine ⟨_, pss_cons (ps_if (PW.pt (pw_or (pt_not (pt_val (pe_df DI hr1 (pa_cons (pv 1) pa_nil)))) (pw_or1 (pt_not (pt_val (pe_df DF hr1 (pa_cons (pv 2) pa_nil))))))) (pss_one (ps_ret (pe_lst (pa_cons (pe_k N.OUT) pa_nil)))) pss_nil)
    (pss_cons (ps_if (pt_not (pt_chain op_le op_le pe_int (pv 3) (pe_k N.SLOTSD))) (pss_one (ps_ret (pe_lst (pa_cons (pe_callB call_len_seq (by rfl) N.len PySem.boot_len (pa_cons (pv 2) pa_nil)) pa_nil)))) pss_nil)
    (pss_one (ps_ret (pe_op op_cat (pe_lst (pa_cons (pe_callB call_len_seq (by rfl) N.len PySem.boot_len (pa_cons (pv 2) pa_nil)) pa_nil)) (pe_slice sl_list (pe_df DB hr (pa_cons (pv 2) (pa_cons (pe_dm (pv 0) T.cl DC hr1 (pa_cons (pv 1) pa_nil)) pa_nil))) po_none (po_some (pv 3))))))), ?_⟩
  refine ⟨_, rfl, a, rfl, _, rfl, ite2 (fun e1 => ⟨small_le (by decide), fun q hq => ?_⟩) (fun e1 => ⟨_, rfl, p, l, rfl, SqL.of hp, fun H1 s1 => ⟨_, rfl, ite2 (fun e2 => ⟨small_le (by decide), fun q hq => ?_⟩) (fun e2 => ?_)⟩⟩)⟩
  · exact dn.stay KA (does_shape_a (get_none (not_true e1))) (Same.refl _) hq rfl
  · obtain ⟨f, hf⟩ := get_some KA (not_not_true e1)
    exact dn.stay KA (does_shape_l hf (not_true e2)) s1 hq rfl
  · obtain ⟨f, hf⟩ := get_some KA (not_not_true e1)
    have cf : Curve f := (KA.at_ hf).elim fun _ z => z.elim fun _ z => z.2.2.2
    have ds := does_shape (m := m) hf (not_not_true e2)
    have none_ : ¬ (1 ≤ m ∧ m ≤ 32) → Rc99.does st (.shape a l (l.length : Nat) m) = (st, { value := ((l.length : Nat) : Int), numbers := [] }) := fun z => by
      rw [ds]
      unfold Rc99.room_
      rw [if_neg (show ¬ (1 ≤ m ∧ m ≤ ((32 : Nat) : Int)) from z), List.take_zero]
    have hpS := s1 _ _ hp
    refine ⟨_, rfl, _, _, rfl, rfl, _, rfl, ite2 (fun e4 => ⟨_, _, rfl, rfl, _, rfl, ite2 (fun e5 => ⟨_, rfl, p, _, rfl, .inl (SqL.of hpS), small_le (by show 1 ≤ 1000; decide), fun q hq => ?_⟩) (fun e5 => ?_)⟩) (fun e4 => ⟨_, rfl, _, rfl, p, _, rfl, .inl (SqL.of hpS), small_le (by show 1 ≤ 1000; decide), fun q hq => ?_⟩)⟩
    · have e5 := of_decide_eq_false (not_true e5)
      exact dn.stay KA (none_ (by omega)) s1 hq (by rw [eL]; rfl)
    · have e4 := of_decide_eq_true e4
      have e5 := of_decide_eq_true (not_not_true e5)
      refine ⟨_, rfl, p, _, rfl, .inl (SqL.of hpS), small_le (by show 1 ≤ 1000; decide), fun q hq => ?_⟩
      have s2 := same_upd (o := .lst [.int ((((iv l).map V.int).length : Nat) : Int)]) hq
      have s12 := Same.trans s1 s2
      refine ⟨_, rfl, _, rfl, kp, dx, _, rfl, s12 _ _ h1, lk_none (by decide +kernel), _, rfl, kp, L, st, a, f, rfl, KA.same s12, hf, fun c hc => ⟨p, c, l, f, rfl, SqL.of (s12 _ _ hp), SqL.of hc, hl, cf, fun H2 r s3 n3 e6 => ?_⟩⟩
      refine ⟨_, rfl, m, rfl, r, _, rfl, SqL.of e6, fun q3 hq3 => ?_⟩
      rw [cut_to _ (by omega)]
      have s4 := same_upd (o := LL ((Rc99.shaped f l).take m.toNat)) hq3
      refine ⟨q, q3, _, _, rfl, rfl, s4 _ _ (s3 _ _ upd_same), upd_same, ?_, fun q5 hq5 => ?_⟩
      · rw [ll_length (List.take m.toNat (Rc99.shaped f l)), List.length_take]
        exact small_le (by show 1 + min m.toNat _ ≤ 1000; omega)
      · refine dn.stay KA ds (Same.trans s12 (Same.trans s3 s4)) hq5 ?_
        rw [eL]
        unfold Rc99.room_
        rw [if_pos (show 1 ≤ m ∧ m ≤ ((32 : Nat) : Int) from ⟨e4, e5⟩)]
        rfl
    · have e4 := dec_not e4
      exact dn.stay KA (none_ (by omega)) s1 hq (by rw [eL]; rfl)
theorem scAnswer : FnScope ["keeper", "number", "given", "row"] ["keeper", "number", "given", "row"] (defScope sAnswer) := ⟨rfl, rfl, rfl, by decide +kernel, rfl, by decide +kernel, by decide +kernel⟩
theorem ok_answer (T : KCls K mg C) (N : Cst mg) (F : Fd K mg "answer" sAnswer) (D1 : Df P w K mg base 2 "set_line" ["keeper", "k", "b", "r"] (spSetLine C)) (D2 : Df P w K mg base 3 "set_rate" ["keeper", "k", "r", "d"] (spSetRate C)) (D3 : Df P w K mg base 2 "set_row" ["keeper", "k", "row"] (spSetRow C))
    (D4 : Df P w K mg base 5 "make" ["keeper", "k", "what", "both"] (spMake C)) (D5 : Df P w K mg base 2 "value" ["keeper", "k", "t"] (spValue C)) (D9 : Df P w K mg base 3 "fits" ["keeper", "a", "flow"] (spFits C)) (D10 : Df P w K mg base 4 "shape" ["keeper", "a", "flow", "most"] (spShape C))
    (D6 : Df P w K mg base 5 "compared" ["keeper", "number", "a", "b"] (spCompared C)) : Df P w K mg base 6 "answer" ["keeper", "number", "given", "row"] (spAnswer C) := by
  refine Df.of F scAnswer (fun _ _ _ _ _ _ us hl => match us, hl with | [_, _, _, _], _ => rfl) (fun vs H Q E ⟨_, _, _, _, _, _, _, _, _, h, _⟩ => by rw [h]; rfl) (fun f cdv A outer s H vs Q E hr h => ?_)
  obtain ⟨kp, L, st, n, xs, ag, ar, l, c, rfl, KA, hg, hR, hl, ci, dn⟩ := h
  have hr2 : Room 2 _ := hr.mono (by decide)
  have hr3 : Room 3 _ := hr.mono (by decide)
  have hr4 : Room 4 _ := hr.mono (by decide)
  refine ⟨_, (pss_cons (ps_if (pt_cmpR op_eq (pv 1) pe_int (nomark _)) (pss_one (ps_ret (pe_df D1 hr2 (pa_cons (pv 0) (pa_cons (pe_at K (pv 2) pe_int) (pa_cons (pe_at K (pv 2) pe_int) (pa_cons (pe_at K (pv 2) pe_int) pa_nil))))))) pss_nil)
    (pss_cons (ps_if (pt_cmpR op_eq (pv 1) pe_int (nomark _)) (pss_one (ps_ret (pe_df D2 hr3 (pa_cons (pv 0) (pa_cons (pe_at K (pv 2) pe_int) (pa_cons (pe_at K (pv 2) pe_int) (pa_cons (pe_at K (pv 2) pe_int) pa_nil))))))) pss_nil)
    (pss_cons (ps_if (pt_cmpR op_eq (pv 1) pe_int (nomark _)) (pss_one (ps_ret (pe_df D3 hr2 (pa_cons (pv 0) (pa_cons (pe_at K (pv 2) pe_int) (pa_cons (pv 3) pa_nil)))))) pss_nil)
    (pss_cons (ps_if (pt_cmpR op_eq (pv 1) pe_int (nomark _)) (pss_one (ps_ret (pe_df D4 hr (pa_cons (pv 0) (pa_cons (pe_at K (pv 2) pe_int) (pa_cons (pe_at K (pv 2) pe_int) (pa_cons (pe_tup (pa_cons (pe_at K (pv 2) pe_int) (pa_cons (pe_at K (pv 2) pe_int) pa_nil))) pa_nil))))))) pss_nil)
    (pss_cons (ps_if (pt_cmpR op_eq (pv 1) pe_int (nomark _)) (pss_one (ps_ret (pe_df D5 hr2 (pa_cons (pv 0) (pa_cons (pe_at K (pv 2) pe_int) (pa_cons (pe_at K (pv 2) pe_int) pa_nil)))))) pss_nil)
    (pss_cons (ps_if (pt_cmpR op_eq (pv 1) pe_int (nomark _)) (pss_one (ps_ret (pe_df D9 hr3 (pa_cons (pv 0) (pa_cons (pe_at K (pv 2) pe_int) (pa_cons (pv 3) pa_nil)))))) pss_nil)
    (pss_cons (ps_if (pt_cmpR op_eq (pv 1) pe_int (nomark _)) (pss_one (ps_ret (pe_df D10 hr4 (pa_cons (pv 0) (pa_cons (pe_at K (pv 2) pe_int) (pa_cons (pv 3) (pa_cons (pe_at K (pv 2) pe_int) pa_nil))))))) pss_nil)
    (pss_one (ps_ret (pe_df D6 hr (pa_cons (pv 0) (pa_cons (pv 1) (pa_cons (pe_at K (pv 2) pe_int) (pa_cons (pe_at K (pv 2) pe_int) pa_nil)))))))))))))), ?_⟩
  cases ci with
  | line k b r l =>
    exact ⟨_, rfl, rfl, _, rfl, eqT rfl ⟨_, rfl, _, rfl, ag, _, _, _, rfl, rfl, SqL.of hg, rfl, _, rfl, ag, _, _, _, rfl, rfl, SqL.of hg, rfl, _, rfl, ag, _, _, _, rfl, rfl, SqL.of hg, rfl, kp, L, st, k, b, r, rfl, KA, dn⟩⟩
  | rate k r d l =>
    exact ⟨_, rfl, rfl, _, rfl, eqF (by decide) ⟨_, rfl, rfl, _, rfl, eqT rfl ⟨_, rfl, _, rfl, ag, _, _, _, rfl, rfl, SqL.of hg, rfl, _, rfl, ag, _, _, _, rfl, rfl, SqL.of hg, rfl, _, rfl, ag, _, _, _, rfl, rfl, SqL.of hg, rfl, kp, L, st, k, r, d, rfl, KA, dn⟩⟩⟩
  | row k l =>
    exact ⟨_, rfl, rfl, _, rfl, eqF (by decide) ⟨_, rfl, rfl, _, rfl, eqF (by decide) ⟨_, rfl, rfl, _, rfl, eqT rfl ⟨_, rfl, _, rfl, ag, _, _, _, rfl, rfl, SqL.of hg, rfl, _, rfl, kp, L, st, k, ar, l, rfl, KA, hR, hl, dn⟩⟩⟩⟩
  | value k t l =>
    exact ⟨_, rfl, rfl, _, rfl, eqF (by decide) ⟨_, rfl, rfl, _, rfl, eqF (by decide) ⟨_, rfl, rfl, _, rfl, eqF (by decide) ⟨_, rfl, rfl, _, rfl, eqF (by decide) ⟨_, rfl, rfl, _, rfl, eqT rfl ⟨_, rfl, _, rfl, ag, _, _, _, rfl, rfl, SqL.of hg, rfl, _, rfl, ag, _, _, _, rfl, rfl, SqL.of hg, rfl, kp, L, st, k, t, rfl, KA, dn⟩⟩⟩⟩⟩⟩
  | fits a l =>
    exact ⟨_, rfl, rfl, _, rfl, eqF (by decide) ⟨_, rfl, rfl, _, rfl, eqF (by decide) ⟨_, rfl, rfl, _, rfl, eqF (by decide) ⟨_, rfl, rfl, _, rfl, eqF (by decide) ⟨_, rfl, rfl, _, rfl, eqF (by decide) ⟨_, rfl, rfl, _, rfl, eqT rfl ⟨_, rfl, _, rfl, ag, _, _, _, rfl, rfl, SqL.of hg, rfl, _, rfl, kp, L, st, a, ar, l, rfl, KA, hR, hl, dn⟩⟩⟩⟩⟩⟩⟩
  | shape a m l =>
    exact ⟨_, rfl, rfl, _, rfl, eqF (by decide) ⟨_, rfl, rfl, _, rfl, eqF (by decide) ⟨_, rfl, rfl, _, rfl, eqF (by decide) ⟨_, rfl, rfl, _, rfl, eqF (by decide) ⟨_, rfl, rfl, _, rfl, eqF (by decide) ⟨_, rfl, rfl, _, rfl, eqF (by decide) ⟨_, rfl, rfl, _, rfl, eqT rfl ⟨_, rfl, _, rfl, ag, _, _, _, rfl, rfl, SqL.of hg, rfl, _, rfl, _, rfl, ag, _, _, _, rfl, rfl, SqL.of hg, rfl, kp, L, st, a, ar, l, m, rfl, KA, hR, hl, dn⟩⟩⟩⟩⟩⟩⟩⟩
  | less a b l =>
    exact ⟨_, rfl, rfl, _, rfl, eqF (by decide) ⟨_, rfl, rfl, _, rfl, eqF (by decide) ⟨_, rfl, rfl, _, rfl, eqF (by decide) ⟨_, rfl, rfl, _, rfl, eqF (by decide) ⟨_, rfl, rfl, _, rfl, eqF (by decide) ⟨_, rfl, rfl, _, rfl, eqF (by decide) ⟨_, rfl, rfl, _, rfl, eqF (by decide) ⟨_, rfl, _, rfl, _, rfl, ag, _, _, _, rfl, rfl, SqL.of hg, rfl, _, rfl, ag, _, _, _, rfl, rfl, SqL.of hg, rfl, kp, L, st, 6, a, b, rfl, KA, dn⟩⟩⟩⟩⟩⟩⟩⟩
  | most a b l =>
    exact ⟨_, rfl, rfl, _, rfl, eqF (by decide) ⟨_, rfl, rfl, _, rfl, eqF (by decide) ⟨_, rfl, rfl, _, rfl, eqF (by decide) ⟨_, rfl, rfl, _, rfl, eqF (by decide) ⟨_, rfl, rfl, _, rfl, eqF (by decide) ⟨_, rfl, rfl, _, rfl, eqF (by decide) ⟨_, rfl, rfl, _, rfl, eqF (by decide) ⟨_, rfl, _, rfl, _, rfl, ag, _, _, _, rfl, rfl, SqL.of hg, rfl, _, rfl, ag, _, _, _, rfl, rfl, SqL.of hg, rfl, kp, L, st, 7, a, b, rfl, KA, dn⟩⟩⟩⟩⟩⟩⟩⟩
  | late a b l =>
    exact ⟨_, rfl, rfl, _, rfl, eqF (by decide) ⟨_, rfl, rfl, _, rfl, eqF (by decide) ⟨_, rfl, rfl, _, rfl, eqF (by decide) ⟨_, rfl, rfl, _, rfl, eqF (by decide) ⟨_, rfl, rfl, _, rfl, eqF (by decide) ⟨_, rfl, rfl, _, rfl, eqF (by decide) ⟨_, rfl, rfl, _, rfl, eqF (by decide) ⟨_, rfl, _, rfl, _, rfl, ag, _, _, _, rfl, rfl, SqL.of hg, rfl, _, rfl, ag, _, _, _, rfl, rfl, SqL.of hg, rfl, kp, L, st, 8, a, b, rfl, KA, dn⟩⟩⟩⟩⟩⟩⟩⟩
  | make k what a b l =>
    refine ⟨_, rfl, rfl, _, rfl, eqF (by decide) ⟨_, rfl, rfl, _, rfl, eqF (by decide) ⟨_, rfl, rfl, _, rfl, eqF (by decide) ⟨_, rfl, rfl, _, rfl, eqT rfl ⟨_, rfl, _, rfl, ag, _, _, _, rfl, rfl, SqL.of hg, rfl, _, rfl, ag, _, _, _, rfl, rfl, SqL.of hg, rfl, _, rfl, ag, _, _, _, rfl, rfl, SqL.of hg, rfl, _, rfl, ag, _, _, _, rfl, rfl, SqL.of hg, rfl, small_le (by show 2 ≤ 1000; decide), fun tp ht => ?_⟩⟩⟩⟩⟩
    have s1 := same_upd (o := .tup [.int a, .int b]) ht
    refine ⟨kp, L, st, k, what, a, b, tp, rfl, KA.same s1, upd_same, fun H' q sb K2 nq e => ?_⟩
    exact dn H' q (SameBut.trans (same_but s1 L) sb) K2 (s1.free nq) e
theorem scListAt : FnScope ["calls", "number", "at"] ["calls", "number", "at"] (defScope sListAt) := ⟨rfl, rfl, rfl, by decide +kernel, rfl, by decide +kernel, by decide +kernel⟩
theorem ok_list_at {aW : Addr} (mW : mg "WITH_LIST" = some (.ref aW)) (hW : ∀ H, SqT K H aW [.int 3, .int 9, .int 10]) (F : Fd K mg "list_at" sListAt) : Df P w K mg base 1 "list_at" ["calls", "number", "at"] (spListAt K) := by
  refine Df.of F scListAt (fun _ _ _ _ _ _ us hl => match us, hl with | [_, _, _], _ => rfl) (fun vs H Q E ⟨_, _, _, _, h, _⟩ => by rw [h]; rfl) (fun f cdv A outer s H vs Q E hr h => ?_)
  obtain ⟨ac, ns, n, i, rfl, hc, k1, k2⟩ := h
  refine ⟨_, pss_cons (ps_if (pt_cmpR op_notIn_seq (pv 1) (pe_glob (v := .ref aW) rfl mW rfl) (by rfl)) (pss_one (ps_ret (pe_lst pa_nil))) pss_nil)
    (pss_one (ps_ret (pe_slice sl_list (pv 0) (po_some (pe_op op_add (pv 2) pe_int)) (po_some (pe_op op_add (pe_op op_add (pv 2) pe_int) (pe_at K (pv 0) (pv 2))))))), ?_⟩
  refine ⟨_, rfl, aW, _, rfl, .inr (hW _), rfl, rfl, _, rfl, ite2 (fun e => ⟨Nat.zero_le _, fun p hp => ?_⟩) (fun e => ?_)⟩
  · have e : (!inV (.int n) [.int 3, .int 9, .int 10]) = true := e
    rw [wl_in] at e
    exact k1 (not_true e) _ p (same_upd hp) hp upd_same
  · have e : ¬ (!inV (.int n) [.int 3, .int 9, .int 10]) = true := e
    rw [wl_in] at e
    obtain ⟨m, hm, hlen, k3⟩ := k2 (not_not_true e)
    refine ⟨_, rfl, _, rfl, _, _, rfl, rfl, _, rfl, _, rfl, _, _, rfl, rfl, _, rfl, _, rfl, ac, _, _, _, rfl, rfl, hc, at_of (j := i) rfl (by rw [List.getElem?_map, hm]; rfl), _, _, rfl, rfl, _, rfl, ac, _, rfl, hc, fun p hp => ?_⟩
    rw [cut_mid ns (i + 1) m hlen (by omega) (by omega)]
    exact k3 _ p (same_upd hp) hp upd_same
theorem scSizeOf : FnScope ["calls", "number", "at"] ["calls", "number", "at"] (defScope sSizeOf) := ⟨rfl, rfl, rfl, by decide +kernel, rfl, by decide +kernel, by decide +kernel⟩
theorem ok_size_of {aW : Addr} (mW : mg "WITH_LIST" = some (.ref aW)) (hW : ∀ H, SqT K H aW [.int 3, .int 9, .int 10]) (F : Fd K mg "size_of_list" sSizeOf) : Df P w K mg base 1 "size_of_list" ["calls", "number", "at"] (spSizeOf K) := by
  refine Df.of F scSizeOf (fun _ _ _ _ _ _ us hl => match us, hl with | [_, _, _], _ => rfl) (fun vs H Q E ⟨_, _, _, _, h, _⟩ => by rw [h]; rfl) (fun f cdv A outer s H vs Q E hr h => ?_)
  obtain ⟨ac, ns, n, i, rfl, hc, k1, k2⟩ := h
  refine ⟨_, pss_cons (ps_if (pt_cmpR op_notIn_seq (pv 1) (pe_glob (v := .ref aW) rfl mW rfl) (by rfl)) (pss_one (ps_ret pe_int)) pss_nil)
    (pss_one (ps_ret (pe_op op_add pe_int (pe_at K (pv 0) (pv 2))))), ?_⟩
  refine ⟨_, rfl, aW, _, rfl, .inr (hW _), rfl, rfl, _, rfl, ite2 (fun e => ?_) (fun e => ?_)⟩
  · have e : (!inV (.int n) [.int 3, .int 9, .int 10]) = true := e
    rw [wl_in] at e
    exact k1 (not_true e)
  · have e : ¬ (!inV (.int n) [.int 3, .int 9, .int 10]) = true := e
    rw [wl_in] at e
    obtain ⟨m, hm, k3⟩ := k2 (not_not_true e)
    exact ⟨_, rfl, _, rfl, ac, _, _, _, rfl, rfl, hc, at_of (j := i) rfl (by rw [List.getElem?_map, hm]; rfl), _, _, rfl, rfl, k3⟩
end
end Qc
set_option Elab.async false
set_option linter.all false
set_option maxRecDepth 100000
set_option maxHeartbeats 1000000
namespace Qc
/-! ### the calls in the list, one behind another: the plain part of the loop -/
def NUMS : List Int := [0, 3, 3, 1, 4, 2, 2, 2, 2, 1, 2]
def RowIs (ns : List Int) (n : Int) (i : Nat) (row : List Int) : Prop := (wl n = false ∧ row = []) ∨ (wl n = true ∧ ∃ m : Nat, ns[i]? = some (m : Int) ∧ i + 1 + m ≤ ns.length ∧ row = (ns.drop (i + 1)).take m)
def SizeIs (ns : List Int) (n : Int) (i : Nat) (z : Int) : Prop := (wl n = false ∧ z = 0) ∨ (wl n = true ∧ ∃ m : Nat, ns[i]? = some (m : Int) ∧ z = 1 + (m : Int))
def StepIs (p : Int) (xs row : List Int) (c : List (List Int)) : Prop :=
  (p = 0 ∧ ∀ s, Rc99Neutral.step s (PyRc99.whole c) = ({}, [0])) ∨ (¬ p = 0 ∧ ∃ call, CallIs p xs (row.map Int.toNat) call ∧ ∀ s, Rc99Neutral.step s (PyRc99.whole c) = ((Rc99.does s call).1, ansOf (Rc99.does s call).2))
theorem shape_cases {p : Int} {n k : Nat} (h : PyRc99.shape p = some (n, k)) :
    (p = 0 ∧ n = 0 ∧ k = 0) ∨ (p = 1 ∧ n = 3 ∧ k = 0) ∨ (p = 2 ∧ n = 3 ∧ k = 0) ∨ (p = 3 ∧ n = 1 ∧ k = 1) ∨ (p = 4 ∧ n = 4 ∧ k = 0) ∨ (p = 5 ∧ n = 2 ∧ k = 0) ∨ (p = 6 ∧ n = 2 ∧ k = 0) ∨ (p = 7 ∧ n = 2 ∧ k = 0) ∨ (p = 8 ∧ n = 2 ∧ k = 0) ∨ (p = 9 ∧ n = 1 ∧ k = 1) ∨ (p = 10 ∧ n = 2 ∧ k = 1) := by
  unfold PyRc99.shape at h
  split at h
  · cases h; omega
  split at h
  · cases h; omega
  split at h
  · cases h; omega
  split at h
  · cases h; omega
  split at h
  · cases h; omega
  split at h
  · cases h; omega
  split at h
  · cases h; omega
  split at h
  · cases h; omega
  split at h
  · cases h; omega
  split at h
  · cases h; omega
  split at h
  · cases h; omega
  cases h
theorem rows_zero {r t : List Int} {xs : List (List Int)} (h : PyFlat.rows 0 r = some (xs, t)) : xs = [] ∧ t = r := by
  cases h
  exact ⟨rfl, rfl⟩
theorem rows_one {r t : List Int} {xs : List (List Int)} (h : PyFlat.rows 1 r = some (xs, t)) : ∃ (m : Nat) (r' : List Int), r = (m : Int) :: r' ∧ m ≤ r'.length ∧ xs = [r'.take m] ∧ t = r'.drop m := by
  cases r with
  | nil => cases h
  | cons z r' =>
    have h' : (match PyFlat.row (z :: r') with
      | none => none
      | some (x, s) => match PyFlat.rows 0 s with
        | none => none
        | some (xs, t) => some (x :: xs, t)) = some (xs, t) := h
    have e : PyFlat.row (z :: r') = if 0 ≤ z ∧ z.toNat ≤ r'.length then some (r'.take z.toNat, r'.drop z.toNat) else none := rfl
    by_cases c : 0 ≤ z ∧ z.toNat ≤ r'.length
    · rw [e, if_pos c] at h'
      have h2 : some ([r'.take z.toNat], r'.drop z.toNat) = some (xs, t) := h'
      cases h2
      exact ⟨z.toNat, r', by rw [Int.toNat_of_nonneg c.1], c.2, rfl, rfl⟩
    · rw [e, if_neg c] at h'
      cases h'
theorem len1 {r : List Int} (h : 1 ≤ r.length) : ∃ a, r.take 1 = [a] := by
  match r, h with
  | a :: r, _ => exact ⟨a, rfl⟩
theorem len2 {r : List Int} (h : 2 ≤ r.length) : ∃ a b, r.take 2 = [a, b] := by
  match r, h with
  | a :: b :: r, _ => exact ⟨a, b, rfl⟩
theorem len3 {r : List Int} (h : 3 ≤ r.length) : ∃ a b c, r.take 3 = [a, b, c] := by
  match r, h with
  | a :: b :: c :: r, _ => exact ⟨a, b, c, rfl⟩
theorem len4 {r : List Int} (h : 4 ≤ r.length) : ∃ a b c d, r.take 4 = [a, b, c, d] := by
  match r, h with
  | a :: b :: c :: d :: r, _ => exact ⟨a, b, c, d, rfl⟩
theorem row_bound {row : List Int} {b : List (Int × Int × Nat × Nat)} {rs : List (List Int)} (h : PyInside.lists ((0, 4294967295, 0, 32) :: b) (row :: rs) = true) : row.length ≤ 32 ∧ ∀ x ∈ row, 0 ≤ x := by
  have h' : (((decide (0 ≤ row.length) && decide (row.length ≤ 32)) && row.all (PyInside.within 0 4294967295)) && PyInside.lists b rs) = true := h
  rw [Bool.and_eq_true, Bool.and_eq_true, Bool.and_eq_true] at h'
  refine ⟨of_decide_eq_true h'.1.1.2, fun x hx => ?_⟩
  have := List.all_eq_true.mp h'.1.2 x hx
  have q : (decide ((0 : Int) ≤ x) && decide (x ≤ 4294967295)) = true := this
  rw [Bool.and_eq_true] at q
  exact of_decide_eq_true q.1
/-- one call at the list's head -/
theorem call_of {p : Int} {r t : List Int} {c : List (List Int)} (h : PyFlat.call PyRc99.shape (p :: r) = some (c, t)) (hb : PyInside.call PyRc99.bound c = true) :
    ∃ (n : Nat) (row : List Int), (0 ≤ p ∧ p ≤ 10) ∧ NUMS[p.toNat]? = some (n : Int) ∧ n ≤ r.length ∧
      ((wl p = false ∧ t = r.drop n ∧ row = []) ∨ (wl p = true ∧ ∃ m : Nat, r[n]? = some (m : Int) ∧ n + 1 + m ≤ r.length ∧ row = (r.drop (n + 1)).take m ∧ t = r.drop (n + 1 + m))) ∧
      row.length ≤ 32 ∧ (∀ x ∈ row, 0 ≤ x) ∧ StepIs p (r.take n) row c := by
  have h' : (match PyRc99.shape p with
    | none => none
    | some (n, k) => if r.length < n then none else match PyFlat.rows k (r.drop n) with
      | none => none
      | some (xs, t) => some ((p :: r.take n) :: xs, t)) = some (c, t) := h
  cases es : PyRc99.shape p with
  | none =>
    rw [es] at h'
    cases h'
  | some nk =>
    obtain ⟨n, k⟩ := nk
    rw [es] at h'
    have h2 : (if r.length < n then none else match PyFlat.rows k (r.drop n) with
      | none => none
      | some (xs, t) => some ((p :: r.take n) :: xs, t)) = some (c, t) := h'
    by_cases hn : r.length < n
    · rw [if_pos hn] at h2
      cases h2
    rw [if_neg hn] at h2
    cases er : PyFlat.rows k (r.drop n) with
    | none =>
      rw [er] at h2
      cases h2
    | some xt =>
      obtain ⟨xs, t'⟩ := xt
      rw [er] at h2
      cases h2
      have zero : k = 0 → xs = [] ∧ t = r.drop n := fun e => by
        subst e
        exact rows_zero er
      have one : k = 1 → ∃ m : Nat, r[n]? = some (m : Int) ∧ n + 1 + m ≤ r.length ∧ xs = [(r.drop (n + 1)).take m] ∧ t = r.drop (n + 1 + m) := fun e => by
        subst e
        obtain ⟨m, r', e1, e2, e3, e4⟩ := rows_one er
        have ed : r.drop (n + 1) = r' := by
          rw [← List.drop_drop, e1]
          rfl
        have el : r'.length = r.length - (n + 1) := by rw [← ed, List.length_drop]
        have el2 : (r.drop n).length = r.length - n := List.length_drop
        rw [e1, List.length_cons] at el2
        refine ⟨m, ?_, by omega, by rw [ed]; exact e3, by rw [← List.drop_drop, ed]; exact e4⟩
        have := List.getElem?_drop (xs := r) (i := n) (j := 0)
        rw [e1, Nat.add_zero] at this
        exact this.symm
      rcases shape_cases es with ⟨rfl, rfl, rfl⟩ | ⟨rfl, rfl, rfl⟩ | ⟨rfl, rfl, rfl⟩ | ⟨rfl, rfl, rfl⟩ | ⟨rfl, rfl, rfl⟩ | ⟨rfl, rfl, rfl⟩ | ⟨rfl, rfl, rfl⟩ | ⟨rfl, rfl, rfl⟩ | ⟨rfl, rfl, rfl⟩ | ⟨rfl, rfl, rfl⟩ | ⟨rfl, rfl, rfl⟩
      · obtain ⟨rfl, et⟩ := zero rfl
        exact ⟨0, [], by omega, rfl, by omega, .inl ⟨rfl, et, rfl⟩, by decide, by simp, .inl ⟨rfl, fun s => rfl⟩⟩
      · obtain ⟨rfl, et⟩ := zero rfl
        obtain ⟨a, b, d, e⟩ := len3 (r := r) (by omega)
        rw [e]
        exact ⟨3, [], by omega, rfl, by omega, .inl ⟨rfl, et, rfl⟩, by decide, by simp, .inr ⟨by decide, _, by rw [e]; exact .line a b d _, fun s => rfl⟩⟩
      · obtain ⟨rfl, et⟩ := zero rfl
        obtain ⟨a, b, d, e⟩ := len3 (r := r) (by omega)
        rw [e]
        exact ⟨3, [], by omega, rfl, by omega, .inl ⟨rfl, et, rfl⟩, by decide, by simp, .inr ⟨by decide, _, by rw [e]; exact .rate a b d _, fun s => rfl⟩⟩
      · obtain ⟨m, e1, e2, rfl, et⟩ := one rfl
        obtain ⟨a, e⟩ := len1 (r := r) (by omega)
        rw [e] at hb ⊢
        have hb' : (PyInside.each [(-2147483648, 2147483647)] [a] && PyInside.lists [(0, 4294967295, 0, 32)] [(r.drop (1 + 1)).take m]) = true := hb
        rw [Bool.and_eq_true] at hb'
        obtain ⟨b1, b2⟩ := row_bound hb'.2
        refine ⟨1, (r.drop (1 + 1)).take m, by omega, rfl, by omega, .inr ⟨rfl, m, e1, e2, rfl, et⟩, b1, b2, .inr ⟨by decide, _, by rw [e]; exact .row a _, fun s => ?_⟩⟩
        rw [List.length_map]
        rfl
      · obtain ⟨rfl, et⟩ := zero rfl
        obtain ⟨a, b, d, f, e⟩ := len4 (r := r) (by omega)
        rw [e]
        exact ⟨4, [], by omega, rfl, by omega, .inl ⟨rfl, et, rfl⟩, by decide, by simp, .inr ⟨by decide, _, by rw [e]; exact .make a b d f _, fun s => rfl⟩⟩
      · obtain ⟨rfl, et⟩ := zero rfl
        obtain ⟨a, b, e⟩ := len2 (r := r) (by omega)
        rw [e]
        exact ⟨2, [], by omega, rfl, by omega, .inl ⟨rfl, et, rfl⟩, by decide, by simp, .inr ⟨by decide, _, by rw [e]; exact .value a b _, fun s => rfl⟩⟩
      · obtain ⟨rfl, et⟩ := zero rfl
        obtain ⟨a, b, e⟩ := len2 (r := r) (by omega)
        rw [e]
        exact ⟨2, [], by omega, rfl, by omega, .inl ⟨rfl, et, rfl⟩, by decide, by simp, .inr ⟨by decide, _, by rw [e]; exact .less a b _, fun s => rfl⟩⟩
      · obtain ⟨rfl, et⟩ := zero rfl
        obtain ⟨a, b, e⟩ := len2 (r := r) (by omega)
        rw [e]
        exact ⟨2, [], by omega, rfl, by omega, .inl ⟨rfl, et, rfl⟩, by decide, by simp, .inr ⟨by decide, _, by rw [e]; exact .most a b _, fun s => rfl⟩⟩
      · obtain ⟨rfl, et⟩ := zero rfl
        obtain ⟨a, b, e⟩ := len2 (r := r) (by omega)
        rw [e]
        exact ⟨2, [], by omega, rfl, by omega, .inl ⟨rfl, et, rfl⟩, by decide, by simp, .inr ⟨by decide, _, by rw [e]; exact .late a b _, fun s => rfl⟩⟩
      · obtain ⟨m, e1, e2, rfl, et⟩ := one rfl
        obtain ⟨a, e⟩ := len1 (r := r) (by omega)
        rw [e] at hb ⊢
        have hb' : (PyInside.each [(-2147483648, 2147483647)] [a] && PyInside.lists [(0, 4294967295, 0, 32)] [(r.drop (1 + 1)).take m]) = true := hb
        rw [Bool.and_eq_true] at hb'
        obtain ⟨b1, b2⟩ := row_bound hb'.2
        refine ⟨1, (r.drop (1 + 1)).take m, by omega, rfl, by omega, .inr ⟨rfl, m, e1, e2, rfl, et⟩, b1, b2, .inr ⟨by decide, _, by rw [e]; exact .fits a _, fun s => ?_⟩⟩
        rw [List.length_map]
        rfl
      · obtain ⟨m, e1, e2, rfl, et⟩ := one rfl
        obtain ⟨a, b, e⟩ := len2 (r := r) (by omega)
        rw [e] at hb ⊢
        have hb' : (PyInside.each [(-2147483648, 2147483647), (-2147483648, 2147483647)] [a, b] && PyInside.lists [(0, 4294967295, 0, 32)] [(r.drop (2 + 1)).take m]) = true := hb
        rw [Bool.and_eq_true] at hb'
        obtain ⟨b1, b2⟩ := row_bound hb'.2
        refine ⟨2, (r.drop (2 + 1)).take m, by omega, rfl, by omega, .inr ⟨rfl, m, e1, e2, rfl, et⟩, b1, b2, .inr ⟨by decide, _, by rw [e]; exact .shape a b _, fun s => ?_⟩⟩
        rw [List.length_map]
        rfl
/-- a turn of the loop, in places of the whole list -/
theorem turn_of {ns : List Int} {i fuel : Nat} {raw : List (List (List Int))} (hi : i < ns.length) (h : PyFlat.calls PyRc99.shape fuel (ns.drop i) = some raw) (hb : PyInside.calls PyRc99.bound raw = true) :
    ∃ (p : Int) (n : Nat) (c : List (List Int)) (cs : List (List (List Int))) (fuel' j : Nat) (row : List Int) (z : Int), raw = c :: cs ∧ ns[i]? = some p ∧ (0 ≤ p ∧ p ≤ 10) ∧ NUMS[p.toNat]? = some (n : Int) ∧ i + 1 + n ≤ ns.length ∧ RowIs ns p (i + 1 + n) row ∧ SizeIs ns p (i + 1 + n) z ∧
      ((i + 1 + n : Nat) : Int) + z = (j : Int) ∧ i < j ∧ j ≤ ns.length ∧ PyFlat.calls PyRc99.shape fuel' (ns.drop j) = some cs ∧ PyInside.calls PyRc99.bound cs = true ∧ row.length ≤ 32 ∧ (∀ x ∈ row, 0 ≤ x) ∧ StepIs p ((ns.drop (i + 1)).take n) row c := by
  have ed : ns.drop i = ns[i] :: ns.drop (i + 1) := List.drop_eq_getElem_cons hi
  rw [ed] at h
  generalize hp : ns[i] = p at h
  generalize hr : ns.drop (i + 1) = r at h
  cases fuel with
  | zero => cases h
  | succ fuel =>
    have h' : (match PyFlat.call PyRc99.shape (p :: r) with
      | none => none
      | some (c, t) => match PyFlat.calls PyRc99.shape fuel t with
        | none => none
        | some cs => some (c :: cs)) = some raw := h
    cases ec : PyFlat.call PyRc99.shape (p :: r) with
    | none =>
      rw [ec] at h'
      cases h'
    | some ct =>
      obtain ⟨c, t⟩ := ct
      rw [ec] at h'
      have h2 : (match PyFlat.calls PyRc99.shape fuel t with
        | none => none
        | some cs => some (c :: cs)) = some raw := h'
      cases ecs : PyFlat.calls PyRc99.shape fuel t with
      | none =>
        rw [ecs] at h2
        cases h2
      | some cs =>
        rw [ecs] at h2
        cases h2
        have hb' : (PyInside.call PyRc99.bound c && cs.all (PyInside.call PyRc99.bound)) = true := hb
        rw [Bool.and_eq_true] at hb'
        obtain ⟨n, row, q1, q2, q3, q4, q5, q6, q7⟩ := call_of ec hb'.1
        have gl : ∀ k, r[k]? = ns[i + 1 + k]? := fun k => by rw [← hr, List.getElem?_drop]
        have dl : ∀ k, r.drop k = ns.drop (i + 1 + k) := fun k => by rw [← hr, List.drop_drop]
        have ll : r.length = ns.length - (i + 1) := by rw [← hr, List.length_drop]
        have gp : ns[i]? = some p := by rw [List.getElem?_eq_getElem hi, hp]
        rcases q4 with ⟨w1, w2, w3⟩ | ⟨w1, m, w2, w3, w4, w5⟩
        · refine ⟨p, n, c, cs, fuel, i + 1 + n, row, 0, rfl, gp, q1, q2, by omega, .inl ⟨w1, w3⟩, .inl ⟨w1, rfl⟩, by omega, by omega, by omega, ?_, hb'.2, q5, q6, q7⟩
          rw [← dl, ← w2]
          exact ecs
        · refine ⟨p, n, c, cs, fuel, i + 1 + (n + 1 + m), row, 1 + (m : Int), rfl, gp, q1, q2, by omega, .inr ⟨w1, m, by rw [← gl]; exact w2, by omega, ?_⟩, .inr ⟨w1, m, by rw [← gl]; exact w2, rfl⟩, by omega, by omega, by omega, ?_, hb'.2, q5, q6, q7⟩
          · rw [w4, dl]
            rfl
          · rw [← dl, ← w5]
            exact ecs
theorem calls_nil {fuel : Nat} {raw : List (List (List Int))} (h : PyFlat.calls PyRc99.shape fuel [] = some raw) : raw = [] := by
  cases fuel with
  | zero => cases h; rfl
  | succ f => cases h; rfl
/-- what is still to be told, from a state -/
def still (s : Rc99.Abs) (raw : List (List (List Int))) : List Int := PyFlat.told (PyFlat.played Rc99Neutral.step s (raw.map PyRc99.whole))
theorem still_nil (s : Rc99.Abs) : still s [] = [] := rfl
theorem still_cons (s : Rc99.Abs) (c : List (List Int)) (cs : List (List (List Int))) {s' : Rc99.Abs} {a : List Int} (h : Rc99Neutral.step s (PyRc99.whole c) = (s', a)) : still s (c :: cs) = ((a.length : Int) :: a) ++ still s' cs := by
  show PyFlat.told ((Rc99Neutral.step s (PyRc99.whole c)).2 :: PyFlat.played Rc99Neutral.step (Rc99Neutral.step s (PyRc99.whole c)).1 (cs.map PyRc99.whole)) = _
  rw [h]
  exact List.flatMap_cons
/-- what the loop begins with -/
theorem asked_start {ns : List Int} (h : PyRc99.answers_asked ns = true) : ∃ raw, PyFlat.calls PyRc99.shape ns.length ns = some raw ∧ PyInside.calls PyRc99.bound raw = true ∧ still {} raw = PyRc99.answers ns ∧ (PyRc99.answers ns).length ≤ 10000000 := by
  unfold PyRc99.answers_asked at h
  cases e : PyFlat.calls PyRc99.shape ns.length ns with
  | none =>
    rw [e] at h
    cases h
  | some raw =>
    rw [e] at h
    have h' : (((PyFlat.atMost 400 raw && PyInside.calls PyRc99.bound raw) && Rc99Neutral.asked (raw.map PyRc99.whole)) && PyFlat.short 10000000 (PyRc99.answers ns)) = true := h
    rw [Bool.and_eq_true, Bool.and_eq_true, Bool.and_eq_true] at h'
    refine ⟨raw, rfl, h'.1.1.2, ?_, of_decide_eq_true h'.2⟩
    unfold PyRc99.answers PyRc99.calls
    rw [e]
    rfl
end Qc
set_option Elab.async false
set_option linter.all false
set_option maxRecDepth 100000
set_option maxHeartbeats 1000000
namespace Qc
open PySem PySem.Spec PyProof.Rows L2
abbrev sAnswers : Stmt := top 57
theorem Df.imp {P : Program} {w : World} {K : PySem.W.Frag} {mg : Str → Option Value} {base : Heap} {k : Nat} {x : Str} {ps : List Str} {sp sp' : Sp} (D : Df P w K mg base k x ps sp) (h : ∀ vs H Q E, sp' vs H Q E → sp vs H Q E) : Df P w K mg base k x ps sp' := by
  obtain ⟨f, fd, h1, h2, h3, h4⟩ := D.ex
  exact ⟨f, fd, h1, h2, h3, h4.imp h⟩
def spListAt2 (K : PySem.W.Frag) : Sp := fun vs H Q _ => ∃ (ac : Addr) (ns : List Int) (n : Int) (i : Nat) (row : List Int), vs = [.ref ac, .int n, .int (i : Int)] ∧ SqL K H ac (ns.map V.int) ∧ RowIs ns n i row ∧
  ∀ (H' : Hp) (p : Addr), Same H H' → H p = none → H' p = some (.lst (row.map V.int)) → Q (.ref p) H'
def spSizeOf2 (K : PySem.W.Frag) : Sp := fun vs H Q _ => ∃ (ac : Addr) (ns : List Int) (n : Int) (i : Nat) (z : Int), vs = [.ref ac, .int n, .int (i : Int)] ∧ SqL K H ac (ns.map V.int) ∧ SizeIs ns n i z ∧ Q (.int z) H
theorem listAt2 {K : PySem.W.Frag} (vs : List V) (H : Hp) (Q : VK) (E : XK) (h : spListAt2 K vs H Q E) : spListAt K vs H Q E := by
  obtain ⟨ac, ns, n, i, row, e, hs, hr, q⟩ := h
  rcases hr with ⟨w, rfl⟩ | ⟨w, m, h1, h2, rfl⟩
  · exact ⟨ac, ns, n, i, e, hs, fun _ => q, fun z => (by rw [w] at z; cases z)⟩
  · exact ⟨ac, ns, n, i, e, hs, fun z => (by rw [w] at z; cases z), fun _ => ⟨m, h1, h2, q⟩⟩
theorem sizeOf2 {K : PySem.W.Frag} (vs : List V) (H : Hp) (Q : VK) (E : XK) (h : spSizeOf2 K vs H Q E) : spSizeOf K vs H Q E := by
  obtain ⟨ac, ns, n, i, z, e, hs, hr, q⟩ := h
  rcases hr with ⟨w, rfl⟩ | ⟨w, m, h1, rfl⟩
  · exact ⟨ac, ns, n, i, e, hs, fun _ => q, fun z => (by rw [w] at z; cases z)⟩
  · exact ⟨ac, ns, n, i, e, hs, fun z => (by rw [w] at z; cases z), fun _ => ⟨m, h1, q⟩⟩
def spAnswers (K : PySem.W.Frag) : Sp := fun vs H Q _ => ∃ (ac : Addr) (ns : List Int), vs = [.ref ac] ∧ SqL K H ac (ns.map V.int) ∧ PyRc99.answers_asked ns = true ∧
  ∀ (H' : Hp) (p : Addr), H' p = some (.lst ((PyRc99.answers ns).map V.int)) → Q (.ref p) H'
/-- found.append(len(one)); found.extend(one); at = behind + size_of_list(calls, number, behind) -/
def tTail (K : PySem.W.Frag) : TS :=
  tSeq (tDrop (tBM K "list" rAppend (tVar 2) (tCons (tCB (fun xs H Q => ∃ p ys, xs = [.ref p] ∧ (SqL K H p ys ∨ SqT K H p ys) ∧ Q (.int ys.length) H) (tCons (tVar 7) tNil)) tNil)))
    (tSeq (tDrop (tBM K "list" rExtend (tVar 2) (tCons (tVar 7) tNil)))
    (tAsg (tOp (rI0 fun i j => .int (i + j)) (tVar 5) (tCall (spSizeOf2 K) [] E0 (tCons (tVar 0) (tCons (tVar 4) (tCons (tVar 5) tNil))))) (gName 3)))
theorem line_big {n : Nat} (h : n ≤ 10000000) : n < sizeLine := Nat.lt_of_le_of_lt h (by decide)
theorem tail_ok {K : PySem.W.Frag} {D : Ends} {H : Hp} {ac kp fo q rr : Addr} {ns out ans : List Int} {i b : Nat} {p z : Int} (hS : ∀ H' : Hp, (∀ c, c ≠ fo → H' c = H c) → SqL K H' ac (ns.map V.int)) (hf : H fo = some (.lst (out.map V.int))) (hq : H q = some (.lst (ans.map V.int))) (hne : q ≠ fo)
    (hsz : out.length + 1 + ans.length ≤ 10000000) (hz : SizeIs ns p b z)
    (k : ∀ H' : Hp, (∀ c, c ≠ fo → H' c = H c) → H' fo = some (.lst ((out ++ ((ans.length : Int) :: ans)).map V.int)) → D.nx [some (.ref ac), some (.ref kp), some (.ref fo), some (.int ((b : Int) + z)), some (.int p), some (.int (b : Int)), some (.ref rr), some (.ref q)] H') :
    tTail K D [some (.ref ac), some (.ref kp), some (.ref fo), some (.int (i : Int)), some (.int p), some (.int (b : Int)), some (.ref rr), some (.ref q)] H := by
  have eL : (out.map V.int).length = out.length := List.length_map _
  have eA : (ans.map V.int).length = ans.length := List.length_map _
  refine ⟨_, rfl, .inl ⟨rfl, _, SqL.of hf⟩, _, rfl, q, _, rfl, .inl (SqL.of hq), fo, _, _, rfl, rfl, hf, by rw [eL]; exact line_big (by omega), ?_⟩
  refine ⟨_, rfl, .inl ⟨rfl, _, SqL.of upd_same⟩, _, rfl, fo, q, _, _, rfl, rfl, upd_same, by rw [upd_ne hne]; exact hq, ?_, ?_⟩
  · rw [List.length_append, eL, eA]
    exact Nat.le_of_lt (line_big (by show out.length + 1 + ans.length ≤ 10000000; exact hsz))
  have other : ∀ c, c ≠ fo → (upd (upd H fo (.lst (out.map V.int ++ [.int (((ans.map V.int).length : Nat) : Int)]))) fo (.lst ((out.map V.int ++ [.int (((ans.map V.int).length : Nat) : Int)]) ++ ans.map V.int))) c = H c := fun c hc => by
    rw [upd_ne hc, upd_ne hc]
  refine ⟨_, rfl, _, rfl, _, rfl, _, rfl, ac, ns, p, b, z, rfl, hS _ other, hz, _, _, rfl, rfl, ?_⟩
  refine k _ other ?_
  rw [upd_same, List.map_append, List.map_cons, eA, List.append_assoc]
  rfl
theorem out_fits {out rest all : List Int} {a : List Int} {m : Nat} (h : out ++ (((a.length : Int) :: a) ++ rest) = all) (hm : all.length ≤ m) : out.length + 1 + a.length ≤ m := by
  rw [← h, List.length_append, List.length_append, List.length_cons] at hm
  omega
theorem upd_none {H : Hp} {p q : Addr} {o : HO} (h : (upd H p o) q = none) : H q = none := by
  by_cases e : q = p
  · rw [e, upd_same] at h
    cases h
  · rw [upd_ne e] at h
    exact h
/-- an address that the list of the curves does not hold -/
def Apart (fo L : Addr) (H : Hp) : Prop := ∀ items, H L = some (.lst items) → ¬ V.ref fo ∈ items
theorem KeepAt.apart_new {C : Addr} {H : Hp} {kp L fo : Addr} {s : Rc99.Abs} (K : KeepAt C H kp L s) (h : H fo = none) : Apart fo L H := by
  intro items e hm
  obtain ⟨cs, h2, _, h4⟩ := K.cs
  rw [h2] at e
  cases e
  obtain ⟨d, hd, ed⟩ := List.mem_map.mp hm
  cases ed
  obtain ⟨j, hj, ej⟩ := List.mem_iff_getElem.mp hd
  obtain ⟨f, _, e2⟩ := h4 j fo (by rw [List.getElem?_eq_getElem hj, ej])
  rw [h] at e2
  cases e2
theorem Apart.but {fo L : Addr} {H H' : Hp} (a : Apart fo L H) (sb : SameBut L H H') {items : List V} (hL : H L = some (.lst items)) (hf : H fo ≠ none) : Apart fo L H' := by
  intro items' e hm
  obtain ⟨i2, e2, h2⟩ := sb.2 items hL
  rw [e2] at e
  cases e
  rcases h2 fo hm with h | h
  · exact a items hL h
  · exact hf h
theorem Apart.same {fo L : Addr} {H H' : Hp} (a : Apart fo L H) (s : Same H H') {items : List V} (hL : H L = some (.lst items)) : Apart fo L H' := by
  intro items' e hm
  rw [s _ _ hL] at e
  cases e
  exact a items hL hm
theorem KeepAt.other {C : Addr} {H H' : Hp} {kp L fo : Addr} {s : Rc99.Abs} (K : KeepAt C H kp L s) {ns : List Int} (hf : H fo = some (.lst (ns.map V.int))) (a : Apart fo L H) (h : ∀ c, c ≠ fo → H' c = H c) : KeepAt C H' kp L s ∧ Apart fo L H' := by
  obtain ⟨dx, h1⟩ := K.ins
  obtain ⟨cs, h2, h3, h4⟩ := K.cs
  have n1 : kp ≠ fo := ne_of h1 hf (by intro z; cases z)
  have n2 : L ≠ fo := fun e => K.ne hf e.symm
  refine ⟨⟨⟨dx, by rw [h _ n1]; exact h1⟩, ⟨cs, by rw [h _ n2]; exact h2, h3, fun j c hc => ?_⟩, K.len, K.good⟩, fun items e hm => ?_⟩
  · obtain ⟨f, e1, e2⟩ := h4 j c hc
    refine ⟨f, e1, ?_⟩
    rw [h c]
    · exact e2
    · intro e
      subst e
      exact a _ h2 (List.mem_map.mpr ⟨c, List.mem_of_getElem? hc, rfl⟩)
  · rw [h _ n2] at e
    exact a items e hm
theorem KeepAt.lst {C : Addr} {H : Hp} {kp L : Addr} {s : Rc99.Abs} (K : KeepAt C H kp L s) : ∃ items, H L = some (.lst items) := by
  obtain ⟨cs, h2, _⟩ := K.cs
  exact ⟨_, h2⟩
section
variable {P : Program} {w : World} {K : PySem.W.Frag} {mg : Str → Option Value} {base : Heap} {C : Addr}
theorem scAnswers : FnScope ["calls", "keeper", "found", "at", "number", "behind", "row", "one"] ["calls"] (defScope sAnswers) := ⟨rfl, rfl, rfl, by decide +kernel, rfl, by decide +kernel, by decide +kernel⟩
theorem ok_answers {fI f : Addr} {fdI fd : FuncData} {aN : Addr} (T : KCls K mg C) (N : Cst mg) (mN : mg "NUMBERS" = some (.ref aN)) (hN : ∀ H, SqT K H aN (NUMS.map V.int)) (F : Fun K "answers" "answers" sAnswers f fd)
    (M : Mk K C fI) (GI : FnOk P w K mg base CX0 2 fI fdI ["self"] (spKInit C)) (bI : Binds K fdI ["self"] [])
    (DL : Df P w K mg base 1 "list_at" ["calls", "number", "at"] (spListAt2 K)) (DZ : Df P w K mg base 1 "size_of_list" ["calls", "number", "at"] (spSizeOf2 K)) (DA : Df P w K mg base 6 "answer" ["keeper", "number", "given", "row"] (spAnswer C)) :
    FnOk P w K mg base CX0 7 f fd ["calls"] (spAnswers K) := by
  refine F.ok scAnswers (fun vs H Q E ⟨_, _, h, _⟩ => by rw [h]; rfl) (fun cdv A outer s H vs Q E hr h => ?_)
  obtain ⟨ac, ns, rfl, hS, hask, k⟩ := h
  obtain ⟨raw0, r1, r2, r3, r4⟩ := asked_start hask
  have hr1 : Room 1 _ := hr.mono (by decide)
  have hr3 : Room 3 _ := hr.mono (by decide)
  refine ⟨_, (pss_cons (ps_set (i := 1) scAnswers.nd rfl (Or.inl rfl) (pe_make0 M GI hr3 rfl T.mgC bI .nil pass0))
      (pss_cons (ps_set (i := 2) scAnswers.nd rfl (Or.inl rfl) (pe_lst pa_nil))
      (pss_cons (ps_set (i := 3) scAnswers.nd rfl (Or.inl rfl) pe_int)
      (pss_cons (ps_while PassesOwn.never (pt_cmpR op_lt (pv 3) (pe_callB call_len_seq (by rfl) N.len PySem.boot_len (pa_cons (pv 0) pa_nil)) (nomark _)) (pss_cons (ps_set (i := 4) scAnswers.nd rfl (Or.inl rfl) (pe_at K (pv 0) (pv 3)))
      (pss_cons (ps_set (i := 5) scAnswers.nd rfl (Or.inl rfl) (pe_op op_add (pe_op op_add (pv 3) pe_int) (pe_ix ix_tup (pe_glob (v := .ref aN) rfl mN rfl) (pv 4) (fun _ _ => rfl))))
      (pss_cons (ps_set (i := 6) scAnswers.nd rfl (Or.inl rfl) (pe_df DL hr1 (pa_cons (pv 0) (pa_cons (pv 4) (pa_cons (pv 5) pa_nil)))))
      (pss_cons (ps_if (pt_cmpR op_eq (pv 4) (pe_k N.BEGIN) (nomark _)) (pss_cons (ps_set (i := 1) scAnswers.nd rfl (Or.inl rfl) (pe_make0 M GI hr3 rfl T.mgC bI .nil pass0))
      (pss_one (ps_set (i := 7) scAnswers.nd rfl (Or.inl rfl) (pe_lst (pa_cons pe_int pa_nil))))) (pss_one (ps_set (i := 7) scAnswers.nd rfl (Or.inl rfl) (pe_df DA hr (pa_cons (pv 1) (pa_cons (pv 4) (pa_cons (pe_slice sl_list (pv 0) (po_some (pe_op op_add (pv 3) pe_int)) (po_some (pv 5))) (pa_cons (pv 6) pa_nil))))))))
      (pss_cons (ps_expr (pe_bm PySem.F.plainAttrs_list PySem.F.slot_list_append PySem.F.type_list_append mt_append (pv 2) (pa_cons (pe_callB call_len_seq (by rfl) N.len PySem.boot_len (pa_cons (pv 7) pa_nil)) pa_nil)))
      (pss_cons (ps_expr (pe_bm PySem.F.plainAttrs_list PySem.F.slot_list_extend PySem.F.type_list_extend mt_extend (pv 2) (pa_cons (pv 7) pa_nil)))
      (pss_one (ps_set (i := 3) scAnswers.nd rfl (Or.inl rfl) (pe_op op_add (pv 5) (pe_df DZ hr1 (pa_cons (pv 0) (pa_cons (pv 4) (pa_cons (pv 5) pa_nil))))))))))))))
      (pss_one (ps_ret (pv 2))))))), ?_⟩
  -- keeper = Keeper(); found = []; at = 0
  intro x dx nx nd ne
  refine ⟨x, dx, rfl, upd_same, fun H1 L K1 kp1 nL _ => ⟨rfl, ?_⟩⟩
  have s1 : Same H H1 := Same.made nx nd kp1
  have nL0 : H L = none := upd_none (upd_none nL)
  refine ⟨Nat.zero_le _, fun fo hfo => ?_⟩
  have nfo0 : H fo = none := s1.free hfo
  refine while_by (fun σ H' => ∃ (kp L : Addr) (st : Rc99.Abs) (i fuel : Nat) (raw : List (List (List Int))) (out : List Int) (v4 v5 v6 v7 : Option V), σ = [some (.ref ac), some (.ref kp), some (.ref fo), some (.int (i : Int)), v4, v5, v6, v7] ∧ Same H H' ∧ H L = none ∧ KeepAt C H' kp L st ∧ Apart fo L H' ∧
      H' fo = some (.lst (out.map V.int)) ∧ i ≤ ns.length ∧ PyFlat.calls PyRc99.shape fuel (ns.drop i) = some raw ∧ PyInside.calls PyRc99.bound raw = true ∧ out ++ still st raw = PyRc99.answers ns)
    (fun σ _ => match σ with | [_, _, _, some (.int i), _, _, _, _] => ns.length - i.toNat | _ => 0) ?_ ?_ ?_
  · refine ⟨x, L, {}, 0, ns.length, raw0, [], none, none, none, none, rfl, Same.trans s1 (same_upd hfo), nL0, K1.same (same_upd hfo), K1.lst.elim fun _ e => (K1.apart_new hfo).same (same_upd hfo) e, upd_same, Nat.zero_le _, r1, r2, ?_⟩
    rw [List.nil_append]
    exact r3
  · rintro σ H2 ⟨kp, L, st, i, fuel, raw, out, v4, v5, v6, v7, rfl, s2, nL2, K2, ap2, hf, hi, p1, p2, p3⟩
    have hS2 := s2.seq hS
    refine ⟨_, rfl, _, rfl, ac, _, rfl, .inl hS2, _, _, rfl, rfl, _, rfl, ite2 (fun e => ?_) (fun e => ?_)⟩
    · have e := of_decide_eq_true e
      have hi' : i < ns.length := by
        rw [List.length_map] at e
        omega
      obtain ⟨p, n, c, cs, fuel', j, row, z, rfl, gp, pb, pn, hle, hrow, hsz, hj, hij, hjl, pc, pb2, hr32, hr0, hst⟩ := turn_of hi' p1 p2
      have eb : ((i : Int) + 1) + (n : Int) = ((i + 1 + n : Nat) : Int) := by omega
      -- number, behind
      refine ⟨_, rfl, _, rfl, ac, _, _, _, rfl, rfl, hS2, at_of (j := i) rfl (by rw [List.getElem?_map, gp]; rfl), ?_⟩
      refine ⟨_, rfl, _, _, rfl, rfl, _, rfl, aN, _, _, _, rfl, rfl, hN _, at_of (j := p.toNat) (by omega) (by rw [List.getElem?_map, pn]; rfl), _, _, rfl, rfl, ?_⟩
      show tSeq _ _ _ [some (.ref ac), some (.ref kp), some (.ref fo), some (.int (i : Int)), some (.int p), some (.int (((i : Int) + 1) + (n : Int))), v6, v7] H2
      rw [eb]
      -- row = list_at(calls, number, behind)
      refine ⟨_, rfl, _, rfl, _, rfl, ac, ns, p, i + 1 + n, row, rfl, hS2, hrow, fun H3 rr s3 nrr er => ?_⟩
      have hR : iv (row.map Int.toNat) = row := iv_toNat row hr0
      have sA := Same.trans s2 s3
      have hf3 := s3 _ _ hf
      have K3 := K2.same s3
      obtain ⟨it2, hL2⟩ := K2.lst
      have ap3 : Apart fo L H3 := ap2.same s3 hL2
      have tr3 : H3 fo ≠ none := by rw [hf3]; intro z; cases z
      have calls : ∀ {Hx : Hp}, Same H Hx → ∀ H' : Hp, (∀ c, c ≠ fo → H' c = Hx c) → SqL K H' ac (ns.map V.int) := fun {Hx} sx H' oth => Same.seq (fun b o e => by rw [oth b (ne_of_none e nfo0)]; exact sx b o e) hS
      refine ⟨_, rfl, rfl, _, rfl, ite2 (fun e0 => ?_) (fun e0 => ?_)⟩
      · -- begin: keeper = Keeper(); one = [0]
        have e0 : p = 0 := V.int.inj (of_decide_eq_true e0)
        rcases hst with ⟨_, hstep⟩ | ⟨z, _⟩
        case inr => exact absurd e0 z
        intro x2 dx2 nx2 nd2 ne2
        refine ⟨x2, dx2, rfl, upd_same, fun H4 L4 K4 kp4 nL4 new4 => ⟨rfl, ?_⟩⟩
        have s4 : Same H3 H4 := Same.made nx2 nd2 kp4
        have nL40 : H3 L4 = none := upd_none (upd_none nL4)
        have hf4 := s4 _ _ hf3
        have ap4 : Apart fo L4 H4 := fun items ei hm => tr3 (upd_none (upd_none (new4 items ei fo hm)))
        refine ⟨small_le (by decide), fun q hq => ?_⟩
        have s5 := same_upd (o := .lst [.int 0]) hq
        obtain ⟨it4, hL4⟩ := K4.lst
        have ap5 := ap4.same s5 hL4
        have hf5 := s5 _ _ hf4
        have p4 : out ++ ((((([0] : List Int).length : Nat) : Int) :: [0]) ++ still {} cs) = PyRc99.answers ns := by rw [← still_cons st c cs (hstep st)]; exact p3
        have sH := Same.trans (Same.trans sA s4) s5
        refine tail_ok (ans := [0]) (calls sH) hf5 upd_same (fun e => by rw [e, hf4] at hq; cases hq) (out_fits p4 r4) hsz fun H' oth hfo' => ?_
        obtain ⟨K6, ap6⟩ := (K4.same s5).other hf5 ap5 oth
        refine ⟨⟨x2, L4, {}, j, fuel', cs, out ++ ((([0] : List Int).length : Int) :: [0]), _, _, _, _, by rw [hj], fun b o e => by rw [oth b (ne_of_none e nfo0)]; exact sH b o e, sA.free nL40, K6, ap6, hfo', hjl, pc, pb2, by rw [List.append_assoc]; exact p4⟩, ?_⟩
        show ns.length - ((((i + 1 + n : Nat) : Int) + z).toNat) < ns.length - ((i : Int).toNat)
        rw [hj]
        omega
      · -- one = answer(keeper, number, calls[at + 1:behind], row)
        have e0 : ¬ p = 0 := fun z => e0 (decide_eq_true (congrArg V.int z))
        rcases hst with ⟨z, _⟩ | ⟨_, call, hci, hstep⟩
        case inl => exact absurd z e0
        refine ⟨_, rfl, _, rfl, _, rfl, _, rfl, _, _, rfl, rfl, _, rfl, _, rfl, _, rfl, ac, _, rfl, sA.seq hS, fun ag hag => ?_⟩
        rw [cut_mid ns (i + 1) n hle (by omega) rfl]
        have s4 := same_upd (o := .lst (((ns.drop (i + 1)).take n).map V.int)) hag
        have K4 := K3.same s4
        have tr4 : (upd H3 ag (.lst (((ns.drop (i + 1)).take n).map V.int))) fo ≠ none := by rw [s4 _ _ hf3]; intro z; cases z
        obtain ⟨it3, hL3⟩ := K3.lst
        obtain ⟨it4, hL4⟩ := K4.lst
        have ap4 := ap3.same s4 hL3
        have er4 : (upd H3 ag (.lst (((ns.drop (i + 1)).take n).map V.int))) rr = some (LL (row.map Int.toNat)) := by
          unfold LL
          rw [hR]
          exact s4 _ _ er
        have sB := Same.trans sA s4
        refine ⟨_, rfl, kp, L, st, p, (ns.drop (i + 1)).take n, ag, rr, row.map Int.toNat, call, rfl, K4, upd_same, er4, by rw [List.length_map]; exact hr32, hci, fun H5 q sb K5 nq hq => ?_⟩
        have hf5 : H5 fo = some (.lst (out.map V.int)) := sb.1 _ _ (s4 _ _ hf3) (K4.ne (s4 _ _ hf3))
        have ap5 := ap4.but sb hL4 tr4
        have sH : Same H H5 := fun b o e => sb.1 b o (sB b o e) (ne_of_none e nL2)
        have p4 : out ++ ((((ansOf (Rc99.does st call).2).length : Int) :: ansOf (Rc99.does st call).2) ++ still (Rc99.does st call).1 cs) = PyRc99.answers ns := by rw [← still_cons st c cs (hstep st)]; exact p3
        refine tail_ok (ans := ansOf (Rc99.does st call).2) (calls sH) hf5 hq (fun e => by rw [e] at nq; exact tr4 nq) (out_fits p4 r4) hsz fun H' oth hfo' => ?_
        obtain ⟨K6, ap6⟩ := K5.other hf5 ap5 oth
        refine ⟨⟨kp, L, (Rc99.does st call).1, j, fuel', cs, out ++ (((ansOf (Rc99.does st call).2).length : Int) :: ansOf (Rc99.does st call).2), _, _, _, _, by rw [hj], fun b o e => by rw [oth b (ne_of_none e nfo0)]; exact sH b o e, nL2, K6, ap6, hfo', hjl, pc, pb2, by rw [List.append_assoc]; exact p4⟩, ?_⟩
        show ns.length - ((((i + 1 + n : Nat) : Int) + z).toNat) < ns.length - ((i : Int).toNat)
        rw [hj]
        omega
    · -- the end: return found
      have e := dec_not e
      rw [List.length_map] at e
      have ei : i = ns.length := by omega
      rw [ei, List.drop_length] at p1
      have er := calls_nil p1
      rw [er, still_nil, List.append_nil] at p3
      refine ⟨_, rfl, k _ fo ?_⟩
      rw [← p3]
      exact hf
  · rintro σ H' Q1 Q2 hQ ⟨v, e1, v2, e2, p, ys, e3, e4, a, b, e5, e6, c, e7, q⟩
    exact ⟨v, e1, v2, e2, p, ys, e3, e4, a, b, e5, e6, c, e7, hQ _ _ q⟩
end
end Qc
set_option Elab.async false
set_option linter.all false
set_option maxRecDepth 100000
set_option maxHeartbeats 1000000
namespace Qc
open PySem PySem.Spec PyProof.Rows L2
theorem fd_mk {K : PySem.W.Frag} {h : Heap} {mg : Str → Option Value} (X : K.In h) (G : h.Ns mainGlobals mg) {x : Str} {st : Stmt} {f : Addr} {od an : Option Addr} {sl : Array (Option Value)} {oc kV dc pm cd ct : Value}
    (a : PySem.W.nsIn K mainGlobals x = some (some (.ref f))) (l : K.lookup f = some ⟨oc, od, .func (PySem.W.fnOf x x (defArgs st) (defBody st) (defScope st) .none kV dc pm an cd ct), sl⟩) (c : PySem.W.codeIn K cd x = true) (k : PySem.W.keepIn K (.ref f) = true) : Fd K mg x st :=
  ⟨f, _, PySem.W.mg_of X G a, fun_mk l c k⟩
theorem md_mk {K : PySem.W.Frag} {C : Addr} {x qual : Str} {st : Stmt} {f : Addr} {od an : Option Addr} {sl : Array (Option Value)} {oc kV dc pm cd ct : Value}
    (a : PySem.W.findIn K (.ref C) x = some (some (.ref f))) (i : PySem.W.isFn K (.ref f) = true) (l : K.lookup f = some ⟨oc, od, .func (PySem.W.fnOf x qual (defArgs st) (defBody st) (defScope st) .none kV dc pm an cd ct), sl⟩) (c : PySem.W.codeIn K cd qual = true) (k : PySem.W.keepIn K (.ref f) = true) : Md K C x qual st :=
  ⟨f, _, ⟨a, i, k⟩, fun_mk l c k⟩
/-- the class's __init__ -/
structure Ki (K : PySem.W.Frag) (C : Addr) : Prop where
  ex : ∃ (f : Addr) (fd : FuncData), Mk K C f ∧ Fun K "__init__" "Keeper.__init__" sKInit f fd
theorem ki_mk {K : PySem.W.Frag} {C : Addr} {f : Addr} {od an : Option Addr} {sl : Array (Option Value)} {oc kV dc pm cd ct : Value}
    (a : PySem.W.findIn K (.ref C) "__init__" = some (some (.ref f))) (i : PySem.W.isFn K (.ref f) = true) (l : K.lookup f = some ⟨oc, od, .func (PySem.W.fnOf "__init__" "Keeper.__init__" (defArgs sKInit) (defBody sKInit) (defScope sKInit) .none kV dc pm an cd ct), sl⟩) (c : PySem.W.codeIn K cd "Keeper.__init__" = true) (k : PySem.W.keepIn K (.ref f) = true)
    (mk : PySem.W.makesIn K C = true) (kc : PySem.W.keepIn K (.ref C) = true) : Ki K C := ⟨f, _, ⟨mk, a, i, kc⟩, fun_mk l c k⟩
theorem kc_mk {K : PySem.W.Frag} {h : Heap} {mg : Str → Option Value} {C : Addr} (X : K.In h) (G : h.Ns mainGlobals mg) (aC : PySem.W.nsIn K mainGlobals "Keeper" = some (some (.ref C))) (pg : PySem.W.plainGet K C Str.empty = true) (hd : PySem.W.hasDictIn K C = true) (po : PySem.W.plainOver K C = true)
    (sa : PySem.W.findIn K (.ref C) "__setattr__" = some (some (.builtin "object.__setattr__"))) (nC : PySem.W.findIn K (.ref C) "curves" = some none) : KCls K mg C := ⟨⟨pg, hd, po, sa⟩, nC, PySem.W.mg_of X G aC⟩
theorem ct_mk {K : PySem.W.Frag} {h : Heap} {mg : Str → Option Value} (X : K.In h) (G : h.Ns mainGlobals mg) {x : Str} {z : Int} {t : Nat} (a : PySem.W.nsIn K mainGlobals x = some (some (.int z t))) : ∃ t, mg x = some (.int z t) := ⟨t, PySem.W.mg_of X G a⟩
/-- a tuple of the top -/
structure Tp (K : PySem.W.Frag) (mg : Str → Option Value) (x : Str) (xs : List V) : Prop where
  ex : ∃ a : Addr, mg x = some (.ref a) ∧ ∀ H, SqT K H a xs
theorem tp_mk {K : PySem.W.Frag} {h : Heap} {mg : Str → Option Value} (X : K.In h) (G : h.Ns mainGlobals mg) {x : Str} {xs : List V} {a : Addr} {od : Option Addr} {its : Array Value} {n : Nat} {sl : Array (Option Value)} (e : PySem.W.nsIn K mainGlobals x = some (some (.ref a)))
    (l : K.lookup a = some ⟨.type "tuple", od, .seq its n, sl⟩) (hs : its.size ≤ sizeLine) (hv : Vals xs its.toList) : Tp K mg x xs := ⟨a, PySem.W.mg_of X G e, fun _ => .inr ⟨_, its, n, l, rfl, rfl, hs, hv⟩⟩
theorem all_mk {P : Program} {w : World} {K : PySem.W.Frag} {mg : Str → Option Value} {fa C : Addr} (hfa : mg "answers" = some (.ref fa)) (N : Cst mg) (T : KCls K mg C) (I : Ki K C) (TN : Tp K mg "NUMBERS" (NUMS.map V.int)) (TW : Tp K mg "WITH_LIST" [.int 3, .int 9, .int 10])
    (F_times : Fd K mg "times" sTimes) (F_nothing : Fd K mg "nothing" sNothing) (F_line : Fd K mg "line" sLine) (F_rate : Fd K mg "rate" sRate) (F_least : Fd K mg "least" sLeast) (F_total : Fd K mg "total" sTotal) (F_after : Fd K mg "after" sAfter) (F_left_at : Fd K mg "left_at" sLeftAt) (F_left : Fd K mg "left" sLeft) (F_over_at : Fd K mg "over_at" sOverAt) (F_over : Fd K mg "over" sOver) (F_closing : Fd K mg "closing" sClosing) (F_made : Fd K mg "made" sMade) (F_is_less : Fd K mg "is_less" sIsLess) (F_most_above : Fd K mg "most_above" sMostAbove) (F_delay_at : Fd K mg "delay_at" sDelayAt) (F_latest : Fd K mg "latest" sLatest) (F_is_flow : Fd K mg "is_flow" sIsFlow) (F_come_by : Fd K mg "come_by" sComeBy) (F_keeps_to : Fd K mg "keeps_to" sKeepsTo) (F_gone_by : Fd K mg "gone_by" sGoneBy) (F_held_back : Fd K mg "held_back" sHeldBack) (F_is_curve : Fd K mg "is_curve" sIsCurve) (F_set_line : Fd K mg "set_line" sSetLine) (F_set_rate : Fd K mg "set_rate" sSetRate) (F_is_row : Fd K mg "is_row" sIsRow) (F_set_row : Fd K mg "set_row" sSetRow) (F_make : Fd K mg "make" sMake) (F_value : Fd K mg "value" sValue) (F_late : Fd K mg "late" sLate) (F_compared : Fd K mg "compared" sCompared) (F_fits : Fd K mg "fits" sFits) (F_shape : Fd K mg "shape" sShape) (F_answer : Fd K mg "answer" sAnswer) (F_list_at : Fd K mg "list_at" sListAt) (F_size_of_list : Fd K mg "size_of_list" sSizeOf) (F_answers : Fd K mg "answers" sAnswers)
    (M_curve : Md K C "curve" "Keeper.curve" sKCurve) (M_keep : Md K C "keep" "Keeper.keep" sKKeep) (M_make : Md K C "make" "Keeper.make" sKMake) (M_less : Md K C "less" "Keeper.less" sKLess) (M_most : Md K C "most" "Keeper.most" sKMost) (M_late : Md K C "late" "Keeper.late" sKLate) :
    ∃ fd : FuncData, (∀ (s : Shared) (us : List Value), us.length = (["calls"] : List Str).length → BindsTo s fd ⟨us, []⟩ ((["calls"] : List Str).zip us)) ∧ ∀ base : Heap, K.In base → base.Ns mainGlobals mg → FnOk P w K mg base CX0 7 fa fd ["calls"] (spAnswers K) := by
  obtain ⟨aN, mN, hN⟩ := TN.ex
  obtain ⟨aW, mW, hW⟩ := TW.ex
  obtain ⟨fI, fdI, hM, hI⟩ := I.ex
  obtain ⟨f, fd, h1, h2⟩ := F_answers.ex
  rw [hfa] at h1
  cases h1
  obtain ⟨oc, od, kV, doc, pm, an, cdv, ct, osl, rfl, lk, hcd⟩ := h2.ex
  refine ⟨PySem.W.fnOf "answers" "answers" (defArgs sAnswers) (defBody sAnswers) (defScope sAnswers) .none kV doc pm an cdv ct, fun s us hu => match us, hu with | [_], _ => .of_eq rfl, fun base _ _ => ?_⟩
  have D_times := ok_times (P := P) (w := w) (base := base) N F_times
  have D_nothing := ok_nothing (P := P) (w := w) (base := base) N F_nothing
  have D_line := ok_line (P := P) (w := w) (base := base) N F_line
  have D_rate := ok_rate N F_rate D_times
  have D_least := ok_least (P := P) (w := w) (base := base) N F_least
  have D_total := ok_total (P := P) (w := w) (base := base) N F_total
  have D_after := ok_after N F_after D_times
  have D_left_at := ok_left_at (P := P) (w := w) (base := base) N F_left_at
  have D_left := ok_left N F_left D_left_at
  have D_over_at := ok_over_at (P := P) (w := w) (base := base) N F_over_at
  have D_over := ok_over N F_over D_times D_over_at
  have D_closing := ok_closing (P := P) (w := w) (base := base) N F_closing
  have D_made := ok_made N F_made D_least D_total D_after D_left D_over D_closing
  have D_is_less := ok_is_less (P := P) (w := w) (base := base) N F_is_less
  have D_most_above := ok_most_above (P := P) (w := w) (base := base) N F_most_above
  have D_delay_at := ok_delay_at (P := P) (w := w) (base := base) N F_delay_at
  have D_latest := ok_latest N F_latest D_times D_delay_at
  have D_is_flow := ok_is_flow (P := P) (w := w) (base := base) N F_is_flow
  have D_come_by := ok_come_by (P := P) (w := w) (base := base) N F_come_by
  have D_keeps_to := ok_keeps_to N F_keeps_to D_come_by
  have D_gone_by := ok_gone_by N F_gone_by D_come_by D_closing
  have D_held_back := ok_held_back N F_held_back D_gone_by
  have D_is_curve := ok_is_curve (P := P) (w := w) (K := K) (base := base) N F_is_curve
  have G_init := ok_kinit T N hI D_nothing
  have b_init := hI.binds (ps := ["self"]) fun _ _ _ _ _ _ us hl => match us, hl with | [_], _ => rfl
  have E_curve := ok_kcurve (P := P) (w := w) (base := base) T M_curve
  have E_keep := ok_kkeep (P := P) (w := w) (base := base) T M_keep
  have E_make := ok_kmake T N M_make D_made E_keep
  have E_less := ok_kless T M_less D_is_less
  have E_most := ok_kmost T M_most D_most_above
  have E_late := ok_klate T M_late D_latest
  have D_set_line := ok_set_line T N F_set_line D_is_curve D_line E_keep
  have D_set_rate := ok_set_rate T N F_set_rate D_is_curve D_rate E_keep
  have D_is_row := ok_is_row (P := P) (w := w) (base := base) N F_is_row
  have D_set_row := ok_set_row T N F_set_row D_is_curve D_is_row E_keep
  have D_make := ok_make T N F_make D_is_curve E_make
  have D_value := ok_value T N F_value D_is_curve E_curve
  have D_late := ok_late T N F_late E_late
  have D_compared := ok_compared T N F_compared D_is_curve E_less E_most D_late
  have D_fits := ok_fits T N F_fits D_is_curve D_is_flow D_keeps_to E_curve
  have D_shape := ok_shape T N F_shape D_is_curve D_is_flow D_held_back E_curve
  have D_answer := ok_answer T N F_answer D_set_line D_set_rate D_set_row D_make D_value D_fits D_shape D_compared
  have D_list_at := (ok_list_at (P := P) (w := w) (base := base) mW hW F_list_at).imp listAt2
  have D_size := (ok_size_of (P := P) (w := w) (base := base) mW hW F_size_of_list).imp sizeOf2
  exact ok_answers T N mN hN h2 hM G_init b_init D_list_at D_size D_answer
end Qc
set_option Elab.async false
set_option linter.all false
set_option maxRecDepth 100000
open PySem PySem.W PyProof.Rows
set_option maxRecDepth 100000 in
set_option maxHeartbeats 0 in
theorem PySem.Challenge.cw_queuecurves_s01_answers_holds : PySem.Challenge.rw_queuecurves_s01_answers.Holds := by
  w_on; k_headS; (case hw => exact ⟨[.list []], by decide +kernel, by decide +kernel⟩)
  k_fillS
  refine L2.walk_specK (r := PySem.Challenge.rw_queuecurves_s01_answers) (k := 7) (CX := L2.CX0) (ps := ["calls"]) (sp := Qc.spAnswers) (by decide +kernel) rfl rfl ⟨rfl, by decide, by decide⟩ (fun w h Y => PySem.W.kIn_of Y) ?F ?S (fun _ _ _ _ z => z)
  case F =>
    intro w mg fa h Y KX G hmg
    refine' Qc.all_mk hmg ⟨?C_LAST, ?C_MOST, ?C_CURVES, ?C_LEAST, ?C_SUM, ?C_AFTER, ?C_LEFT, ?C_OVER, ?C_CLOSING, ?C_SLOTSF, ?C_SLOTSD, ?C_OUT, ?C_CANNOT, ?C_BEGIN, ?B_list, ?B_range, ?B_max, ?B_min, ?B_zip, ?B_len, ?B_int⟩ ?T ?I ?TN ?TW ?F_times ?F_nothing ?F_line ?F_rate ?F_least ?F_total ?F_after ?F_left_at ?F_left ?F_over_at ?F_over ?F_closing ?F_made ?F_is_less ?F_most_above ?F_delay_at ?F_latest ?F_is_flow ?F_come_by ?F_keeps_to ?F_gone_by ?F_held_back ?F_is_curve ?F_set_line ?F_set_rate ?F_is_row ?F_set_row ?F_make ?F_value ?F_late ?F_compared ?F_fits ?F_shape ?F_answer ?F_list_at ?F_size_of_list ?F_answers ?M_curve ?M_keep ?M_make ?M_less ?M_most ?M_late
    case T =>
      refine' Qc.kc_mk KX G ?aC ?pg ?hd ?po ?sa ?nC
      (case aC => k_is); (case pg => k_is); (case hd => k_is); (case po => k_is); (case sa => k_is); (case nC => k_is)
    case I =>
      refine' Qc.ki_mk ?ia ?ii ?il ?ic ?ik ?im ?io
      (case ia => k_is); (case ii => k_is); (case il => k_is); (case ic => k_is); (case ik => k_is); (case im => k_is); (case io => k_is)
    case TN =>
      refine' Qc.tp_mk KX G ?ne ?nl ?ns ?nv
      (case ne => k_is); (case nl => k_is); (case ns => decide); (case nv => repeat (first | exact .nil | refine .cons ⟨_, rfl⟩ ?_))
    case TW =>
      refine' Qc.tp_mk KX G ?we ?wl ?ws ?wv
      (case we => k_is); (case wl => k_is); (case ws => decide); (case wv => repeat (first | exact .nil | refine .cons ⟨_, rfl⟩ ?_))
    case C_LAST => (refine' Qc.ct_mk KX G ?ca_LAST; (case ca_LAST => k_is))
    case C_MOST => (refine' Qc.ct_mk KX G ?ca_MOST; (case ca_MOST => k_is))
    case C_CURVES => (refine' Qc.ct_mk KX G ?ca_CURVES; (case ca_CURVES => k_is))
    case C_LEAST => (refine' Qc.ct_mk KX G ?ca_LEAST; (case ca_LEAST => k_is))
    case C_SUM => (refine' Qc.ct_mk KX G ?ca_SUM; (case ca_SUM => k_is))
    case C_AFTER => (refine' Qc.ct_mk KX G ?ca_AFTER; (case ca_AFTER => k_is))
    case C_LEFT => (refine' Qc.ct_mk KX G ?ca_LEFT; (case ca_LEFT => k_is))
    case C_OVER => (refine' Qc.ct_mk KX G ?ca_OVER; (case ca_OVER => k_is))
    case C_CLOSING => (refine' Qc.ct_mk KX G ?ca_CLOSING; (case ca_CLOSING => k_is))
    case C_SLOTSF => (refine' Qc.ct_mk KX G ?ca_SLOTSF; (case ca_SLOTSF => k_is))
    case C_SLOTSD => (refine' Qc.ct_mk KX G ?ca_SLOTSD; (case ca_SLOTSD => k_is))
    case C_OUT => (refine' Qc.ct_mk KX G ?ca_OUT; (case ca_OUT => k_is))
    case C_CANNOT => (refine' Qc.ct_mk KX G ?ca_CANNOT; (case ca_CANNOT => k_is))
    case C_BEGIN => (refine' Qc.ct_mk KX G ?ca_BEGIN; (case ca_BEGIN => k_is))
    case B_list => (refine' PySem.W.mg_none_of KX G ?ba_list; (case ba_list => k_is))
    case B_range => (refine' PySem.W.mg_none_of KX G ?ba_range; (case ba_range => k_is))
    case B_max => (refine' PySem.W.mg_none_of KX G ?ba_max; (case ba_max => k_is))
    case B_min => (refine' PySem.W.mg_none_of KX G ?ba_min; (case ba_min => k_is))
    case B_zip => (refine' PySem.W.mg_none_of KX G ?ba_zip; (case ba_zip => k_is))
    case B_len => (refine' PySem.W.mg_none_of KX G ?ba_len; (case ba_len => k_is))
    case B_int => (refine' PySem.W.mg_none_of KX G ?ba_int; (case ba_int => k_is))
    case F_times => (refine' Qc.fd_mk KX G ?fa_times ?fl_times ?fc_times ?fk_times; (case fa_times => k_is); (case fl_times => k_is); (case fc_times => k_is); (case fk_times => k_is))
    case F_nothing => (refine' Qc.fd_mk KX G ?fa_nothing ?fl_nothing ?fc_nothing ?fk_nothing; (case fa_nothing => k_is); (case fl_nothing => k_is); (case fc_nothing => k_is); (case fk_nothing => k_is))
    case F_line => (refine' Qc.fd_mk KX G ?fa_line ?fl_line ?fc_line ?fk_line; (case fa_line => k_is); (case fl_line => k_is); (case fc_line => k_is); (case fk_line => k_is))
    case F_rate => (refine' Qc.fd_mk KX G ?fa_rate ?fl_rate ?fc_rate ?fk_rate; (case fa_rate => k_is); (case fl_rate => k_is); (case fc_rate => k_is); (case fk_rate => k_is))
    case F_least => (refine' Qc.fd_mk KX G ?fa_least ?fl_least ?fc_least ?fk_least; (case fa_least => k_is); (case fl_least => k_is); (case fc_least => k_is); (case fk_least => k_is))
    case F_total => (refine' Qc.fd_mk KX G ?fa_total ?fl_total ?fc_total ?fk_total; (case fa_total => k_is); (case fl_total => k_is); (case fc_total => k_is); (case fk_total => k_is))
    case F_after => (refine' Qc.fd_mk KX G ?fa_after ?fl_after ?fc_after ?fk_after; (case fa_after => k_is); (case fl_after => k_is); (case fc_after => k_is); (case fk_after => k_is))
    case F_left_at => (refine' Qc.fd_mk KX G ?fa_left_at ?fl_left_at ?fc_left_at ?fk_left_at; (case fa_left_at => k_is); (case fl_left_at => k_is); (case fc_left_at => k_is); (case fk_left_at => k_is))
    case F_left => (refine' Qc.fd_mk KX G ?fa_left ?fl_left ?fc_left ?fk_left; (case fa_left => k_is); (case fl_left => k_is); (case fc_left => k_is); (case fk_left => k_is))
    case F_over_at => (refine' Qc.fd_mk KX G ?fa_over_at ?fl_over_at ?fc_over_at ?fk_over_at; (case fa_over_at => k_is); (case fl_over_at => k_is); (case fc_over_at => k_is); (case fk_over_at => k_is))
    case F_over => (refine' Qc.fd_mk KX G ?fa_over ?fl_over ?fc_over ?fk_over; (case fa_over => k_is); (case fl_over => k_is); (case fc_over => k_is); (case fk_over => k_is))
    case F_closing => (refine' Qc.fd_mk KX G ?fa_closing ?fl_closing ?fc_closing ?fk_closing; (case fa_closing => k_is); (case fl_closing => k_is); (case fc_closing => k_is); (case fk_closing => k_is))
    case F_made => (refine' Qc.fd_mk KX G ?fa_made ?fl_made ?fc_made ?fk_made; (case fa_made => k_is); (case fl_made => k_is); (case fc_made => k_is); (case fk_made => k_is))
    case F_is_less => (refine' Qc.fd_mk KX G ?fa_is_less ?fl_is_less ?fc_is_less ?fk_is_less; (case fa_is_less => k_is); (case fl_is_less => k_is); (case fc_is_less => k_is); (case fk_is_less => k_is))
    case F_most_above => (refine' Qc.fd_mk KX G ?fa_most_above ?fl_most_above ?fc_most_above ?fk_most_above; (case fa_most_above => k_is); (case fl_most_above => k_is); (case fc_most_above => k_is); (case fk_most_above => k_is))
    case F_delay_at => (refine' Qc.fd_mk KX G ?fa_delay_at ?fl_delay_at ?fc_delay_at ?fk_delay_at; (case fa_delay_at => k_is); (case fl_delay_at => k_is); (case fc_delay_at => k_is); (case fk_delay_at => k_is))
    case F_latest => (refine' Qc.fd_mk KX G ?fa_latest ?fl_latest ?fc_latest ?fk_latest; (case fa_latest => k_is); (case fl_latest => k_is); (case fc_latest => k_is); (case fk_latest => k_is))
    case F_is_flow => (refine' Qc.fd_mk KX G ?fa_is_flow ?fl_is_flow ?fc_is_flow ?fk_is_flow; (case fa_is_flow => k_is); (case fl_is_flow => k_is); (case fc_is_flow => k_is); (case fk_is_flow => k_is))
    case F_come_by => (refine' Qc.fd_mk KX G ?fa_come_by ?fl_come_by ?fc_come_by ?fk_come_by; (case fa_come_by => k_is); (case fl_come_by => k_is); (case fc_come_by => k_is); (case fk_come_by => k_is))
    case F_keeps_to => (refine' Qc.fd_mk KX G ?fa_keeps_to ?fl_keeps_to ?fc_keeps_to ?fk_keeps_to; (case fa_keeps_to => k_is); (case fl_keeps_to => k_is); (case fc_keeps_to => k_is); (case fk_keeps_to => k_is))
    case F_gone_by => (refine' Qc.fd_mk KX G ?fa_gone_by ?fl_gone_by ?fc_gone_by ?fk_gone_by; (case fa_gone_by => k_is); (case fl_gone_by => k_is); (case fc_gone_by => k_is); (case fk_gone_by => k_is))
    case F_held_back => (refine' Qc.fd_mk KX G ?fa_held_back ?fl_held_back ?fc_held_back ?fk_held_back; (case fa_held_back => k_is); (case fl_held_back => k_is); (case fc_held_back => k_is); (case fk_held_back => k_is))
    case F_is_curve => (refine' Qc.fd_mk KX G ?fa_is_curve ?fl_is_curve ?fc_is_curve ?fk_is_curve; (case fa_is_curve => k_is); (case fl_is_curve => k_is); (case fc_is_curve => k_is); (case fk_is_curve => k_is))
    case F_set_line => (refine' Qc.fd_mk KX G ?fa_set_line ?fl_set_line ?fc_set_line ?fk_set_line; (case fa_set_line => k_is); (case fl_set_line => k_is); (case fc_set_line => k_is); (case fk_set_line => k_is))
    case F_set_rate => (refine' Qc.fd_mk KX G ?fa_set_rate ?fl_set_rate ?fc_set_rate ?fk_set_rate; (case fa_set_rate => k_is); (case fl_set_rate => k_is); (case fc_set_rate => k_is); (case fk_set_rate => k_is))
    case F_is_row => (refine' Qc.fd_mk KX G ?fa_is_row ?fl_is_row ?fc_is_row ?fk_is_row; (case fa_is_row => k_is); (case fl_is_row => k_is); (case fc_is_row => k_is); (case fk_is_row => k_is))
    case F_set_row => (refine' Qc.fd_mk KX G ?fa_set_row ?fl_set_row ?fc_set_row ?fk_set_row; (case fa_set_row => k_is); (case fl_set_row => k_is); (case fc_set_row => k_is); (case fk_set_row => k_is))
    case F_make => (refine' Qc.fd_mk KX G ?fa_make ?fl_make ?fc_make ?fk_make; (case fa_make => k_is); (case fl_make => k_is); (case fc_make => k_is); (case fk_make => k_is))
    case F_value => (refine' Qc.fd_mk KX G ?fa_value ?fl_value ?fc_value ?fk_value; (case fa_value => k_is); (case fl_value => k_is); (case fc_value => k_is); (case fk_value => k_is))
    case F_late => (refine' Qc.fd_mk KX G ?fa_late ?fl_late ?fc_late ?fk_late; (case fa_late => k_is); (case fl_late => k_is); (case fc_late => k_is); (case fk_late => k_is))
    case F_compared => (refine' Qc.fd_mk KX G ?fa_compared ?fl_compared ?fc_compared ?fk_compared; (case fa_compared => k_is); (case fl_compared => k_is); (case fc_compared => k_is); (case fk_compared => k_is))
    case F_fits => (refine' Qc.fd_mk KX G ?fa_fits ?fl_fits ?fc_fits ?fk_fits; (case fa_fits => k_is); (case fl_fits => k_is); (case fc_fits => k_is); (case fk_fits => k_is))
    case F_shape => (refine' Qc.fd_mk KX G ?fa_shape ?fl_shape ?fc_shape ?fk_shape; (case fa_shape => k_is); (case fl_shape => k_is); (case fc_shape => k_is); (case fk_shape => k_is))
    case F_answer => (refine' Qc.fd_mk KX G ?fa_answer ?fl_answer ?fc_answer ?fk_answer; (case fa_answer => k_is); (case fl_answer => k_is); (case fc_answer => k_is); (case fk_answer => k_is))
    case F_list_at => (refine' Qc.fd_mk KX G ?fa_list_at ?fl_list_at ?fc_list_at ?fk_list_at; (case fa_list_at => k_is); (case fl_list_at => k_is); (case fc_list_at => k_is); (case fk_list_at => k_is))
    case F_size_of_list => (refine' Qc.fd_mk KX G ?fa_size_of_list ?fl_size_of_list ?fc_size_of_list ?fk_size_of_list; (case fa_size_of_list => k_is); (case fl_size_of_list => k_is); (case fc_size_of_list => k_is); (case fk_size_of_list => k_is))
    case F_answers => (refine' Qc.fd_mk KX G ?fa_answers ?fl_answers ?fc_answers ?fk_answers; (case fa_answers => k_is); (case fl_answers => k_is); (case fc_answers => k_is); (case fk_answers => k_is))
    case M_curve => (refine' Qc.md_mk ?ma_curve ?mi_curve ?ml_curve ?mc_curve ?mk_curve; (case ma_curve => k_is); (case mi_curve => k_is); (case ml_curve => k_is); (case mc_curve => k_is); (case mk_curve => k_is))
    case M_keep => (refine' Qc.md_mk ?ma_keep ?mi_keep ?ml_keep ?mc_keep ?mk_keep; (case ma_keep => k_is); (case mi_keep => k_is); (case ml_keep => k_is); (case mc_keep => k_is); (case mk_keep => k_is))
    case M_make => (refine' Qc.md_mk ?ma_make ?mi_make ?ml_make ?mc_make ?mk_make; (case ma_make => k_is); (case mi_make => k_is); (case ml_make => k_is); (case mc_make => k_is); (case mk_make => k_is))
    case M_less => (refine' Qc.md_mk ?ma_less ?mi_less ?ml_less ?mc_less ?mk_less; (case ma_less => k_is); (case mi_less => k_is); (case ml_less => k_is); (case mc_less => k_is); (case mk_less => k_is))
    case M_most => (refine' Qc.md_mk ?ma_most ?mi_most ?ml_most ?mc_most ?mk_most; (case ma_most => k_is); (case mi_most => k_is); (case ml_most => k_is); (case mc_most => k_is); (case mk_most => k_is))
    case M_late => (refine' Qc.md_mk ?ma_late ?mi_late ?ml_late ?mc_late ?mk_late; (case ma_late => k_is); (case mi_late => k_is); (case ml_late => k_is); (case mc_late => k_is); (case mk_late => k_is))
  case S =>
    intro K H xs a hO hwi hask hx
    cases hx with
    | cons h1 h2 =>
      cases h2
      cases h1 with
      | lst hs ha =>
        have e := L2.ints_dw a.1 _ ha
        subst e
        have q : PyRc99.answers_asked a.1 = true := hask
        exact ⟨_, a.1, rfl, hs, q, fun H' p hp => .lst (L2.SqL.of hp) (L2.dw_ints _)⟩
#print axioms PySem.Challenge.cw_queuecurves_s01_answers_holds
