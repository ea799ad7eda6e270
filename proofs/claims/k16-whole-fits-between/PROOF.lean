import PyProof.Rows.All
import Wide.All
import OpenK.AllK
import Wide.FinOn
import HandS.ForMost
import PySem.Challenge.RW_hookmats_k16_whole_fits_between
import HandS.Conv
import HandS.Iter
import HandS.Defaults
import KE.GoesEnum
import KE.SortData
import HandS.SortOrd
import HandS.IsInst
set_option Elab.async false
set_option linter.all false
set_option maxRecDepth 100000
set_option maxHeartbeats 4000000
/-! Mats: the mathematics, with no program in sight. Part a: matchings on positions. -/
namespace HM
/-- the place of a peg round about, and the peg at a place: the same function -/
def rho (n m x : Nat) : Nat := if x < n then x else 2 * n + m - 1 - x
theorem rho_lt {n m x : Nat} (h : x < n + m) : rho n m x < n + m := by unfold rho; split <;> omega
theorem rho_rho {n m x : Nat} (h : x < n + m) : rho n m (rho n m x) = x := by
  unfold rho
  by_cases a : x < n
  · rw [if_pos a, if_pos a]
  · rw [if_neg a, if_neg (by omega)]; omega
theorem rho_inj {n m x y : Nat} (hx : x < n + m) (hy : y < n + m) (h : rho n m x = rho n m y) : x = y := by
  rw [← rho_rho hx, ← rho_rho hy, h]
/-- a matching of the places 0 .. N - 1 of which no two strings cross -/
structure Nc (N : Nat) (f : Nat → Nat) : Prop where
  lt : ∀ i, i < N → f i < N
  ne : ∀ i, i < N → f i ≠ i
  inv : ∀ i, i < N → f (f i) = i
  nc : ∀ i j, i < N → j < N → i < j → j < f i → i < f j ∧ f j < f i
theorem Nc.congr {N : Nat} {f g : Nat → Nat} (h : Nc N f) (e : ∀ i, i < N → g i = f i) : Nc N g := by
  refine ⟨fun i hi => by rw [e i hi]; exact h.lt i hi, fun i hi => by rw [e i hi]; exact h.ne i hi, fun i hi => ?_, fun i j hi hj a b => ?_⟩
  · rw [e i hi, e _ (h.lt i hi)]; exact h.inv i hi
  · rw [e i hi] at b
    rw [e i hi, e j hj]; exact h.nc i j hi hj a b
/-- the waiting places ahead of t -/
def Wt (f : Nat → Nat) (t : Nat) : List Nat := (List.range t).filter fun s => decide (t ≤ f s)
theorem wt_zero (f : Nat → Nat) : Wt f 0 = [] := rfl
theorem mem_wt {f : Nat → Nat} {t s : Nat} : s ∈ Wt f t ↔ s < t ∧ t ≤ f s := by
  unfold Wt; rw [List.mem_filter, List.mem_range, decide_eq_true_iff]
theorem wt_open {N : Nat} {f : Nat → Nat} (h : Nc N f) {t : Nat} (ht : t < N) (hf : t < f t) : Wt f (t + 1) = Wt f t ++ [t] := by
  unfold Wt
  rw [List.range_succ, List.filter_append]
  have e1 : (List.range t).filter (fun s => decide (t + 1 ≤ f s)) = (List.range t).filter (fun s => decide (t ≤ f s)) := by
    refine List.filter_congr fun s hs => ?_
    have hs' : s < t := List.mem_range.mp hs
    have : f s ≠ t := fun e => by
      have := h.inv s (by omega)
      rw [e] at this; omega
    rw [decide_eq_decide]; omega
  rw [e1]
  have e2 : List.filter (fun s => decide (t + 1 ≤ f s)) [t] = [t] := by
    rw [List.filter_cons_of_pos (by rw [decide_eq_true_iff]; omega)]; rfl
  rw [e2]
theorem wt_shut {N : Nat} {f : Nat → Nat} (h : Nc N f) {t : Nat} (ht : t < N) (hf : f t < t) : Wt f t = Wt f (t + 1) ++ [f t] := by
  have hq : f (f t) = t := h.inv t ht
  have split3 : List.range t = List.range (f t) ++ (f t :: (List.range (t - f t - 1)).map (fun x => f t + 1 + x)) := by
    have a : t = f t + (1 + (t - f t - 1)) := by omega
    conv => lhs; rw [a, List.range_add, Nat.add_comm 1, List.range_succ_eq_map, List.map_cons, List.map_map]
    congr 1
    rw [Nat.add_zero]
    congr 1
    refine List.map_congr_left fun x _ => ?_
    show f t + (x + 1) = f t + 1 + x
    omega
  have mid : ∀ k : Nat, k = t ∨ k = t + 1 → ((List.range (t - f t - 1)).map (fun x => f t + 1 + x)).filter (fun s => decide (k ≤ f s)) = [] := fun k hk => by
    refine List.filter_eq_nil_iff.mpr fun s hs => ?_
    obtain ⟨x, hx, rfl⟩ := List.mem_map.mp hs
    have hx' := List.mem_range.mp hx
    have := h.nc (f t) (f t + 1 + x) (by omega) (by omega) (by omega) (by omega)
    rw [hq] at this
    rw [decide_eq_true_iff]; omega
  have low : (List.range (f t)).filter (fun s => decide (t + 1 ≤ f s)) = (List.range (f t)).filter (fun s => decide (t ≤ f s)) := by
    refine List.filter_congr fun s hs => ?_
    have hs' : s < f t := List.mem_range.mp hs
    have : f s ≠ t := fun e => by
      have := h.inv s (by omega)
      rw [e] at this; omega
    rw [decide_eq_decide]; omega
  have e1 : Wt f t = (List.range (f t)).filter (fun s => decide (t ≤ f s)) ++ [f t] := by
    unfold Wt
    conv => lhs; rw [split3]
    rw [List.filter_append, List.filter_cons_of_pos (by rw [decide_eq_true_iff]; omega), mid t (.inl rfl)]
  have e2 : Wt f (t + 1) = (List.range (f t)).filter (fun s => decide (t ≤ f s)) := by
    unfold Wt
    rw [List.range_succ, split3]
    rw [List.filter_append, List.filter_append, List.filter_cons_of_neg (by rw [decide_eq_true_iff]; omega), mid (t + 1) (.inr rfl), low, List.filter_cons_of_neg (by rw [decide_eq_true_iff]; omega)]
    simp
  rw [e1, e2]
theorem wt_len {N : Nat} {f : Nat → Nat} (h : Nc N f) : ∀ d t, t + d = N → (Wt f t).length ≤ d
  | 0, t, e => by
    have : Wt f t = [] := List.eq_nil_iff_forall_not_mem.mpr fun s hs => by
      have := mem_wt.mp hs
      have := h.lt s (by omega)
      omega
    rw [this]; exact Nat.le_refl _
  | d + 1, t, e => by
    have ih := wt_len h d (t + 1) (by omega)
    have ht : t < N := by omega
    have := h.ne t ht
    by_cases c : t < f t
    · have := wt_open h ht c
      rw [this, List.length_append] at ih
      simp at ih; omega
    · have := wt_shut h ht (by omega)
      rw [this, List.length_append]
      simp; omega
theorem wt_end {N : Nat} {f : Nat → Nat} (h : Nc N f) : Wt f N = [] := List.eq_nil_of_length_eq_zero (Nat.le_zero.mp (wt_len h 0 N rfl))
end HM

/-! Part b: mats, and the stack that makes them. -/
namespace HM
/-- a mat: n pegs above, m below; L tells the mate of each peg -/
structure IsMat (n m : Nat) (L : List Nat) : Prop where
  len : L.length = n + m
  lt : ∀ p, p < n + m → L.getD p 0 < n + m
  nc : Nc (n + m) (fun s => rho n m (L.getD (rho n m s) 0))
theorem getD_lt {L : List Nat} {i : Nat} (h : i < L.length) : L[i]? = some (L.getD i 0) := by
  rw [List.getD_eq_getElem?_getD, List.getElem?_eq_getElem h]; rfl
theorem getD_set_self {L : List Nat} {i v : Nat} (h : i < L.length) : (L.set i v).getD i 0 = v := by
  rw [List.getD_eq_getElem?_getD, List.getElem?_set_self h]; rfl
theorem getD_set_ne {L : List Nat} {i j v : Nat} (h : i ≠ j) : (L.set i v).getD j 0 = L.getD j 0 := by
  rw [List.getD_eq_getElem?_getD, List.getElem?_set_ne h, List.getD_eq_getElem?_getD]
theorem IsMat.ne {n m : Nat} {L : List Nat} (h : IsMat n m L) {p : Nat} (hp : p < n + m) : L.getD p 0 ≠ p := fun e => by
  have a := h.nc.ne (rho n m p) (rho_lt hp)
  simp only [rho_rho hp, e] at a
  exact a rfl
theorem IsMat.inv {n m : Nat} {L : List Nat} (h : IsMat n m L) {p : Nat} (hp : p < n + m) : L.getD (L.getD p 0) 0 = p := by
  have a := h.nc.inv (rho n m p) (rho_lt hp)
  simp only [rho_rho hp, rho_rho (h.lt p hp)] at a
  exact rho_inj (h.lt _ (h.lt p hp)) hp a
/-- half way: the places ahead of t are waiting (w) or matched by g -/
structure Half (t : Nat) (w : List Nat) (g : Nat → Nat) : Prop where
  asc : w.Pairwise (· < ·)
  wlt : ∀ x, x ∈ w → x < t
  mt : ∀ s, s < t → s ∉ w → g s < t ∧ g s ≠ s ∧ g (g s) = s ∧ g s ∉ w
  nc : ∀ x y, x < t → y < t → x ∉ w → y ∉ w → x < y → y < g x → x < g y ∧ g y < g x
  out : ∀ x y, x < t → x ∉ w → y ∈ w → ¬ (x < y ∧ y < g x)
  par : (w.length + t) % 2 = 0
theorem Half.zero (g : Nat → Nat) : Half 0 [] g := ⟨.nil, (fun _ h => nomatch h), (fun s h => absurd h (Nat.not_lt_zero s)), (fun x _ h => absurd h (Nat.not_lt_zero x)), (fun x _ h => absurd h (Nat.not_lt_zero x)), rfl⟩
theorem Half.opened {t : Nat} {w : List Nat} {g : Nat → Nat} (h : Half t w g) : Half (t + 1) (w ++ [t]) g := by
  have key : ∀ s, s < t + 1 → s ∉ w ++ [t] → s < t ∧ s ∉ w := fun s a b => by
    simp only [List.mem_append, List.mem_singleton, not_or] at b
    exact ⟨by omega, b.1⟩
  refine ⟨?_, fun x hx => ?_, fun s a b => ?_, fun x y a b c d e f => ?_, fun x y a b c => ?_, ?_⟩
  · rw [List.pairwise_append]
    refine ⟨h.asc, List.pairwise_singleton _ _, fun a ha b hb => ?_⟩
    rw [List.mem_singleton.mp hb]; exact h.wlt a ha
  · rcases List.mem_append.mp hx with q | q
    · exact Nat.lt_succ_of_lt (h.wlt x q)
    · rw [List.mem_singleton.mp q]; exact Nat.lt_succ_self t
  · obtain ⟨a', b'⟩ := key s a b
    obtain ⟨h1, h2, h3, h4⟩ := h.mt s a' b'
    refine ⟨by omega, h2, h3, ?_⟩
    simp only [List.mem_append, List.mem_singleton, not_or]
    exact ⟨h4, by omega⟩
  · obtain ⟨a', c'⟩ := key x a c
    obtain ⟨b', d'⟩ := key y b d
    exact h.nc x y a' b' c' d' e f
  · obtain ⟨a', b'⟩ := key x a b
    rcases List.mem_append.mp c with q | q
    · exact h.out x y a' b' q
    · rw [List.mem_singleton.mp q]
      have := (h.mt x a' b').1
      omega
  · have := h.par
    simp only [List.length_append, List.length_singleton]
    omega
/-- a and t joined -/
def tie (g : Nat → Nat) (a t : Nat) : Nat → Nat := fun x => if x = a then t else if x = t then a else g x
theorem tie_a {g : Nat → Nat} {a t : Nat} : tie g a t a = t := by unfold tie; rw [if_pos rfl]
theorem tie_t {g : Nat → Nat} {a t : Nat} : tie g a t t = a := by
  unfold tie
  by_cases e : t = a
  · rw [if_pos e, e]
  · rw [if_neg e, if_pos rfl]
theorem tie_ne {g : Nat → Nat} {a t x : Nat} (h : x ≠ a) (h2 : x ≠ t) : tie g a t x = g x := by unfold tie; rw [if_neg h, if_neg h2]
theorem Half.shut {t a : Nat} {w : List Nat} {g : Nat → Nat} (h : Half t (w ++ [a]) g) : Half (t + 1) w (tie g a t) := by
  have asc := List.pairwise_append.mp h.asc
  have hat : a < t := h.wlt a (by simp)
  have wa : ∀ x, x ∈ w → x < a := fun x hx => asc.2.2 x hx a (by simp)
  have anw : a ∉ w := fun q => Nat.lt_irrefl _ (wa a q)
  have key : ∀ s, s < t + 1 → s ∉ w → s = a ∨ s = t ∨ (s ≠ a ∧ s ≠ t ∧ s < t ∧ s ∉ w ++ [a]) := fun s q r => by
    by_cases e1 : s = a
    · exact .inl e1
    · by_cases e2 : s = t
      · exact .inr (.inl e2)
      · exact .inr (.inr ⟨e1, e2, by omega, by simp only [List.mem_append, List.mem_singleton, not_or]; exact ⟨r, e1⟩⟩)
  have old : ∀ s, s < t → s ∉ w ++ [a] → g s < t ∧ g s ≠ s ∧ g (g s) = s ∧ g s ∉ w ∧ g s ≠ a := fun s q r => by
    obtain ⟨h1, h2, h3, h4⟩ := h.mt s q r
    simp only [List.mem_append, List.mem_singleton, not_or] at h4
    exact ⟨h1, h2, h3, h4.1, h4.2⟩
  refine ⟨asc.1, fun x hx => ?_, fun s q r => ?_, fun x y q r q' r' e f => ?_, fun x y q r c => ?_, ?_⟩
  · have := wa x hx; omega
  · rcases key s q r with rfl | rfl | ⟨n1, n2, q', r'⟩
    · rw [tie_a, tie_t]
      exact ⟨by omega, by omega, rfl, fun z => by have := wa _ z; omega⟩
    · rw [tie_t, tie_a]
      exact ⟨by omega, by omega, rfl, anw⟩
    · obtain ⟨h1, h2, h3, h4, h5⟩ := old s q' r'
      rw [tie_ne n1 n2, tie_ne h5 (by omega)]
      exact ⟨by omega, h2, h3, h4⟩
  · rcases key x q q' with rfl | rfl | ⟨n1, n2, x1, x2⟩
    · rw [tie_a] at f ⊢
      rcases key y r r' with rfl | rfl | ⟨m1, m2, y1, y2⟩
      · omega
      · omega
      · rw [tie_ne m1 m2]
        obtain ⟨h1, h2, h3, h4, h5⟩ := old y y1 y2
        refine ⟨?_, by omega⟩
        by_cases z : g y < x
        · exfalso
          have : g y ∉ w ++ [x] := by simp only [List.mem_append, List.mem_singleton, not_or]; exact ⟨h4, h5⟩
          exact h.out (g y) x h1 this (by simp) ⟨z, by rw [h3]; exact e⟩
        · omega
    · rw [tie_t] at f; omega
    · obtain ⟨h1, h2, h3, h4, h5⟩ := old x x1 x2
      rw [tie_ne n1 n2] at f ⊢
      rcases key y r r' with rfl | rfl | ⟨m1, m2, y1, y2⟩
      · exact absurd ⟨e, f⟩ (h.out x y x1 x2 (by simp))
      · omega
      · rw [tie_ne m1 m2]
        exact h.nc x y x1 y1 x2 y2 e f
  · rcases key x q r with rfl | rfl | ⟨n1, n2, x1, x2⟩
    · have := wa y c; omega
    · have := wa y c; omega
    · rw [tie_ne n1 n2]
      exact h.out x y x1 x2 (by simp [c])
  · have := h.par
    simp only [List.length_append, List.length_singleton] at this
    omega
/-- the stack and the mates of a mat half made: the first t pegs round about are done -/
def Stk (n m t : Nat) (W L : List Nat) : Prop := ∃ (w : List Nat) (g : Nat → Nat), Half t w g ∧ W = w.map (rho n m) ∧ L.length = n + m ∧ t ≤ n + m ∧
  ∀ s, s < t → s ∉ w → L.getD (rho n m s) 0 = rho n m (g s)
theorem Stk.zero (n m : Nat) : Stk n m 0 [] (List.replicate (n + m) 0) := ⟨[], fun _ => 0, Half.zero _, rfl, List.length_replicate, Nat.zero_le _, fun s h => absurd h (Nat.not_lt_zero s)⟩
theorem Stk.len {n m t : Nat} {W L : List Nat} (h : Stk n m t W L) : L.length = n + m := by obtain ⟨_, _, _, _, e, _⟩ := h; exact e
theorem Stk.par {n m t : Nat} {W L : List Nat} (h : Stk n m t W L) : (W.length + t) % 2 = 0 := by
  obtain ⟨w, _, a, rfl, _⟩ := h
  rw [List.length_map]; exact a.par
theorem Stk.wlt {n m t : Nat} {W L : List Nat} (h : Stk n m t W L) {p : Nat} (hp : p ∈ W) : p < n + m := by
  obtain ⟨w, _, a, rfl, _, e, _⟩ := h
  obtain ⟨x, hx, rfl⟩ := List.mem_map.mp hp
  have := a.wlt x hx
  exact rho_lt (by omega)
theorem Stk.opened {n m t : Nat} {W L : List Nat} (h : Stk n m t W L) (ht : t < n + m) : Stk n m (t + 1) (W ++ [rho n m t]) L := by
  obtain ⟨w, g, a, rfl, b, _, c⟩ := h
  refine ⟨w ++ [t], g, a.opened, by rw [List.map_append]; rfl, b, ht, fun s q r => ?_⟩
  simp only [List.mem_append, List.mem_singleton, not_or] at r
  exact c s (by omega) r.1
theorem Stk.shut {n m t p : Nat} {W L : List Nat} (h : Stk n m t (W ++ [p]) L) (ht : t < n + m) : Stk n m (t + 1) W ((L.set p (rho n m t)).set (rho n m t) p) := by
  obtain ⟨w, g, a, e, b, _, c⟩ := h
  obtain ⟨w', x, rfl⟩ : ∃ w' x, w = w' ++ [x] := by
    rcases List.eq_nil_or_concat w with z | ⟨w', x, z⟩
    · rw [z] at e; simp at e
    · exact ⟨w', x, by rw [z, List.concat_eq_append]⟩
  rw [List.map_append] at e
  obtain ⟨e1, e2⟩ := List.append_inj_left' e rfl, List.append_inj_right' e rfl
  have ep : p = rho n m x := by simpa using e2
  subst ep
  have hxt : x < t := a.wlt x (by simp)
  have hx : rho n m x < n + m := rho_lt (by omega)
  have htt : rho n m t < n + m := rho_lt ht
  have ne : rho n m x ≠ rho n m t := fun q => by have := rho_inj (by omega) ht q; omega
  refine ⟨w', tie g x t, a.shut, e1, by rw [List.length_set, List.length_set]; exact b, ht, fun s q r => ?_⟩
  by_cases n1 : s = x
  · subst n1
    rw [tie_a, getD_set_ne ne.symm, getD_set_self (by omega)]
  · by_cases n2 : s = t
    · subst n2
      rw [tie_t, getD_set_self (by rw [List.length_set]; omega)]
    · have k1 : rho n m x ≠ rho n m s := fun z => n1 (rho_inj (by omega) (by omega) z).symm
      have k2 : rho n m t ≠ rho n m s := fun z => n2 (rho_inj ht (by omega) z).symm
      rw [tie_ne n1 n2, getD_set_ne k2, getD_set_ne k1]
      exact c s (by omega) (by simp only [List.mem_append, List.mem_singleton, not_or]; exact ⟨r, n1⟩)
theorem Stk.done {n m : Nat} {L : List Nat} (h : Stk n m (n + m) [] L) : IsMat n m L := by
  obtain ⟨w, g, a, e, b, _, c⟩ := h
  have w0 : w = [] := by cases w with
    | nil => rfl
    | cons x r => simp at e
  subst w0
  have mt : ∀ s, s < n + m → g s < n + m ∧ g s ≠ s ∧ g (g s) = s := fun s q => by
    obtain ⟨h1, h2, h3, _⟩ := a.mt s q (by simp)
    exact ⟨h1, h2, h3⟩
  refine ⟨b, fun p hp => ?_, Nc.congr (f := g) ⟨fun i hi => (mt i hi).1, fun i hi => (mt i hi).2.1, fun i hi => (mt i hi).2.2, fun i j hi hj x y => a.nc i j hi hj (by simp) (by simp) x y⟩ fun i hi => ?_⟩
  · have := c (rho n m p) (rho_lt hp) (by simp)
    rw [rho_rho hp] at this
    rw [this]
    exact rho_lt (mt _ (rho_lt hp)).1
  · show rho n m (L.getD (rho n m i) 0) = g i
    rw [c i hi (by simp), rho_rho (mt i hi).1]
end HM

/-! Part c: the look at a mat, and the list of all by the stack. -/
namespace HM
def mtf (n m : Nat) (L : List Nat) : Nat → Nat := fun s => rho n m (L.getD (rho n m s) 0)
/-- the waiting pegs ahead of the t-th round about -/
def Wp (n m : Nat) (L : List Nat) (t : Nat) : List Nat := (Wt (mtf n m L) t).map (rho n m)
theorem wp_zero (n m : Nat) (L : List Nat) : Wp n m L 0 = [] := rfl
theorem IsMat.wp_end {n m : Nat} {L : List Nat} (h : IsMat n m L) : Wp n m L (n + m) = [] := by
  unfold Wp
  rw [wt_end (N := n + m) (f := mtf n m L) h.nc]; rfl
theorem IsMat.wp_shut {n m : Nat} {L : List Nat} (h : IsMat n m L) {t : Nat} (ht : t < n + m) (hf : mtf n m L t < t) : Wp n m L t = Wp n m L (t + 1) ++ [L.getD (rho n m t) 0] := by
  unfold Wp
  rw [wt_shut (N := n + m) (f := mtf n m L) h.nc ht hf, List.map_append]
  show _ ++ [rho n m (rho n m (L.getD (rho n m t) 0))] = _
  rw [rho_rho (h.lt _ (rho_lt ht))]
theorem IsMat.wp_open {n m : Nat} {L : List Nat} (h : IsMat n m L) {t : Nat} (ht : t < n + m) (hf : t < mtf n m L t) : Wp n m L (t + 1) = Wp n m L t ++ [rho n m t] ∧ L.getD (rho n m t) 0 ∉ Wp n m L t := by
  unfold Wp
  rw [wt_open (N := n + m) (f := mtf n m L) h.nc ht hf, List.map_append]
  refine ⟨rfl, fun q => ?_⟩
  obtain ⟨x, hx, e⟩ := List.mem_map.mp q
  have hx' := mem_wt.mp hx
  have : mtf n m L t = x := by
    show rho n m (L.getD (rho n m t) 0) = x
    rw [← e, rho_rho (by omega)]
  omega
theorem IsMat.wp_ne {n m : Nat} {L : List Nat} (h : IsMat n m L) {t : Nat} (ht : t < n + m) : mtf n m L t < t ∨ t < mtf n m L t := by
  have this : mtf n m L t ≠ t := h.nc.ne t ht
  omega
theorem IsMat.wp_len {n m : Nat} {L : List Nat} (h : IsMat n m L) {t : Nat} (ht : t ≤ n + m) : (Wp n m L t).length + t ≤ n + m := by
  unfold Wp
  rw [List.length_map]
  have := wt_len (N := n + m) (f := mtf n m L) h.nc (n + m - t) t (by omega)
  omega

/-! ### all, by the stack -/
abbrev Row := List Nat × List (Nat × Nat)
/-- what a row becomes at the peg p, t the number of pegs ahead of it -/
def stepRow (N t p : Nat) (r : Row) : List Row :=
  (if r.1.length + 1 < N - t then [(r.1 ++ [p], r.2)] else []) ++ (if r.1 = [] then [] else [(r.1.dropLast, r.2 ++ [(r.1.getLast?.getD 0, p)])])
def rowsN (n m : Nat) : Nat → List Row
  | 0 => [([], [])]
  | t + 1 => (rowsN n m t).flatMap (stepRow (n + m) t (rho n m t))
def put2 (L : List Nat) (p : Nat × Nat) : List Nat := (L.set p.1 p.2).set p.2 p.1
def applyP (N : Nat) (P : List (Nat × Nat)) : List Nat := P.foldl put2 (List.replicate N 0)
def foundN (n m : Nat) : List (List Nat) := (rowsN n m (n + m)).map fun r => applyP (n + m) r.2
theorem stepRow_len (N t p : Nat) (r : Row) : (stepRow N t p r).length ≤ 2 := by
  unfold stepRow
  rw [List.length_append]
  split <;> split <;> simp
theorem rowsN_len (n m : Nat) : ∀ t, (rowsN n m t).length ≤ 2 ^ t
  | 0 => by simp [rowsN]
  | t + 1 => by
    have ih := rowsN_len n m t
    have : ∀ l : List Row, (l.flatMap (stepRow (n + m) t (rho n m t))).length ≤ 2 * l.length := fun l => by
      induction l with
      | nil => simp
      | cons x r ih =>
        rw [List.flatMap_cons, List.length_append, List.length_cons]
        have := stepRow_len (n + m) t (rho n m t) x
        omega
    have h := this (rowsN n m t)
    show ((rowsN n m t).flatMap (stepRow (n + m) t (rho n m t))).length ≤ 2 ^ (t + 1)
    rw [Nat.pow_succ]; omega
theorem last_split {W : List Nat} (h : W ≠ []) : W = W.dropLast ++ [W.getLast?.getD 0] := by
  rw [List.getLast?_eq_getLast h]
  exact (List.dropLast_concat_getLast h).symm
theorem rows_sound {n m : Nat} : ∀ t, t ≤ n + m → ∀ r ∈ rowsN n m t, Stk n m t r.1 (applyP (n + m) r.2) ∧ r.1.length + t ≤ n + m
  | 0, _, r, hr => by
    have e : r = ([], []) := by simpa [rowsN] using hr
    rw [e]; exact ⟨Stk.zero n m, by simp⟩
  | t + 1, ht, r, hr => by
    obtain ⟨q, hq, hs⟩ := List.mem_flatMap.mp (show r ∈ (rowsN n m t).flatMap (stepRow (n + m) t (rho n m t)) from hr)
    obtain ⟨s1, s2⟩ := rows_sound t (by omega) q hq
    unfold stepRow at hs
    rcases List.mem_append.mp hs with z | z
    · by_cases c : q.1.length + 1 < n + m - t
      · rw [if_pos c] at z
        have e := List.mem_singleton.mp z
        subst e
        refine ⟨s1.opened (by omega), ?_⟩
        rw [List.length_append, List.length_singleton]; omega
      · rw [if_neg c] at z; cases z
    · by_cases c : q.1 = []
      · rw [if_pos c] at z; cases z
      · rw [if_neg c] at z
        have e := List.mem_singleton.mp z
        subst e
        have e1 := last_split c
        refine ⟨?_, ?_⟩
        · rw [e1] at s1
          have := s1.shut (by omega)
          unfold applyP
          rw [List.foldl_append]
          exact this
        · have := congrArg List.length e1
          rw [List.length_append, List.length_singleton] at this
          show q.1.dropLast.length + (t + 1) ≤ n + m
          omega
/-- the strings that are shut ahead of the t-th peg -/
def Pp (n m : Nat) (L : List Nat) (t : Nat) : List (Nat × Nat) := ((List.range t).filter fun s => decide (mtf n m L s < s)).map fun s => (L.getD (rho n m s) 0, rho n m s)
theorem rows_complete {n m : Nat} {L : List Nat} (h : IsMat n m L) : ∀ t, t ≤ n + m → (Wp n m L t, Pp n m L t) ∈ rowsN n m t
  | 0, _ => by
    show (_, _) ∈ [([], [])]
    simp [Wp, Wt, Pp]
  | t + 1, ht => by
    have ih := rows_complete h t (by omega)
    refine List.mem_flatMap.mpr ⟨_, ih, ?_⟩
    unfold stepRow
    rcases h.wp_ne (t := t) (by omega) with c | c
    · have e := h.wp_shut (t := t) (by omega) c
      have ne : Wp n m L t ≠ [] := by rw [e]; simp
      refine List.mem_append_right _ ?_
      rw [if_neg ne]
      refine List.mem_singleton.mpr ?_
      have e1 : (Wp n m L t).dropLast = Wp n m L (t + 1) := by rw [e, List.dropLast_concat]
      have e2 : (Wp n m L t).getLast?.getD 0 = L.getD (rho n m t) 0 := by rw [e, List.getLast?_concat]; rfl
      show _ = ((Wp n m L t).dropLast, _)
      rw [e1]
      show (_, _) = (_, Pp n m L t ++ [((Wp n m L t).getLast?.getD 0, rho n m t)])
      rw [e2]
      unfold Pp
      rw [List.range_succ, List.filter_append, List.map_append]
      rw [List.filter_cons_of_pos (a := t) (by rw [decide_eq_true_iff]; exact c)]
      rfl
    · obtain ⟨e, _⟩ := h.wp_open (t := t) (by omega) c
      have len := h.wp_len (t := t + 1) ht
      rw [e, List.length_append, List.length_singleton] at len
      refine List.mem_append_left _ ?_
      show _ ∈ (if (Wp n m L t).length + 1 < n + m - t then _ else _)
      rw [if_pos (by omega)]
      refine List.mem_singleton.mpr ?_
      rw [e]
      unfold Pp
      rw [List.range_succ, List.filter_append, List.map_append]
      rw [List.filter_cons_of_neg (a := t) (by rw [decide_eq_true_iff]; omega)]
      simp
theorem foldl_put2_len : ∀ (P : List (Nat × Nat)) (I : List Nat), (P.foldl put2 I).length = I.length
  | [], _ => rfl
  | p :: r, I => by
    rw [List.foldl_cons, foldl_put2_len r]
    unfold put2
    rw [List.length_set, List.length_set]
theorem foldl_put2 {L : List Nat} : ∀ (P : List (Nat × Nat)) (I : List Nat), I.length = L.length → (∀ p ∈ P, p.1 < L.length ∧ p.2 < L.length ∧ p.1 ≠ p.2 ∧ L.getD p.1 0 = p.2 ∧ L.getD p.2 0 = p.1) →
    ∀ i, (∃ p ∈ P, p.1 = i ∨ p.2 = i) ∨ I.getD i 0 = L.getD i 0 → (P.foldl put2 I).getD i 0 = L.getD i 0
  | [], I, _, _, i, h => by
    rcases h with ⟨p, hp, _⟩ | h
    · cases hp
    · exact h
  | p :: r, I, hl, hP, i, h => by
    rw [List.foldl_cons]
    obtain ⟨l1, l2, ne, a, b⟩ := hP p (by simp)
    have len : (put2 I p).length = L.length := by unfold put2; rw [List.length_set, List.length_set]; exact hl
    refine foldl_put2 r _ len (fun q hq => hP q (by simp [hq])) i ?_
    by_cases e1 : i = p.1
    · refine .inr ?_
      unfold put2
      rw [e1, getD_set_ne ne.symm, getD_set_self (by omega), a]
    · by_cases e2 : i = p.2
      · refine .inr ?_
        unfold put2
        rw [e2, getD_set_self (by rw [List.length_set]; omega), b]
      · rcases h with ⟨q, hq, z⟩ | h
        · rcases List.mem_cons.mp hq with rfl | hq
          · rcases z with z | z
            · exact absurd z.symm e1
            · exact absurd z.symm e2
          · exact .inl ⟨q, hq, z⟩
        · refine .inr ?_
          unfold put2
          rw [getD_set_ne (Ne.symm e2), getD_set_ne (Ne.symm e1)]; exact h
theorem ext_getD {A B : List Nat} (h : A.length = B.length) (e : ∀ i, i < A.length → A.getD i 0 = B.getD i 0) : A = B := by
  refine List.ext_getElem h fun i h1 h2 => ?_
  have := e i h1
  rw [List.getD_eq_getElem?_getD, List.getD_eq_getElem?_getD, List.getElem?_eq_getElem h1, List.getElem?_eq_getElem h2] at this
  exact this
theorem mem_foundN {n m : Nat} {R : List Nat} : R ∈ foundN n m ↔ IsMat n m R := by
  constructor
  · intro h
    obtain ⟨r, hr, rfl⟩ := List.mem_map.mp h
    obtain ⟨a, b⟩ := rows_sound (n + m) (Nat.le_refl _) r hr
    have e : r.1 = [] := List.eq_nil_of_length_eq_zero (by omega)
    rw [e] at a
    exact a.done
  · intro h
    refine List.mem_map.mpr ⟨_, rows_complete h (n + m) (Nat.le_refl _), ?_⟩
    show (Pp n m R (n + m)).foldl put2 (List.replicate (n + m) 0) = R
    have len : ((Pp n m R (n + m)).foldl put2 (List.replicate (n + m) 0)).length = R.length := by rw [foldl_put2_len, List.length_replicate, h.len]
    refine ext_getD len fun i hi => ?_
    rw [len, h.len] at hi
    refine foldl_put2 _ _ (by rw [List.length_replicate, h.len]) (fun p hp => ?_) i (.inl ?_)
    · obtain ⟨s, hs, rfl⟩ := List.mem_map.mp hp
      have hs := List.mem_range.mp (List.mem_filter.mp hs).1
      have hr := rho_lt (n := n) (m := m) hs
      exact ⟨by rw [h.len]; exact h.lt _ hr, by rw [h.len]; exact hr, h.ne hr, h.inv hr, rfl⟩
    · have key : ∀ s, s < n + m → mtf n m R s < s → (R.getD (rho n m s) 0, rho n m s) ∈ Pp n m R (n + m) := fun s a b =>
        List.mem_map.mpr ⟨s, List.mem_filter.mpr ⟨List.mem_range.mpr a, by rw [decide_eq_true_iff]; exact b⟩, rfl⟩
      have hri := rho_lt (n := n) (m := m) hi
      rcases h.wp_ne hri with c | c
      · refine ⟨_, key _ hri c, .inr (rho_rho hi)⟩
      · have e : rho n m (mtf n m R (rho n m i)) = R.getD i 0 := by
          show rho n m (rho n m (R.getD (rho n m (rho n m i)) 0)) = _
          rw [rho_rho hi, rho_rho (h.lt i hi)]
        refine ⟨_, key (mtf n m R (rho n m i)) (h.nc.lt _ hri) ?_, .inl ?_⟩
        · have : mtf n m R (mtf n m R (rho n m i)) = rho n m i := h.nc.inv _ hri
          omega
        · rw [e]; exact h.inv hi
end HM

/-! Part d: the list of all by patterns. -/
namespace HM
abbrev gd (L : List Nat) (i : Nat) : Nat := L.getD i 0
theorem getD_map_add {L : List Nat} {c i : Nat} (h : i < L.length) : (L.map (· + c)).getD i 0 = L.getD i 0 + c := by
  rw [List.getD_eq_getElem?_getD, List.getElem?_map, List.getElem?_eq_getElem h, List.getD_eq_getElem?_getD, List.getElem?_eq_getElem h]; rfl
theorem getD_app_l {A B : List Nat} {i : Nat} (h : i < A.length) : (A ++ B).getD i 0 = A.getD i 0 := by
  rw [List.getD_eq_getElem?_getD, List.getElem?_append_left h, List.getD_eq_getElem?_getD]
theorem getD_app_r {A B : List Nat} {i : Nat} (h : A.length ≤ i) : (A ++ B).getD i 0 = B.getD (i - A.length) 0 := by
  rw [List.getD_eq_getElem?_getD, List.getElem?_append_right h, List.getD_eq_getElem?_getD]
/-- a pattern put together of one within and one behind -/
def comb (inner : Nat) (within behind : List Nat) : List Nat :=
  ((2 * inner + 1) :: (within.map (· + 1) ++ [0])) ++ behind.map (· + (2 * inner + 1 + 1))
def newRow (rows : List (List (List Nat))) : List (List Nat) :=
  (List.range rows.length).flatMap fun inner => (rows.getD inner []).flatMap fun within => (rows.getD (rows.length - 1 - inner) []).map fun behind => comb inner within behind
def patRows : Nat → List (List (List Nat))
  | 0 => [[[]]]
  | k + 1 => patRows k ++ [newRow (patRows k)]
theorem patRows_len : ∀ k, (patRows k).length = k + 1
  | 0 => rfl
  | k + 1 => by
    show (patRows k ++ [newRow (patRows k)]).length = k + 1 + 1
    rw [List.length_append, patRows_len k]; rfl
/-- a pattern of 2 h places -/
structure Pat (h : Nat) (L : List Nat) : Prop where
  len : L.length = 2 * h
  nc : Nc (2 * h) (gd L)
theorem comb_len {inner : Nat} {A B : List Nat} (h : A.length = 2 * inner) : (comb inner A B).length = 2 * inner + 2 + B.length := by
  unfold comb
  simp only [List.length_append, List.length_cons, List.length_map, List.length_nil]
  omega
theorem comb_zero {inner : Nat} {A B : List Nat} : gd (comb inner A B) 0 = 2 * inner + 1 := rfl
theorem comb_in {inner : Nat} {A B : List Nat} (h : A.length = 2 * inner) {i : Nat} (h1 : 1 ≤ i) (h2 : i ≤ 2 * inner) : gd (comb inner A B) i = gd A (i - 1) + 1 := by
  unfold comb gd
  obtain ⟨j, rfl⟩ : ∃ j, i = j + 1 := ⟨i - 1, by omega⟩
  rw [getD_app_l (by simp only [List.length_cons, List.length_append, List.length_map]; omega)]
  show (A.map (· + 1) ++ [0]).getD j 0 = _
  rw [getD_app_l (by rw [List.length_map]; omega), getD_map_add (by omega)]
  rfl
theorem comb_first {inner : Nat} {A B : List Nat} (h : A.length = 2 * inner) : gd (comb inner A B) (2 * inner + 1) = 0 := by
  unfold comb gd
  rw [getD_app_l (by simp only [List.length_cons, List.length_append, List.length_map]; omega)]
  show (A.map (· + 1) ++ [0]).getD (2 * inner) 0 = _
  rw [getD_app_r (by rw [List.length_map]; omega), List.length_map, h, Nat.sub_self]
  rfl
theorem comb_out {inner : Nat} {A B : List Nat} (h : A.length = 2 * inner) {i : Nat} (h1 : 2 * inner + 2 ≤ i) (h2 : i < 2 * inner + 2 + B.length) : gd (comb inner A B) i = gd B (i - (2 * inner + 2)) + (2 * inner + 2) := by
  unfold comb gd
  have e : ((2 * inner + 1) :: (A.map (· + 1) ++ [0])).length = 2 * inner + 2 := by
    simp only [List.length_cons, List.length_append, List.length_map, List.length_nil]; omega
  rw [getD_app_r (by omega), e, getD_map_add (by omega)]
theorem comb_pat {a b : Nat} {A B : List Nat} (hA : Pat a A) (hB : Pat b B) : Pat (a + b + 1) (comb a A B) := by
  have lenA := hA.len
  have lenB := hB.len
  have cases4 : ∀ i, i < 2 * (a + b + 1) → i = 0 ∨ (1 ≤ i ∧ i ≤ 2 * a) ∨ i = 2 * a + 1 ∨ (2 * a + 2 ≤ i ∧ i < 2 * a + 2 + B.length) := fun i hi => by omega
  -- what each place's mate is, and where it lies
  have fin : ∀ i, 1 ≤ i → i ≤ 2 * a → gd (comb a A B) i = gd A (i - 1) + 1 ∧ gd A (i - 1) < 2 * a := fun i h1 h2 => ⟨comb_in lenA h1 h2, hA.nc.lt (i - 1) (by omega)⟩
  have fout : ∀ i, 2 * a + 2 ≤ i → i < 2 * a + 2 + B.length → gd (comb a A B) i = gd B (i - (2 * a + 2)) + (2 * a + 2) ∧ gd B (i - (2 * a + 2)) < 2 * b := fun i h1 h2 => ⟨comb_out lenA h1 h2, hB.nc.lt _ (by omega)⟩
  have f1 := comb_first (B := B) lenA
  have f0 : gd (comb a A B) 0 = 2 * a + 1 := rfl
  refine ⟨by rw [comb_len lenA, lenB]; omega, ⟨fun i hi => ?_, fun i hi => ?_, fun i hi => ?_, fun i j hi hj hij hjf => ?_⟩⟩
  · rcases cases4 i hi with rfl | ⟨h1, h2⟩ | rfl | ⟨h1, h2⟩
    · rw [f0]; omega
    · have := fin i h1 h2; omega
    · rw [f1]; omega
    · have := fout i h1 h2; omega
  · rcases cases4 i hi with rfl | ⟨h1, h2⟩ | rfl | ⟨h1, h2⟩
    · rw [f0]; omega
    · have := fin i h1 h2
      have := hA.nc.ne (i - 1) (by omega)
      omega
    · rw [f1]; omega
    · have := fout i h1 h2
      have := hB.nc.ne (i - (2 * a + 2)) (by omega)
      omega
  · rcases cases4 i hi with rfl | ⟨h1, h2⟩ | rfl | ⟨h1, h2⟩
    · rw [f0, f1]
    · obtain ⟨e, l⟩ := fin i h1 h2
      rw [e, (fin _ (by omega) (by omega)).1]
      have := hA.nc.inv (i - 1) (by omega)
      rw [Nat.add_sub_cancel, this]; omega
    · rw [f1, f0]
    · obtain ⟨e, l⟩ := fout i h1 h2
      rw [e, (fout _ (by omega) (by omega)).1]
      have := hB.nc.inv (i - (2 * a + 2)) (by omega)
      rw [Nat.add_sub_cancel, this]; omega
  · rcases cases4 i hi with rfl | ⟨h1, h2⟩ | rfl | ⟨h1, h2⟩
    · rw [f0] at hjf ⊢
      have := fin j (by omega) (by omega)
      omega
    · obtain ⟨e, l⟩ := fin i h1 h2
      rw [e] at hjf ⊢
      obtain ⟨e', l'⟩ := fin j (by omega) (by omega)
      have := hA.nc.nc (i - 1) (j - 1) (by omega) (by omega) (by omega) (by omega)
      rw [e']; omega
    · rw [f1] at hjf; omega
    · obtain ⟨e, l⟩ := fout i h1 h2
      rw [e] at hjf ⊢
      obtain ⟨e', l'⟩ := fout j (by omega) (by omega)
      have := hB.nc.nc (i - (2 * a + 2)) (j - (2 * a + 2)) (by omega) (by omega) (by omega) (by omega)
      rw [e']; omega
/-- a part of a matching that is shut in itself -/
theorem Nc.cut {N : Nat} {f : Nat → Nat} (h : Nc N f) {lo k : Nat} (hk : lo + k ≤ N) (cl : ∀ i, lo ≤ i → i < lo + k → lo ≤ f i ∧ f i < lo + k) : Nc k (fun i => f (i + lo) - lo) := by
  have c : ∀ i, i < k → f (i + lo) - lo + lo = f (i + lo) ∧ f (i + lo) < lo + k := fun i hi => by
    have := cl (i + lo) (by omega) (by omega); omega
  refine ⟨fun i hi => ?_, fun i hi => ?_, fun i hi => ?_, fun i j hi hj a b => ?_⟩
  · have := c i hi; omega
  · have := c i hi
    have := h.ne (i + lo) (by omega)
    show f (i + lo) - lo ≠ i
    omega
  · have := c i hi
    show f (f (i + lo) - lo + lo) - lo = i
    rw [this.1, h.inv (i + lo) (by omega)]; omega
  · have := c i hi
    have := c j hj
    have := h.nc (i + lo) (j + lo) (by omega) (by omega) (by omega) (by show j + lo < f (i + lo); have : j < f (i + lo) - lo := b; omega)
    show i < f (j + lo) - lo ∧ f (j + lo) - lo < f (i + lo) - lo
    omega
theorem Nc.parts {N : Nat} {f : Nat → Nat} (h : Nc N f) (hN : 0 < N) : 1 ≤ f 0 ∧ f 0 < N ∧ Nc (f 0 - 1) (fun i => f (i + 1) - 1) ∧ Nc (N - f 0 - 1) (fun i => f (i + (f 0 + 1)) - (f 0 + 1)) := by
  have h0 := h.lt 0 hN
  have n0 := h.ne 0 hN
  have i0 := h.inv 0 hN
  refine ⟨by omega, h0, h.cut (lo := 1) (by omega) fun i a b => ?_, h.cut (lo := f 0 + 1) (by omega) fun i a b => ?_⟩
  · have := h.nc 0 i hN (by omega) (by omega) (by omega)
    omega
  · have hi : i < N := by omega
    have l := h.lt i hi
    refine ⟨?_, by omega⟩
    have n1 : f i ≠ 0 := fun e => by
      have := h.inv i hi
      rw [e] at this; omega
    have n2 : f i ≠ f 0 := fun e => by
      have q1 := h.inv i hi
      rw [e, i0] at q1; omega
    by_cases c : f i < f 0
    · have := h.nc 0 (f i) hN l (by omega) c
      rw [h.inv i hi] at this
      omega
    · omega
theorem Nc.even : ∀ (N : Nat) (f : Nat → Nat), Nc N f → N % 2 = 0 := fun N => by
  induction N using Nat.strongRecOn with
  | ind N ih =>
    intro f h
    by_cases hN : N = 0
    · rw [hN]
    · obtain ⟨a, b, c, d⟩ := h.parts (by omega)
      have e1 := ih _ (by omega) _ c
      have e2 := ih _ (by omega) _ d
      omega
def tab (k : Nat) (f : Nat → Nat) : List Nat := (List.range k).map f
theorem tab_len {k : Nat} {f : Nat → Nat} : (tab k f).length = k := by unfold tab; rw [List.length_map, List.length_range]
theorem tab_get {k : Nat} {f : Nat → Nat} {i : Nat} (h : i < k) : (tab k f).getD i 0 = f i := by
  unfold tab
  rw [List.getD_eq_getElem?_getD, List.getElem?_map, List.getElem?_range h]; rfl
theorem tab_nc {k : Nat} {f : Nat → Nat} (h : Nc k f) : Nc k (gd (tab k f)) := h.congr fun i hi => tab_get hi
theorem pat_split {h : Nat} {L : List Nat} (hL : Pat (h + 1) L) : ∃ inner A B, inner ≤ h ∧ Pat inner A ∧ Pat (h - inner) B ∧ L = comb inner A B := by
  obtain ⟨a, b, c, d⟩ := hL.nc.parts (by omega)
  have ev := Nc.even _ _ c
  obtain ⟨inner, hi⟩ : ∃ inner, gd L 0 = 2 * inner + 1 := ⟨(gd L 0 - 1) / 2, by omega⟩
  have lenL := hL.len
  have e1 : gd L 0 - 1 = 2 * inner := by omega
  have e2 : 2 * (h + 1) - gd L 0 - 1 = 2 * (h - inner) := by omega
  rw [e1] at c
  rw [e2] at d
  refine ⟨inner, tab _ _, tab _ _, by omega, ⟨tab_len, tab_nc c⟩, ⟨tab_len, tab_nc d⟩, ?_⟩
  have len := comb_len (inner := inner) (B := tab (2 * (h - inner)) fun i => gd L (i + (gd L 0 + 1)) - (gd L 0 + 1)) (A := tab (2 * inner) fun i => gd L (i + 1) - 1) tab_len
  rw [tab_len] at len
  refine ext_getD (by rw [len, lenL]; omega) fun i hi2 => ?_
  rw [lenL] at hi2
  have i0 := hL.nc.inv 0 (by omega)
  rcases Nat.lt_or_ge i 1 with z | z
  · have : i = 0 := by omega
    subst this
    exact hi
  · rcases Nat.lt_or_ge (2 * inner) i with y | y
    · rcases Nat.lt_or_ge i (2 * inner + 2) with x | x
      · have : i = 2 * inner + 1 := by omega
        subst this
        rw [hi] at i0
        exact i0.trans (comb_first tab_len).symm
      · refine Eq.trans ?_ (comb_out tab_len x (by rw [tab_len]; omega)).symm
        rw [show gd (tab (2 * (h - inner)) fun i => gd L (i + (gd L 0 + 1)) - (gd L 0 + 1)) (i - (2 * inner + 2)) = gd L (i - (2 * inner + 2) + (gd L 0 + 1)) - (gd L 0 + 1) from tab_get (by omega)]
        rw [hi, show i - (2 * inner + 2) + (2 * inner + 1 + 1) = i by omega]
        have := d.lt (i - (2 * inner + 2)) (by omega)
        -- the mate lies behind, too
        have n1 : gd L i ≠ 0 := fun e => by
          have q := hL.nc.inv i hi2
          rw [e] at q; omega
        have n2 : gd L i ≠ 2 * inner + 1 := fun e => by
          have q := hL.nc.inv i hi2
          rw [hi] at i0
          rw [e, i0] at q; omega
        have n3 : ¬ gd L i < 2 * inner + 1 := fun e => by
          have q := hL.nc.nc 0 (gd L i) (by omega) (hL.nc.lt i hi2) (by omega) (by omega)
          rw [hL.nc.inv i hi2] at q; omega
        show gd L i = _
        omega
    · refine Eq.trans ?_ (comb_in tab_len z y).symm
      rw [show gd (tab (2 * inner) fun i => gd L (i + 1) - 1) (i - 1) = gd L (i - 1 + 1) - 1 from tab_get (by omega)]
      rw [show i - 1 + 1 = i by omega]
      have q := hL.nc.nc 0 i (by omega) hi2 (by omega) (by omega)
      show gd L i = _
      omega
theorem patRows_get {k j : Nat} (h : j ≤ k) : (patRows k).getD j [] = (patRows j).getD j [] := by
  induction k with
  | zero => have : j = 0 := by omega
            rw [this]
  | succ k ih =>
    by_cases e : j = k + 1
    · rw [e]
    · have hj : j ≤ k := by omega
      rw [← ih hj]
      show (patRows k ++ [newRow (patRows k)]).getD j [] = _
      rw [List.getD_eq_getElem?_getD, List.getElem?_append_left (by rw [patRows_len]; omega), List.getD_eq_getElem?_getD]
theorem patRows_last (k : Nat) : (patRows (k + 1)).getD (k + 1) [] = newRow (patRows k) := by
  show (patRows k ++ [newRow (patRows k)]).getD (k + 1) [] = _
  rw [List.getD_eq_getElem?_getD, List.getElem?_append_right (by rw [patRows_len]; omega), patRows_len, Nat.sub_self]; rfl
/-- the patterns of 2 h places, as the program lists them -/
def pats (h : Nat) : List (List Nat) := (patRows h).getD h []
theorem mem_newRow {k : Nat} {L : List Nat} : L ∈ newRow (patRows k) ↔ ∃ inner A B, inner ≤ k ∧ A ∈ pats inner ∧ B ∈ pats (k - inner) ∧ L = comb inner A B := by
  unfold newRow
  rw [patRows_len]
  constructor
  · intro h
    obtain ⟨inner, hi, h⟩ := List.mem_flatMap.mp h
    obtain ⟨A, hA, h⟩ := List.mem_flatMap.mp h
    obtain ⟨B, hB, rfl⟩ := List.mem_map.mp h
    have hi' := List.mem_range.mp hi
    rw [patRows_get (by omega)] at hA
    rw [show k + 1 - 1 - inner = k - inner by omega, patRows_get (by omega)] at hB
    exact ⟨inner, A, B, by omega, hA, hB, rfl⟩
  · rintro ⟨inner, A, B, hi, hA, hB, rfl⟩
    refine List.mem_flatMap.mpr ⟨inner, List.mem_range.mpr (by omega), List.mem_flatMap.mpr ⟨A, ?_, List.mem_map.mpr ⟨B, ?_, rfl⟩⟩⟩
    · rw [patRows_get (by omega)]; exact hA
    · rw [show k + 1 - 1 - inner = k - inner by omega, patRows_get (by omega)]; exact hB
theorem mem_pats : ∀ (h : Nat) (L : List Nat), L ∈ pats h ↔ Pat h L := fun h => by
  induction h using Nat.strongRecOn with
  | ind h ih =>
    intro L
    cases h with
    | zero =>
      show L ∈ [[]] ↔ _
      constructor
      · intro q
        rw [List.mem_singleton.mp q]
        exact ⟨rfl, (fun i hi => absurd hi (Nat.not_lt_zero i)), (fun i hi => absurd hi (Nat.not_lt_zero i)), (fun i hi => absurd hi (Nat.not_lt_zero i)), (fun i j hi => absurd hi (Nat.not_lt_zero i))⟩
      · intro q
        rw [List.mem_singleton]
        exact List.eq_nil_of_length_eq_zero q.len
    | succ k =>
      unfold pats
      rw [patRows_last, mem_newRow]
      constructor
      · rintro ⟨inner, A, B, hi, hA, hB, rfl⟩
        have := comb_pat ((ih inner (by omega) A).mp hA) ((ih (k - inner) (by omega) B).mp hB)
        rw [show inner + (k - inner) + 1 = k + 1 by omega] at this
        exact this
      · intro hL
        obtain ⟨inner, A, B, hi, hA, hB, e⟩ := pat_split hL
        exact ⟨inner, A, B, hi, (ih inner (by omega) A).mpr hA, (ih (k - inner) (by omega) B).mpr hB, e⟩
/-! ### patterns laid round about -/
/-- the row that remade fills: the place of each -/
def remN (n m : Nat) (L : List Nat) : List Nat := (List.range (n + m)).foldl (fun R s => R.set (rho n m s) (rho n m (L.getD s 0))) (List.replicate (n + m) 0)
def allN (n m : Nat) : List (List Nat) := (pats ((n + m) / 2)).map (remN n m)
theorem remN_aux (n m : Nat) (L : List Nat) : ∀ t, t ≤ n + m → ((List.range t).foldl (fun R s => R.set (rho n m s) (rho n m (L.getD s 0))) (List.replicate (n + m) 0)).length = n + m ∧
    ∀ s, s < t → ((List.range t).foldl (fun R s => R.set (rho n m s) (rho n m (L.getD s 0))) (List.replicate (n + m) 0)).getD (rho n m s) 0 = rho n m (L.getD s 0)
  | 0, _ => ⟨List.length_replicate, fun s h => absurd h (Nat.not_lt_zero s)⟩
  | t + 1, ht => by
    obtain ⟨l, ih⟩ := remN_aux n m L t (by omega)
    rw [List.range_succ, List.foldl_append]
    refine ⟨by show (List.set _ _ _).length = _; rw [List.length_set]; exact l, fun s hs => ?_⟩
    show (List.set _ (rho n m t) _).getD (rho n m s) 0 = _
    by_cases e : s = t
    · rw [e]; exact getD_set_self (by rw [l]; exact rho_lt (by omega))
    · rw [getD_set_ne fun z => e (rho_inj (by omega) (by omega) z).symm]
      exact ih s (by omega)
theorem remN_len (n m : Nat) (L : List Nat) : (remN n m L).length = n + m := (remN_aux n m L (n + m) (Nat.le_refl _)).1
theorem remN_get {n m : Nat} {L : List Nat} {s : Nat} (h : s < n + m) : (remN n m L).getD (rho n m s) 0 = rho n m (L.getD s 0) := (remN_aux n m L (n + m) (Nat.le_refl _)).2 s h
theorem mem_allN {n m : Nat} {R : List Nat} (hev : (n + m) % 2 = 0) : R ∈ allN n m ↔ IsMat n m R := by
  have hN : 2 * ((n + m) / 2) = n + m := by omega
  constructor
  · intro h
    obtain ⟨L, hL, rfl⟩ := List.mem_map.mp h
    have p := (mem_pats _ _).mp hL
    have pn := p.nc
    rw [hN] at pn
    refine ⟨remN_len n m L, fun q hq => ?_, pn.congr fun s hs => ?_⟩
    · have := remN_get (L := L) (rho_lt hq)
      rw [rho_rho hq] at this
      rw [this]
      exact rho_lt (pn.lt _ (rho_lt hq))
    · show rho n m ((remN n m L).getD (rho n m s) 0) = gd L s
      rw [remN_get hs, rho_rho (pn.lt s hs)]
  · intro h
    refine List.mem_map.mpr ⟨tab (n + m) (mtf n m R), (mem_pats _ _).mpr ⟨by rw [tab_len, hN], by rw [hN]; exact tab_nc h.nc⟩, ?_⟩
    refine ext_getD (by rw [remN_len, h.len]) fun i hi => ?_
    rw [remN_len] at hi
    have := remN_get (L := tab (n + m) (mtf n m R)) (rho_lt hi)
    rw [rho_rho hi] at this
    rw [this, tab_get (rho_lt hi)]
    show rho n m (rho n m (R.getD (rho n m (rho n m i)) 0)) = _
    rw [rho_rho hi, rho_rho (h.lt i hi)]
/-- the same mats in both lists -/
theorem same_mats {n m : Nat} (hev : (n + m) % 2 = 0) (R : List Nat) : R ∈ allN n m ↔ R ∈ foundN n m := (mem_allN hev).trans mem_foundN.symm
end HM

/-! Part e: putting behind: pairs of pegs that meet are taken away one by one. -/
namespace HM
/-- strings between the pegs of S, none crossing, round about by pos -/
structure Ncs (S : Nat → Prop) (pos f : Nat → Nat) : Prop where
  mem : ∀ x, S x → S (f x)
  ne : ∀ x, S x → f x ≠ x
  inv : ∀ x, S x → f (f x) = x
  inj : ∀ x y, S x → S y → pos x = pos y → x = y
  nc : ∀ x y, S x → S y → pos x < pos y → pos y < pos (f x) → pos x < pos (f y) ∧ pos (f y) < pos (f x)
/-- between c and d -/
def sep (pos : Nat → Nat) (c d x : Nat) : Bool := decide (pos x < pos c) ^^ decide (pos x < pos d)
theorem Ncs.sep {S : Nat → Prop} {pos f : Nat → Nat} (h : Ncs S pos f) {c x : Nat} (hc : S c) (hx : S x) (n1 : x ≠ c) (n2 : x ≠ f c) : sep pos c (f c) (f x) = sep pos c (f c) x := by
  have hfc := h.mem c hc
  have hfx := h.mem x hx
  have icc := h.inv c hc
  have ixx := h.inv x hx
  have m1 : f x ≠ c := fun e => n2 (by rw [← ixx, e])
  have m2 : f x ≠ f c := fun e => n1 (by rw [← ixx, e, icc])
  have p1 : pos x ≠ pos c := fun e => n1 (h.inj _ _ hx hc e)
  have p2 : pos x ≠ pos (f c) := fun e => n2 (h.inj _ _ hx hfc e)
  have p3 : pos (f x) ≠ pos c := fun e => m1 (h.inj _ _ hfx hc e)
  have p4 : pos (f x) ≠ pos (f c) := fun e => m2 (h.inj _ _ hfx hfc e)
  have a1 := h.nc c x hc hx
  have a2 := h.nc (f c) x hfc hx
  have a3 := h.nc c (f x) hc hfx
  have a4 := h.nc (f c) (f x) hfc hfx
  rw [icc] at a2 a4
  rw [ixx] at a3 a4
  unfold HM.sep
  by_cases q1 : pos (f x) < pos c <;> by_cases q2 : pos (f x) < pos (f c) <;> by_cases q3 : pos x < pos c <;> by_cases q4 : pos x < pos (f c) <;> simp only [q1, q2, q3, q4, decide_true, decide_false] <;> first | rfl | (exfalso; omega)
theorem Ncs.of_sep {S : Nat → Prop} {pos f : Nat → Nat} (mem : ∀ x, S x → S (f x)) (ne : ∀ x, S x → f x ≠ x) (inv : ∀ x, S x → f (f x) = x) (inj : ∀ x y, S x → S y → pos x = pos y → x = y)
    (h : ∀ c x, S c → S x → x ≠ c → x ≠ f c → HM.sep pos c (f c) (f x) = HM.sep pos c (f c) x) : Ncs S pos f := by
  refine ⟨mem, ne, inv, inj, fun x y hx hy a b => ?_⟩
  have n1 : y ≠ x := fun e => by rw [e] at a; omega
  have n2 : y ≠ f x := fun e => by rw [e] at b; omega
  have q := h x y hx hy n1 n2
  have m1 : f y ≠ x := fun e => n2 (by rw [← inv y hy, e])
  have p1 : pos (f y) ≠ pos x := fun e => m1 (inj _ _ (mem y hy) hx e)
  unfold HM.sep at q
  rw [decide_eq_false (show ¬ pos y < pos x by omega), decide_eq_true b] at q
  by_cases q1 : pos (f y) < pos x <;> by_cases q2 : pos (f y) < pos (f x) <;> simp only [q1, q2, decide_true, decide_false] at q <;> first | omega | cases q
/-- a and b, side by side, are taken away: what they were joined with is joined -/
def cutP (f : Nat → Nat) (a b : Nat) : Nat → Nat := if f a = b then f else tie f (f a) (f b)
theorem Ncs.cut {S : Nat → Prop} {pos f : Nat → Nat} {a b : Nat} (h : Ncs S pos f) (ha : S a) (hb : S b) (hab : a ≠ b) (adj : ∀ x, S x → x ≠ a → x ≠ b → (pos x < pos a ↔ pos x < pos b)) :
    Ncs (fun x => S x ∧ x ≠ a ∧ x ≠ b) pos (cutP f a b) := by
  have ia := h.inv a ha
  have ib := h.inv b hb
  have inj : ∀ x y, (S x ∧ x ≠ a ∧ x ≠ b) → (S y ∧ y ≠ a ∧ y ≠ b) → pos x = pos y → x = y := fun x y hx hy e => h.inj x y hx.1 hy.1 e
  unfold cutP
  by_cases e : f a = b
  · rw [if_pos e]
    have e2 : f b = a := by rw [← e]; exact ia
    have keep : ∀ x, (S x ∧ x ≠ a ∧ x ≠ b) → f x ≠ a ∧ f x ≠ b := fun x hx => ⟨fun z => hx.2.2 (by rw [← h.inv x hx.1, z, e]), fun z => hx.2.1 (by rw [← h.inv x hx.1, z, e2])⟩
    exact Ncs.of_sep (fun x hx => ⟨h.mem x hx.1, keep x hx⟩) (fun x hx => h.ne x hx.1) (fun x hx => h.inv x hx.1) inj fun c x hc hx n1 n2 => h.sep hc.1 hx.1 n1 n2
  · rw [if_neg e]
    have e2 : f b ≠ a := fun z => e (by rw [← z]; exact ib)
    have na := h.ne a ha
    have nb := h.ne b hb
    have nab : f a ≠ f b := fun z => hab (by rw [← ia, z, ib])
    have hfa := h.mem a ha
    have hfb := h.mem b hb
    -- each one that stays: one of the two, or as it was
    have kind : ∀ x, (S x ∧ x ≠ a ∧ x ≠ b) → (x = f a ∧ tie f (f a) (f b) x = f b) ∨ (x = f b ∧ tie f (f a) (f b) x = f a) ∨ (x ≠ f a ∧ x ≠ f b ∧ tie f (f a) (f b) x = f x ∧ f x ≠ a ∧ f x ≠ b ∧ f x ≠ f a ∧ f x ≠ f b) := fun x hx => by
      by_cases z1 : x = f a
      · exact .inl ⟨z1, by rw [z1]; exact tie_a⟩
      · by_cases z2 : x = f b
        · exact .inr (.inl ⟨z2, by rw [z2]; exact tie_t⟩)
        · have ix := h.inv x hx.1
          exact .inr (.inr ⟨z1, z2, tie_ne z1 z2, fun z => z1 (by rw [← ix, z]), fun z => z2 (by rw [← ix, z]), fun z => hx.2.1 (by rw [← ix, z, ia]), fun z => hx.2.2 (by rw [← ix, z, ib])⟩)
    have sfa : S (f a) ∧ f a ≠ a ∧ f a ≠ b := ⟨hfa, na, e⟩
    have sfb : S (f b) ∧ f b ≠ a ∧ f b ≠ b := ⟨hfb, e2, nb⟩
    have ta : tie f (f a) (f b) (f a) = f b := tie_a
    have tb : tie f (f a) (f b) (f b) = f a := tie_t
    refine Ncs.of_sep (fun x hx => ?_) (fun x hx => ?_) (fun x hx => ?_) inj fun c x hc hx n1 n2 => ?_
    · rcases kind x hx with ⟨_, q⟩ | ⟨_, q⟩ | ⟨_, _, q, r1, r2, _, _⟩
      · rw [q]; exact sfb
      · rw [q]; exact sfa
      · rw [q]; exact ⟨h.mem x hx.1, r1, r2⟩
    · rcases kind x hx with ⟨z, q⟩ | ⟨z, q⟩ | ⟨_, _, q, _⟩
      · rw [q, z]; exact nab.symm
      · rw [q, z]; exact nab
      · rw [q]; exact h.ne x hx.1
    · rcases kind x hx with ⟨z, q⟩ | ⟨z, q⟩ | ⟨_, _, q, _, _, r1, r2⟩
      · rw [q, z]; exact tb
      · rw [q, z]; exact ta
      · rw [q, tie_ne r1 r2]; exact h.inv x hx.1
    · -- the two sides of a string, for a and for b: alike
      have same : ∀ c, (S c ∧ c ≠ a ∧ c ≠ b) → c ≠ f a → c ≠ f b → HM.sep pos c (f c) a = HM.sep pos c (f c) b := fun c hc m1 m2 => by
        have ic := h.inv c hc.1
        have w1 := adj c hc.1 hc.2.1 hc.2.2
        have w2 := adj (f c) (h.mem c hc.1) (fun z => m1 (by rw [← ic, z])) (fun z => m2 (by rw [← ic, z]))
        have i1 : pos c ≠ pos a := fun z => hc.2.1 (h.inj _ _ hc.1 ha z)
        have i2 : pos c ≠ pos b := fun z => hc.2.2 (h.inj _ _ hc.1 hb z)
        have i3 : pos (f c) ≠ pos a := fun z => m1 (by rw [← ic, h.inj _ _ (h.mem c hc.1) ha z])
        have i4 : pos (f c) ≠ pos b := fun z => m2 (by rw [← ic, h.inj _ _ (h.mem c hc.1) hb z])
        unfold HM.sep
        have u1 : decide (pos a < pos c) = decide (pos b < pos c) := by rw [decide_eq_decide]; omega
        have u2 : decide (pos a < pos (f c)) = decide (pos b < pos (f c)) := by rw [decide_eq_decide]; omega
        rw [u1, u2]
      -- a string that runs from near to far, asked about x
      have long : ∀ x, (S x ∧ x ≠ a ∧ x ≠ b) → x ≠ f a → x ≠ f b → f x ≠ a → f x ≠ b → (decide (pos (f x) < pos (f a)) ^^ decide (pos (f x) < pos (f b))) = (decide (pos x < pos (f a)) ^^ decide (pos x < pos (f b))) := fun x hx m1 m2 m3 m4 => by
        have s1 := h.sep (c := a) (x := x) ha hx.1 hx.2.1 m1
        have s2 := h.sep (c := b) (x := x) hb hx.1 hx.2.2 m2
        have w1 := adj x hx.1 hx.2.1 hx.2.2
        have w2 := adj (f x) (h.mem x hx.1) m3 m4
        unfold HM.sep at s1 s2
        have u1 : decide (pos x < pos a) = decide (pos x < pos b) := by rw [decide_eq_decide]; exact w1
        have u2 : decide (pos (f x) < pos a) = decide (pos (f x) < pos b) := by rw [decide_eq_decide]; exact w2
        rw [u1, u2] at s1
        revert s1 s2
        generalize decide (pos (f x) < pos b) = v1
        generalize decide (pos x < pos b) = v2
        generalize decide (pos (f x) < pos (f a)) = v3
        generalize decide (pos x < pos (f a)) = v4
        generalize decide (pos (f x) < pos (f b)) = v5
        generalize decide (pos x < pos (f b)) = v6
        revert v1 v2 v3 v4 v5 v6
        decide
      rcases kind c hc with ⟨rfl, qc⟩ | ⟨rfl, qc⟩ | ⟨c1, c2, qc, c3, c4, _, _⟩
      · rw [qc] at n2 ⊢
        rcases kind x hx with ⟨z, _⟩ | ⟨z, _⟩ | ⟨z1, z2, qx, z3, z4, _, _⟩
        · exact absurd z n1
        · exact absurd z n2
        · rw [qx]
          exact long x hx z1 z2 z3 z4
      · rw [qc] at n2 ⊢
        rcases kind x hx with ⟨z, _⟩ | ⟨z, _⟩ | ⟨z1, z2, qx, z3, z4, _, _⟩
        · exact absurd z n2
        · exact absurd z n1
        · rw [qx]
          have := long x hx z1 z2 z3 z4
          unfold HM.sep
          rw [Bool.xor_comm, this, Bool.xor_comm]
      · rw [qc] at n2 ⊢
        have sm := same c hc c1 c2
        have sa := h.sep (c := c) (x := a) hc.1 ha hc.2.1.symm (fun z => c3 z.symm)
        have sb := h.sep (c := c) (x := b) hc.1 hb hc.2.2.symm (fun z => c4 z.symm)
        rcases kind x hx with ⟨rfl, qx⟩ | ⟨rfl, qx⟩ | ⟨z1, z2, qx, z3, z4, _, _⟩
        · rw [qx, sb, sa, sm]
        · rw [qx, sb, sa, sm]
        · rw [qx]
          exact h.sep hc.1 hx.1 n1 n2
end HM

/-! Part f: the law's way of putting behind, and the program's. -/
namespace HM
theorem rho_pos {n m x : Nat} : (x < n → rho n m x = x) ∧ (n ≤ x → rho n m x = 2 * n + m - 1 - x) := by
  unfold rho
  exact ⟨fun h => if_pos h, fun h => if_neg (by omega)⟩
theorem IsMat.ncs {n m : Nat} {L : List Nat} (h : IsMat n m L) : Ncs (· < n + m) (rho n m) (gd L) := by
  refine ⟨fun x hx => h.lt x hx, fun x hx => h.ne hx, fun x hx => h.inv hx, fun x y hx hy e => rho_inj hx hy e, fun x y hx hy a b => ?_⟩
  have q := h.nc.nc (rho n m x) (rho n m y) (rho_lt hx) (rho_lt hy) a (by show rho n m y < rho n m (L.getD (rho n m (rho n m x)) 0); rw [rho_rho hx]; exact b)
  simp only [rho_rho hx, rho_rho hy] at q
  exact q
theorem isMat_of {n m : Nat} {L : List Nat} (l : L.length = n + m) (h : Ncs (· < n + m) (rho n m) (gd L)) : IsMat n m L := by
  refine ⟨l, fun p hp => h.mem p hp, ⟨fun i hi => rho_lt (h.mem _ (rho_lt hi)), fun i hi e => ?_, fun i hi => ?_, fun i j hi hj a b => ?_⟩⟩
  · refine h.ne (rho n m i) (rho_lt hi) (rho_inj (h.mem _ (rho_lt hi)) (rho_lt hi) ?_)
    rw [rho_rho hi]; exact e
  · show rho n m (gd L (rho n m (rho n m (gd L (rho n m i))))) = i
    rw [rho_rho (h.mem _ (rho_lt hi)), h.inv _ (rho_lt hi), rho_rho hi]
  · have q := h.nc (rho n m i) (rho n m j) (rho_lt hi) (rho_lt hj) (by rw [rho_rho hi, rho_rho hj]; exact a) (by rw [rho_rho hj]; exact b)
    rw [rho_rho hi] at q
    exact q
section
variable (n m k : Nat) (A B : List Nat)
/-- the pegs of both: 0 .. n + m - 1 those of the one, then those of the other -/
def e0 (x : Nat) : Nat := if x < n + m then gd A x else n + m + gd B (x - (n + m))
def posE (x : Nat) : Nat := if x < n + m then rho n m x else n + m + rho m k (x - (n + m))
/-- the strings when the first j pairs of pegs that meet are taken away -/
def eJ : Nat → Nat → Nat
  | 0 => e0 n m A B
  | j + 1 => cutP (eJ j) (n + j) (n + m + j)
def alive (j x : Nat) : Prop := x < n + m + (m + k) ∧ ¬ (n ≤ x ∧ x < n + j) ∧ ¬ (n + m ≤ x ∧ x < n + m + j)
def inn (x : Nat) : Nat := if x < n then x else x + 2 * m
def out (y : Nat) : Nat := if y < n then y else y - 2 * m
/-- the mates of the other mat behind the one -/
def compN : List Nat := tab (n + k) fun x => out n m (eJ n m A B m (inn n m x))
end
section
variable {n m k : Nat} {A B : List Nat}
theorem e0_l {x : Nat} (h : x < n + m) : e0 n m A B x = gd A x := if_pos h
theorem e0_r {y : Nat} : e0 n m A B (n + m + y) = n + m + gd B y := by
  unfold e0
  rw [if_neg (by omega), Nat.add_sub_cancel_left]
theorem start_ncs (hA : IsMat n m A) (hB : IsMat m k B) : Ncs (alive n m k 0) (posE n m k) (e0 n m A B) := by
  have a := hA.ncs
  have b := hB.ncs
  have pl : ∀ x, x < n + m → posE n m k x = rho n m x ∧ posE n m k x < n + m := fun x hx => by
    have : posE n m k x = rho n m x := if_pos hx
    rw [this]; exact ⟨rfl, rho_lt hx⟩
  have pr : ∀ y, y < m + k → posE n m k (n + m + y) = n + m + rho m k y ∧ rho m k y < m + k := fun y hy => by
    unfold posE
    rw [if_neg (by omega), Nat.add_sub_cancel_left]
    exact ⟨rfl, rho_lt hy⟩
  have two : ∀ x, alive n m k 0 x → x < n + m ∨ ∃ y, y < m + k ∧ x = n + m + y := fun x hx => by
    have := hx.1
    by_cases c : x < n + m
    · exact .inl c
    · exact .inr ⟨x - (n + m), by omega, by omega⟩
  have al : ∀ x, x < n + m + (m + k) → alive n m k 0 x := fun x hx => ⟨hx, by omega, by omega⟩
  refine ⟨fun x hx => ?_, fun x hx => ?_, fun x hx => ?_, fun x y hx hy e => ?_, fun x y hx hy h1 h2 => ?_⟩
  · rcases two x hx with c | ⟨y, hy, rfl⟩
    · rw [e0_l c]; have := a.mem x c; exact al _ (by omega)
    · rw [e0_r]; have := b.mem y hy; exact al _ (by omega)
  · rcases two x hx with c | ⟨y, hy, rfl⟩
    · rw [e0_l c]; exact a.ne x c
    · rw [e0_r]; have := b.ne y hy; omega
  · rcases two x hx with c | ⟨y, hy, rfl⟩
    · rw [e0_l c, e0_l (a.mem x c)]; exact a.inv x c
    · rw [e0_r, e0_r, b.inv y hy]
  · rcases two x hx with c | ⟨x', hx', rfl⟩
    · rcases two y hy with d | ⟨y', hy', rfl⟩
      · rw [(pl x c).1, (pl y d).1] at e; exact rho_inj c d e
      · have := pl x c; have := pr y' hy'; omega
    · rcases two y hy with d | ⟨y', hy', rfl⟩
      · have := pl y d; have := pr x' hx'; omega
      · rw [(pr x' hx').1, (pr y' hy').1] at e
        rw [rho_inj hx' hy' (by omega)]
  · rcases two x hx with c | ⟨x', hx', rfl⟩
    · rw [e0_l c] at h2 ⊢
      have q := pl _ (a.mem x c)
      rcases two y hy with d | ⟨y', hy', rfl⟩
      · rw [e0_l d]
        have q2 := pl _ (a.mem y d)
        rw [(pl x c).1, (pl y d).1] at h1
        rw [(pl y d).1, q.1] at h2
        have := a.nc x y c d h1 h2
        rw [(pl x c).1, q.1, q2.1]; exact this
      · have := pr y' hy'; omega
    · rw [e0_r] at h2 ⊢
      have q := pr _ (b.mem x' hx')
      rcases two y hy with d | ⟨y', hy', rfl⟩
      · have := pl y d; have := pr x' hx'; omega
      · rw [e0_r]
        have q2 := pr _ (b.mem y' hy')
        have p1 := pr x' hx'
        have p2 := pr y' hy'
        have := b.nc x' y' hx' hy' (by omega) (by omega)
        omega
theorem alive_succ {j x : Nat} (hj : j < m) : alive n m k (j + 1) x ↔ alive n m k j x ∧ x ≠ n + j ∧ x ≠ n + m + j := by unfold alive; omega
theorem Ncs.iff {S T : Nat → Prop} {pos f : Nat → Nat} (h : Ncs S pos f) (e : ∀ x, T x ↔ S x) : Ncs T pos f :=
  ⟨fun x hx => (e _).mpr (h.mem x ((e _).mp hx)), fun x hx => h.ne x ((e _).mp hx), fun x hx => h.inv x ((e _).mp hx), fun x y hx hy => h.inj x y ((e _).mp hx) ((e _).mp hy), fun x y hx hy => h.nc x y ((e _).mp hx) ((e _).mp hy)⟩
theorem posE_0 {x : Nat} (h : x < n) : posE n m k x = x := by
  unfold posE; rw [if_pos (by omega)]; exact rho_pos.1 h
theorem posE_1 {x : Nat} (h : n ≤ x) (h2 : x < n + m) : posE n m k x = 2 * n + m - 1 - x := by
  unfold posE; rw [if_pos h2]; exact rho_pos.2 h
theorem posE_2 {x : Nat} (h : n + m ≤ x) (h2 : x < n + 2 * m) : posE n m k x = x := by
  unfold posE; rw [if_neg (by omega), rho_pos.1 (by omega)]; omega
theorem posE_3 {x : Nat} (h : n + 2 * m ≤ x) (h2 : x < n + m + (m + k)) : posE n m k x = 2 * (n + 2 * m) + k - 1 - x := by
  unfold posE; rw [if_neg (by omega), rho_pos.2 (by omega)]; omega
theorem eJ_ncs (hA : IsMat n m A) (hB : IsMat m k B) : ∀ j, j ≤ m → Ncs (alive n m k j) (posE n m k) (eJ n m A B j)
  | 0, _ => start_ncs hA hB
  | j + 1, hj => by
    have ih := eJ_ncs hA hB j (by omega)
    refine (ih.cut (a := n + j) (b := n + m + j) ⟨by omega, by omega, by omega⟩ ⟨by omega, by omega, by omega⟩ (by omega) fun x hx n1 n2 => ?_).iff fun x => alive_succ (by omega)
    rw [posE_1 (x := n + j) (by omega) (by omega), posE_2 (x := n + m + j) (by omega) (by omega)]
    obtain ⟨a, b, c⟩ := hx
    by_cases c1 : x < n
    · rw [posE_0 c1]; omega
    · by_cases c2 : x < n + m
      · rw [posE_1 (by omega) c2]; omega
      · by_cases c3 : x < n + 2 * m
        · rw [posE_2 (by omega) c3]; omega
        · rw [posE_3 (by omega) a]; omega
theorem alive_m {x : Nat} : alive n m k m x ↔ x < n ∨ (n + 2 * m ≤ x ∧ x < n + 2 * m + k) := by unfold alive; omega
theorem inn_alive {x : Nat} (h : x < n + k) : alive n m k m (inn n m x) := by
  rw [alive_m]; unfold inn; split <;> omega
theorem out_inn {x : Nat} : out n m (inn n m x) = x := by unfold out inn; split <;> first | omega | (split <;> omega)
theorem inn_out {y : Nat} (h : alive n m k m y) : inn n m (out n m y) = y ∧ out n m y < n + k := by
  rw [alive_m] at h
  unfold out inn
  split <;> first | omega | (split <;> omega)
theorem comp_get {x : Nat} (h : x < n + k) : gd (compN n m k A B) x = out n m (eJ n m A B m (inn n m x)) := tab_get h
/-- strings that do not cross, put behind strings that do not cross -/
theorem comp_mat (hA : IsMat n m A) (hB : IsMat m k B) : IsMat n k (compN n m k A B) := by
  have h := eJ_ncs hA hB m (Nat.le_refl m)
  have pi : ∀ x, x < n + k → (x < n → posE n m k (inn n m x) = rho n k x) ∧ (n ≤ x → posE n m k (inn n m x) = rho n k x + 2 * m) ∧ (x < n ↔ rho n k x < n) := fun x hx => by
    unfold inn
    refine ⟨fun c => ?_, fun c => ?_, ?_⟩
    · rw [if_pos c, posE_0 c, rho_pos.1 c]
    · rw [if_neg (by omega), posE_3 (by omega) (by omega), rho_pos.2 c]; omega
    · constructor
      · intro c; rw [rho_pos.1 c]; exact c
      · intro c
        by_cases z : x < n
        · exact z
        · rw [rho_pos.2 (by omega)] at c; omega
  have lt : ∀ x y, x < n + k → y < n + k → (posE n m k (inn n m x) < posE n m k (inn n m y) ↔ rho n k x < rho n k y) := fun x y hx hy => by
    have a := pi x hx
    have b := pi y hy
    by_cases c : x < n <;> by_cases d : y < n
    · rw [a.1 c, b.1 d]
    · rw [a.1 c, b.2.1 (by omega)]; omega
    · rw [a.2.1 (by omega), b.1 d]; omega
    · rw [a.2.1 (by omega), b.2.1 (by omega)]; omega
  have mem : ∀ x, x < n + k → gd (compN n m k A B) x < n + k := fun x hx => by
    rw [comp_get hx]; exact (inn_out (h.mem _ (inn_alive hx))).2
  have ig : ∀ x, x < n + k → inn n m (gd (compN n m k A B) x) = eJ n m A B m (inn n m x) := fun x hx => by
    rw [comp_get hx]; exact (inn_out (h.mem _ (inn_alive hx))).1
  refine isMat_of tab_len ⟨mem, fun x hx e => ?_, fun x hx => ?_, fun x y hx hy e => rho_inj hx hy e, fun x y hx hy a b => ?_⟩
  · refine h.ne _ (inn_alive hx) ?_
    rw [← ig x hx, e]
  · rw [comp_get (mem x hx), ig x hx, h.inv _ (inn_alive hx), out_inn]
  · rw [← lt x y hx hy] at a
    rw [← lt y _ hy (mem x hx), ig x hx] at b
    have q := h.nc _ _ (inn_alive hx) (inn_alive hy) a b
    rw [← ig x hx, ← ig y hy] at q
    rw [lt x _ hx (mem y hy), lt _ _ (mem y hy) (mem x hx)] at q
    exact q
end
end HM

/-! Part g: the program's way: a string is followed to its other end; what is not passed is on rings. -/
namespace HM
/-- pegs that meet a peg of the other mat, but the first j pairs -/
def glued (n m j z : Nat) : Prop := (n + j ≤ z ∧ z < n + m) ∨ (n + m + j ≤ z ∧ z < n + 2 * m)
def sig (n m z : Nat) : Nat := if z < n + m then z + m else z - m
/-- from z, where a string has come to, on to its end y, in l steps -/
inductive Go (n m : Nat) (e : Nat → Nat) (j : Nat) : Nat → Nat → Nat → Prop
  | done {z : Nat} (h : ¬ glued n m j z) : Go n m e j 0 z z
  | step {l z y : Nat} (h : glued n m j z) (g : Go n m e j l (e (sig n m z)) y) : Go n m e j (l + 1) z y
section
variable {n m k : Nat} {A B : List Nat}
theorem sig_l {z : Nat} (h : z < n + m) : sig n m z = z + m := if_pos h
theorem sig_r {z : Nat} (h : n + m ≤ z) : sig n m z = z - m := if_neg (by omega)
/-- what a contracted string goes, the string goes -/
theorem Go.lift {pos e : Nat → Nat} {j : Nat} (hj : j < m) (h : Ncs (alive n m k j) pos e) {l z y : Nat} (g : Go n m (cutP e (n + j) (n + m + j)) (j + 1) l z y) (hz : alive n m k (j + 1) z) : ∃ l', Go n m e j l' z y := by
  have aa : alive n m k j (n + j) := ⟨by omega, by omega, by omega⟩
  have ab : alive n m k j (n + m + j) := ⟨by omega, by omega, by omega⟩
  induction g with
  | @done z hn =>
    refine ⟨0, .done fun q => hn ?_⟩
    unfold glued at q ⊢
    unfold alive at hz
    omega
  | @step l z y hg g ih =>
    have hz0 := (alive_succ hj).mp hz
    have gz : glued n m j z := by unfold glued at hg ⊢; omega
    have sz : alive n m k (j + 1) (sig n m z) := by
      unfold glued at hg
      unfold sig alive
      split <;> omega
    have sz0 := (alive_succ hj).mp sz
    have ia := h.inv _ aa
    have ib := h.inv _ ab
    by_cases eab : e (n + j) = n + m + j
    · have ec : cutP e (n + j) (n + m + j) = e := if_pos eab
      rw [ec] at ih
      have al : alive n m k (j + 1) (e (sig n m z)) := (alive_succ hj).mpr ⟨h.mem _ sz0.1, fun q => sz0.2.2 (by rw [← h.inv _ sz0.1, q, eab]), fun q => sz0.2.1 (by rw [← h.inv _ sz0.1, q, ← eab, ia])⟩
      obtain ⟨l', g'⟩ := ih al
      exact ⟨_, .step gz g'⟩
    · have ec : cutP e (n + j) (n + m + j) = tie e (e (n + j)) (e (n + m + j)) := if_neg eab
      rw [ec] at ih
      have far : alive n m k (j + 1) (e (n + m + j)) := (alive_succ hj).mpr ⟨h.mem _ ab, fun q => eab (by rw [← q, ib]), h.ne _ ab⟩
      have near : alive n m k (j + 1) (e (n + j)) := (alive_succ hj).mpr ⟨h.mem _ aa, h.ne _ aa, eab⟩
      have ga : glued n m j (n + j) := .inl ⟨by omega, by omega⟩
      have gb : glued n m j (n + m + j) := .inr ⟨by omega, by omega⟩
      have sa : sig n m (n + j) = n + m + j := by rw [sig_l (by omega)]; omega
      have sb : sig n m (n + m + j) = n + j := by rw [sig_r (by omega)]; omega
      by_cases q1 : sig n m z = e (n + j)
      · rw [q1, tie_a] at ih
        obtain ⟨l', g'⟩ := ih far
        refine ⟨l' + 1 + 1, .step gz ?_⟩
        rw [q1, ia]
        refine .step ga ?_
        rw [sa]
        exact g'
      · by_cases q2 : sig n m z = e (n + m + j)
        · rw [q2, tie_t] at ih
          obtain ⟨l', g'⟩ := ih near
          refine ⟨l' + 1 + 1, .step gz ?_⟩
          rw [q2, ib]
          refine .step gb ?_
          rw [sb]
          exact g'
        · rw [tie_ne q1 q2] at ih
          have al : alive n m k (j + 1) (e (sig n m z)) := (alive_succ hj).mpr ⟨h.mem _ sz0.1, fun q => q1 (by rw [← h.inv _ sz0.1, q]), fun q => q2 (by rw [← h.inv _ sz0.1, q])⟩
          obtain ⟨l', g'⟩ := ih al
          exact ⟨_, .step gz g'⟩
/-- from an end of a string: one stage -/
theorem Go.stage {pos e : Nat → Nat} {j : Nat} (hj : j < m) (h : Ncs (alive n m k j) pos e) {x y : Nat} (hx : alive n m k (j + 1) x) (g : ∃ l, Go n m (cutP e (n + j) (n + m + j)) (j + 1) l (cutP e (n + j) (n + m + j) x) y) : ∃ l, Go n m e j l (e x) y := by
  obtain ⟨l, g⟩ := g
  have aa : alive n m k j (n + j) := ⟨by omega, by omega, by omega⟩
  have ab : alive n m k j (n + m + j) := ⟨by omega, by omega, by omega⟩
  have ia := h.inv _ aa
  have ib := h.inv _ ab
  have hx0 := (alive_succ hj).mp hx
  have ga : glued n m j (n + j) := .inl ⟨by omega, by omega⟩
  have gb : glued n m j (n + m + j) := .inr ⟨by omega, by omega⟩
  have sa : sig n m (n + j) = n + m + j := by rw [sig_l (by omega)]; omega
  have sb : sig n m (n + m + j) = n + j := by rw [sig_r (by omega)]; omega
  by_cases eab : e (n + j) = n + m + j
  · have al : alive n m k (j + 1) (e x) := (alive_succ hj).mpr ⟨h.mem _ hx0.1, fun q => hx0.2.2 (by rw [← h.inv _ hx0.1, q, eab]), fun q => hx0.2.1 (by rw [← h.inv _ hx0.1, q, ← eab, ia])⟩
    have ec : cutP e (n + j) (n + m + j) = e := if_pos eab
    have g2 : Go n m (cutP e (n + j) (n + m + j)) (j + 1) l (e x) y := by rw [ec] at g ⊢; exact g
    exact g2.lift hj h al
  · have ec : cutP e (n + j) (n + m + j) = tie e (e (n + j)) (e (n + m + j)) := if_neg eab
    have far : alive n m k (j + 1) (e (n + m + j)) := (alive_succ hj).mpr ⟨h.mem _ ab, fun q => eab (by rw [← q, ib]), h.ne _ ab⟩
    have near : alive n m k (j + 1) (e (n + j)) := (alive_succ hj).mpr ⟨h.mem _ aa, h.ne _ aa, eab⟩
    have ex : cutP e (n + j) (n + m + j) x = tie e (e (n + j)) (e (n + m + j)) x := by rw [ec]
    rw [ex] at g
    by_cases q1 : x = e (n + j)
    · rw [q1, tie_a] at g
      obtain ⟨l', g'⟩ := g.lift hj h far
      rw [q1, ia]
      refine ⟨l' + 1, .step ga ?_⟩
      rw [sa]
      exact g'
    · by_cases q2 : x = e (n + m + j)
      · rw [q2, tie_t] at g
        obtain ⟨l', g'⟩ := g.lift hj h near
        rw [q2, ib]
        refine ⟨l' + 1, .step gb ?_⟩
        rw [sb]
        exact g'
      · rw [tie_ne q1 q2] at g
        exact g.lift hj h ((alive_succ hj).mpr ⟨h.mem _ hx0.1, fun q => q1 (by rw [← h.inv _ hx0.1, q]), fun q => q2 (by rw [← h.inv _ hx0.1, q])⟩)
theorem go_all (hA : IsMat n m A) (hB : IsMat m k B) {x : Nat} (hx : alive n m k m x) : ∀ d j, j + d = m → ∃ l, Go n m (eJ n m A B j) j l (eJ n m A B j x) (eJ n m A B m x)
  | 0, j, e => by
    have : j = m := by omega
    subst this
    refine ⟨0, .done ?_⟩
    unfold glued; omega
  | d + 1, j, e => by
    have ih := go_all hA hB hx d (j + 1) (by omega)
    refine Go.stage (by omega) (eJ_ncs hA hB j (by omega)) ?_ ih
    unfold alive at hx ⊢; omega
/-- the mate where the program starts, and where it is to come -/
theorem go_start (hA : IsMat n m A) (hB : IsMat m k B) {x : Nat} (hx : x < n + k) : ∃ l y, Go n m (e0 n m A B) 0 l (e0 n m A B (inn n m x)) y ∧ out n m y = gd (compN n m k A B) x := by
  obtain ⟨l, g⟩ := go_all hA hB (inn_alive hx) m 0 (by omega)
  exact ⟨l, _, g, (comp_get hx).symm⟩
/-- the node of a peg of the one (ahead), or of the other -/
def node (n m : Nat) (ahead : Bool) (at_ : Nat) : Nat := if ahead = true then at_ else n + m + at_
theorem go_ahead {l at_ y : Nat} (g : Go n m (e0 n m A B) 0 l (node n m true at_) y) (hr : at_ < n + m) : (at_ < n → y = at_) ∧ (n ≤ at_ → ∃ l', l' < l ∧ Go n m (e0 n m A B) 0 l' (node n m false (gd B (at_ - n))) y) := by
  have e : node n m true at_ = at_ := rfl
  rw [e] at g
  refine ⟨fun h => ?_, fun h => ?_⟩
  · cases g with
    | done => rfl
    | step hg => unfold glued at hg; omega
  · cases g with
    | done hn => exact absurd (by unfold glued; omega) hn
    | @step l _ _ hg g =>
      refine ⟨l, Nat.lt_succ_self l, ?_⟩
      rw [sig_l hr, show at_ + m = n + m + (at_ - n) by omega, e0_r] at g
      exact g
theorem go_back {l at_ y : Nat} (g : Go n m (e0 n m A B) 0 l (node n m false at_) y) : (m ≤ at_ → y = n + m + at_) ∧ (at_ < m → ∃ l', l' < l ∧ Go n m (e0 n m A B) 0 l' (node n m true (gd A (n + at_))) y) := by
  have e : node n m false at_ = n + m + at_ := rfl
  rw [e] at g
  refine ⟨fun h => ?_, fun h => ?_⟩
  · cases g with
    | done => rfl
    | step hg => unfold glued at hg; omega
  · cases g with
    | done hn => exact absurd (by unfold glued; omega) hn
    | @step l _ _ hg g =>
      refine ⟨l, Nat.lt_succ_self l, ?_⟩
      rw [sig_r (by omega), show n + m + at_ - m = n + at_ by omega, e0_l (by omega)] at g
      exact g
/-! ### what is passed -/
def bt (b : List Bool) (i : Nat) : Prop := b.getD i false = true
theorem bt_lt {b : List Bool} {i : Nat} (h : bt b i) : i < b.length := by
  unfold bt at h
  by_cases c : i < b.length
  · exact c
  · rw [List.getD_eq_getElem?_getD, List.getElem?_eq_none (by omega)] at h
    cases h
theorem bt_set {b : List Bool} {i j : Nat} (hj : j < b.length) : bt (b.set j true) i ↔ i = j ∨ bt b i := by
  unfold bt
  by_cases e : i = j
  · rw [e, List.getD_eq_getElem?_getD, List.getElem?_set_self hj]
    exact ⟨fun _ => .inl rfl, fun _ => rfl⟩
  · rw [List.getD_eq_getElem?_getD, List.getElem?_set_ne (Ne.symm e), List.getD_eq_getElem?_getD]
    exact ⟨.inr, fun h => h.elim (fun z => absurd z e) id⟩
def Le (b c : List Bool) : Prop := ∀ i, bt b i → bt c i
theorem Le.refl (b : List Bool) : Le b b := fun _ h => h
theorem Le.trans {b c d : List Bool} (x : Le b c) (y : Le c d) : Le b d := fun i h => y i (x i h)
theorem Le.set {b : List Bool} {j : Nat} (hj : j < b.length) : Le b (b.set j true) := fun i h => (bt_set hj).mpr (.inr h)
/-- what is passed is shut in itself -/
structure Cl (n m : Nat) (A B : List Nat) (b : List Bool) : Prop where
  ca : ∀ i, bt b i → n ≤ gd A (n + i) → bt b (gd A (n + i) - n)
  cb : ∀ i, bt b i → gd B i < m → bt b (gd B i)
/-- .. but for the place where a string has just come to -/
structure Far (n m : Nat) (A B : List Nat) (b : List Bool) (ahead : Bool) (p : Nat) : Prop where
  ca : ∀ i, bt b i → n ≤ gd A (n + i) → bt b (gd A (n + i) - n) ∨ (ahead = true ∧ p = gd A (n + i))
  cb : ∀ i, bt b i → gd B i < m → bt b (gd B i) ∨ (ahead = false ∧ p = gd B i)
  from_a : ahead = true → gd A p < n ∨ bt b (gd A p - n)
  from_b : ahead = false → m ≤ gd B p ∨ bt b (gd B p)
/-- the peg that meets an outer peg's string first is passed -/
def Nbr (n m : Nat) (A B : List Nat) (b : List Bool) (p : Nat) : Prop := (p < n → n ≤ gd A p → bt b (gd A p - n)) ∧ (n ≤ p → gd B (m + p - n) < m → bt b (gd B (m + p - n)))
theorem Nbr.le {b c : List Bool} {p : Nat} (h : Nbr n m A B b p) (l : Le b c) : Nbr n m A B c p := ⟨fun x y => l _ (h.1 x y), fun x y => l _ (h.2 x y)⟩
theorem Cl.start_a {b : List Bool} (h : Cl n m A B b) (hA : IsMat n m A) {p : Nat} (hp : p < n) : Far n m A B b true (gd A p) :=
  ⟨fun i x y => .inl (h.ca i x y), fun i x y => .inl (h.cb i x y), fun _ => .inl (by show gd A (gd A p) < n; rw [show gd A (gd A p) = p from hA.inv (by omega)]; exact hp), (fun x => nomatch x)⟩
theorem Cl.start_b {b : List Bool} (h : Cl n m A B b) (hB : IsMat m k B) {q : Nat} (hq : m ≤ q) (hq2 : q < m + k) : Far n m A B b false (gd B q) :=
  ⟨fun i x y => .inl (h.ca i x y), fun i x y => .inl (h.cb i x y), (fun x => nomatch x), fun _ => .inl (by rw [show gd B (gd B q) = q from hB.inv hq2]; exact hq)⟩
theorem Far.ahead {b : List Bool} {p : Nat} (h : Far n m A B b true p) (hB : IsMat m k B) (hl : b.length = m) (h1 : n ≤ p) (h2 : p < n + m) : Far n m A B (b.set (p - n) true) false (gd B (p - n)) := by
  have hj : p - n < b.length := by omega
  refine ⟨fun i x y => ?_, fun i x y => ?_, (fun x => nomatch x), fun _ => ?_⟩
  · rw [bt_set hj] at x ⊢
    rcases x with rfl | x
    · rw [show n + (p - n) = p by omega] at y ⊢
      rcases h.from_a rfl with z | z
      · omega
      · exact .inl (.inr z)
    · rcases h.ca i x y with z | ⟨_, z⟩
      · exact .inl (.inr z)
      · exact .inl (.inl (by rw [z]))
  · rw [bt_set hj] at x ⊢
    rcases x with rfl | x
    · exact .inr ⟨rfl, rfl⟩
    · rcases h.cb i x y with z | ⟨z, _⟩
      · exact .inl (.inr z)
      · cases z
  · rw [show gd B (gd B (p - n)) = p - n from hB.inv (by omega), bt_set hj]
    exact .inr (.inl rfl)
theorem Far.back {b : List Bool} {p : Nat} (h : Far n m A B b false p) (hA : IsMat n m A) (hl : b.length = m) (h2 : p < m) : Far n m A B (b.set p true) true (gd A (n + p)) := by
  have hj : p < b.length := by omega
  refine ⟨fun i x y => ?_, fun i x y => ?_, fun _ => ?_, (fun x => nomatch x)⟩
  · rw [bt_set hj] at x ⊢
    rcases x with rfl | x
    · exact .inr ⟨rfl, rfl⟩
    · rcases h.ca i x y with z | ⟨z, _⟩
      · exact .inl (.inr z)
      · cases z
  · rw [bt_set hj] at x ⊢
    rcases x with rfl | x
    · rcases h.from_b rfl with z | z
      · omega
      · exact .inl (.inr z)
    · rcases h.cb i x y with z | ⟨_, z⟩
      · exact .inl (.inr z)
      · exact .inl (.inl z.symm)
  · rw [show gd A (gd A (n + p)) = n + p from hA.inv (by omega), bt_set hj]
    exact .inr (.inl (by omega))
theorem Far.end_a {b : List Bool} {p : Nat} (h : Far n m A B b true p) (h1 : p < n) : Cl n m A B b :=
  ⟨fun i x y => (h.ca i x y).elim id (fun z => by have := z.2; omega), fun i x y => (h.cb i x y).elim id (fun z => by have := z.1; simp at this)⟩
theorem Far.end_b {b : List Bool} {p : Nat} (h : Far n m A B b false p) (h1 : m ≤ p) : Cl n m A B b :=
  ⟨fun i x y => (h.ca i x y).elim id (fun z => by have := z.1; simp at this), fun i x y => (h.cb i x y).elim id (fun z => by have := z.2; omega)⟩
theorem cl_none (n m : Nat) (A B : List Nat) (l : Nat) : Cl n m A B (List.replicate l false) := by
  have no : ∀ i, ¬ bt (List.replicate l false) i := fun i h => by
    have hl := bt_lt h
    rw [List.length_replicate] at hl
    unfold bt at h
    rw [List.getD_eq_getElem?_getD, List.getElem?_replicate, if_pos hl] at h
    cases h
  exact ⟨fun i h => absurd h (no i), fun i h => absurd h (no i)⟩
/-- a peg that no string passes: its neighbours on both sides lie between, and no string passes them -/
theorem ring_a {b : List Bool} (hA : IsMat n m A) (h : Cl n m A B b) (hn : ∀ p, p < n + k → Nbr n m A B b p) {i : Nat} (hi : i < m) (nb : ¬ bt b i) : n ≤ gd A (n + i) ∧ gd A (n + i) < n + m ∧ ¬ bt b (gd A (n + i) - n) := by
  have lt : gd A (n + i) < n + m := hA.lt _ (by omega)
  have iv : gd A (gd A (n + i)) = n + i := hA.inv (by omega)
  have ge : n ≤ gd A (n + i) := by
    by_cases c : n ≤ gd A (n + i)
    · exact c
    · exfalso
      have := (hn (gd A (n + i)) (by omega)).1 (by omega) (by rw [iv]; omega)
      rw [iv, Nat.add_sub_cancel_left] at this
      exact nb this
  refine ⟨ge, lt, fun q => nb ?_⟩
  have e : n + (gd A (n + i) - n) = gd A (n + i) := by omega
  have := h.ca _ q (by rw [e, iv]; omega)
  rw [e, iv, Nat.add_sub_cancel_left] at this
  exact this
theorem ring_b {b : List Bool} (hB : IsMat m k B) (h : Cl n m A B b) (hn : ∀ p, p < n + k → Nbr n m A B b p) {i : Nat} (hi : i < m) (nb : ¬ bt b i) : gd B i < m ∧ ¬ bt b (gd B i) := by
  have lt : gd B i < m + k := hB.lt _ (by omega)
  have iv : gd B (gd B i) = i := hB.inv (by omega)
  have ge : gd B i < m := by
    by_cases c : gd B i < m
    · exact c
    · exfalso
      have e : m + (n + (gd B i - m)) - n = gd B i := by omega
      have := (hn (n + (gd B i - m)) (by omega)).2 (by omega) (by rw [e, iv]; exact hi)
      rw [e, iv] at this
      exact nb this
  refine ⟨ge, fun q => nb ?_⟩
  have := h.cb _ q (by rw [iv]; exact hi)
  rw [iv] at this
  exact this
end
/-- how many are not passed -/
def unp (b : List Bool) : Nat := (b.filter fun c => !c).length
theorem unp_set : ∀ {b : List Bool} {j : Nat}, unp (b.set j true) ≤ unp b
  | [], _ => Nat.le_refl _
  | c :: r, 0 => by cases c <;> simp [unp]
  | c :: r, j + 1 => by
    have := unp_set (b := r) (j := j)
    unfold unp at *
    cases c <;> simp <;> omega
theorem unp_lt : ∀ {b : List Bool} {j : Nat}, j < b.length → ¬ bt b j → unp (b.set j true) < unp b
  | [], j, h, _ => absurd h (Nat.not_lt_zero j)
  | c :: r, 0, _, h => by
    cases c
    · simp [unp]
    · exact absurd rfl h
  | c :: r, j + 1, hl, h => by
    have := unp_lt (b := r) (j := j) (by simpa using hl) (by intro q; exact h (by unfold bt at *; simpa using q))
    unfold unp at *
    cases c <;> simp <;> omega
/-! ### the first in two sorted lists of the same things -/
theorem find_sorted {α : Type} {lt : α → α → Prop} (irr : ∀ x, ¬ lt x x) (tri : ∀ x y, ¬ lt x y → ¬ lt y x → x = y) {l l' : List α} (hl : l.Pairwise fun x y => ¬ lt y x) (hl' : l'.Pairwise fun x y => ¬ lt y x) (same : ∀ x, x ∈ l ↔ x ∈ l') (p : α → Bool) : l.find? p = l'.find? p := by
  have least : ∀ {l : List α} {x : α}, l.Pairwise (fun x y => ¬ lt y x) → l.find? p = some x → x ∈ l ∧ p x = true ∧ ∀ y ∈ l, p y = true → ¬ lt y x := by
    intro l x hl h
    obtain ⟨hp, as, bs, e, hno⟩ := List.find?_eq_some_iff_append.mp h
    refine ⟨by rw [e]; simp, hp, fun y hy hyp => ?_⟩
    rw [e] at hy hl
    rcases List.mem_append.mp hy with q | q
    · have := hno y q
      rw [hyp] at this
      cases this
    · rcases List.mem_cons.mp q with rfl | q
      · exact irr _
      · exact (List.pairwise_cons.mp (List.pairwise_append.mp hl).2.1).1 y q
  cases h : l.find? p with
  | none =>
    symm
    rw [List.find?_eq_none] at h ⊢
    exact fun x hx => h x ((same x).mpr hx)
  | some x =>
    obtain ⟨a1, a2, a3⟩ := least hl h
    cases h' : l'.find? p with
    | none =>
      rw [List.find?_eq_none] at h'
      exact absurd a2 (h' x ((same x).mp a1))
    | some y =>
      obtain ⟨b1, b2, b3⟩ := least hl' h'
      rw [tri x y (b3 x ((same x).mp a1) a2) (a3 y ((same y).mpr b1) b2)]
end HM

/-! Part h: above and below exchanged. -/
namespace HM
def upP (n m y : Nat) : Nat := if n ≤ y then y - n else y + m
def upL (n m : Nat) (L : List Nat) : List Nat := L.map (upP n m)
def upN (n m : Nat) (L : List Nat) : List Nat := (upL n m L).drop n ++ (upL n m L).take n
def swP (n m p : Nat) : Nat := if p < m then p + n else p - m
theorem upL_get {n m : Nat} {L : List Nat} {i : Nat} (h : i < L.length) : (upL n m L).getD i 0 = upP n m (L.getD i 0) := by
  unfold upL
  rw [List.getD_eq_getElem?_getD, List.getElem?_map, getD_lt h]; rfl
theorem upN_len {n m : Nat} {L : List Nat} (h : L.length = n + m) : (upN n m L).length = m + n := by
  unfold upN upL
  rw [List.length_append, List.length_drop, List.length_take, List.length_map, h]; omega
theorem upN_get {n m : Nat} {L : List Nat} (h : L.length = n + m) {p : Nat} (hp : p < m + n) : (upN n m L).getD p 0 = upP n m (L.getD (swP n m p) 0) := by
  have hl : (upL n m L).length = n + m := by unfold upL; rw [List.length_map, h]
  have key : (upN n m L)[p]? = (upL n m L)[swP n m p]? := by
    unfold upN swP
    by_cases c : p < m
    · rw [if_pos c, List.getElem?_append_left (by rw [List.length_drop, hl]; omega), List.getElem?_drop, Nat.add_comm]
    · rw [if_neg c, List.getElem?_append_right (by rw [List.length_drop, hl]; omega), List.length_drop, hl, List.getElem?_take, if_pos (by omega)]
      congr 1
      omega
  have hs : swP n m p < L.length := by unfold swP; split <;> omega
  rw [← upL_get hs, List.getD_eq_getElem?_getD, List.getD_eq_getElem?_getD, key]
theorem sw_rho {n m s : Nat} (h : s < n + m) : swP n m (rho m n s) = rho n m (n + m - 1 - s) := by
  unfold swP rho
  by_cases c : s < m
  · rw [if_pos c, if_pos c, if_neg (by omega)]; omega
  · rw [if_neg c, if_neg (by omega), if_pos (by omega)]; omega
theorem rho_up {n m y : Nat} (h : y < n + m) : rho m n (upP n m y) = n + m - 1 - rho n m y := by
  unfold upP rho
  by_cases c : n ≤ y
  · rw [if_pos c, if_pos (by omega), if_neg (by omega)]; omega
  · rw [if_neg c, if_neg (by omega), if_pos (by omega)]; omega
theorem Nc.rev {N : Nat} {f : Nat → Nat} (h : Nc N f) : Nc N (fun s => N - 1 - f (N - 1 - s)) := by
  refine ⟨fun i hi => by show N - 1 - _ < N; omega, fun i hi e => ?_, fun i hi => ?_, fun i j hi hj a b => ?_⟩
  · have h1 := h.lt (N - 1 - i) (by omega)
    have h2 := h.ne (N - 1 - i) (by omega)
    have e' : N - 1 - f (N - 1 - i) = i := e
    omega
  · have h1 := h.lt (N - 1 - i) (by omega)
    show N - 1 - f (N - 1 - (N - 1 - f (N - 1 - i))) = i
    rw [show N - 1 - (N - 1 - f (N - 1 - i)) = f (N - 1 - i) by omega, h.inv _ (by omega)]
    omega
  · have b' : j < N - 1 - f (N - 1 - i) := b
    have h1 := h.lt (N - 1 - i) (by omega)
    have h2 := h.lt (N - 1 - j) (by omega)
    have h3 := h.nc (f (N - 1 - i)) (N - 1 - j) h1 (by omega) (by omega) (by rw [h.inv _ (by omega)]; omega)
    rw [h.inv _ (by omega)] at h3
    show i < N - 1 - f (N - 1 - j) ∧ N - 1 - f (N - 1 - j) < N - 1 - f (N - 1 - i)
    omega
theorem up_mat {n m : Nat} {L : List Nat} (h : IsMat n m L) : IsMat m n (upN n m L) := by
  refine ⟨upN_len h.len, fun p hp => ?_, ?_⟩
  · rw [upN_get h.len hp]
    have := h.lt (swP n m p) (by unfold swP; split <;> omega)
    unfold upP; split <;> omega
  · have a := h.nc.rev
    rw [Nat.add_comm m n]
    refine a.congr fun s hs => ?_
    show rho m n ((upN n m L).getD (rho m n s) 0) = n + m - 1 - rho n m (L.getD (rho n m (n + m - 1 - s)) 0)
    have hr := rho_lt (n := m) (m := n) (x := s) (by omega)
    rw [upN_get h.len hr, sw_rho hs, rho_up (h.lt _ (rho_lt (by omega)))]
end HM

/-! The text by places. -/
namespace HM
open PySem PySem.Spec PyProof.Rows L2
def topS (i : Nat) : Stmt := PySem.Challenge.pw_hookmats_k16_whole_fits_between.main.body.getD i (.Pass ⟨0, 0, 0, 0⟩)
abbrev sRound : Stmt := topS 6
abbrev sIsMat : Stmt := topS 7
abbrev sChecked : Stmt := topS 8
abbrev sCounts : Stmt := topS 9
abbrev sRemade : Stmt := topS 10
abbrev sPatterns : Stmt := topS 11
abbrev sAllMats : Stmt := topS 12
abbrev sFarEnd : Stmt := topS 14
abbrev sLoose : Stmt := topS 15
abbrev sPutBehind : Stmt := topS 16
abbrev sMatBehind : Stmt := topS 17
abbrev sCheckPair : Stmt := topS 18
abbrev sFits : Stmt := topS 19
abbrev sWell : Stmt := topS 21
abbrev sDip : Stmt := topS 22
abbrev sLMat : Stmt := topS 23
abbrev sLBehind : Stmt := topS 24
abbrev sLAll : Stmt := topS 25
abbrev sUpside : Stmt := topS 26
abbrev sSame : Stmt := topS 27
abbrev sThree : Stmt := topS 28
abbrev sLaw : Stmt := topS 29
end HM

/-! Rules that lack: list(range(a, b, c)), a call with keywords alone, enumerate of a tuple. -/
namespace HM
open PySem PySem.Spec PyProof.Rows L2
section
variable {X : Cx}
/-! ### list(range(a, b, c)) -/
def rg3 (a c : Int) (n : Nat) : List V := (List.range n).map fun i => V.int (a + (i : Nat) * c)
theorem vals_rg3 {a c : Int} {n : Nat} {acc : Array Value} (h : ItemsOf (fun i v => ∃ t, v = .int (a + i * c) t) acc n) : Vals (rg3 a c n) acc.toList := by
  have e : acc.toList.length = n := by rw [Array.length_toList]; exact h.1
  unfold rg3
  rw [← e]
  refine vals_of_get acc.toList _ fun j u hj => ?_
  obtain ⟨t, rfl⟩ := h.2 j u (by rw [← hj, Array.getElem?_toList])
  exact ⟨t, rfl⟩
def tLstRg3 (ta : TA) : TE := fun σ H Q => ta σ H fun vs H1 => ∃ (i j c : Int) (n : Nat), vs = [.int i, .int j, .int c] ∧ RgC i j c n ∧ n ≤ 2 ^ 24 ∧ ∀ q, H1 q = none → Q (.ref q) (upd H1 q (.lst (rg3 i c n)))
theorem pe_listRg3 {a b c : Expr} {ta : TA} {p pos p2 pos2 : Pos} (hc : X.calm = true) (hl : Gl X "list") (ml : X.mg "list" = none) (hg : Gl X "range") (hm : X.mg "range" = none) (ha : PA X [a, b, c] ta)
    (hs : starEach [a, b, c] X.env = (false, eval a X.env) :: starEach [b, c] X.env := by rfl) (hpl : (backTo pos (starEach [b, c] X.env)).any (·.1) = false := by rfl)
    (na : starEach [Expr.Call (.Name "range" p) [a, b, c] [] pos] X.env = (false, eval (Expr.Call (.Name "range" p) [a, b, c] [] pos) X.env) :: starEach [] X.env := by rfl) :
    PE X (.Call (.Name "list" p2) [.Call (.Name "range" p) [a, b, c] [] pos] [] pos2) (tLstRg3 ta) := by
  refine ⟨fun pins s σ H Q I h => ?_⟩
  refine Call_ (ld_blt I hl ml boot_list (PyProof.Rows.callWith_type1 (args_cons (Q := fun us s' => _) (thn (Q := fun x s' => ∃ (r : Addr) (i j k : Int) (t u v : Tok) (n : Nat) (H' : Hp), x = .ref r ∧ IsRange s'.heap r i j k t u v ∧ Inv X pins σ H' s' ∧ RgC i j k n ∧ n ≤ 2 ^ 24 ∧ ∀ q, H' q = none → Q (.ref q) (upd H' q (.lst (rg3 i k n)))) ?_ fun x s1 ⟨r, i, j, k, t, u, v, n, H1, ex, hr, I1, ok, hn, q⟩ => args_nil ?_) na) na))
  · refine Call_ (ld_blt I hg hm boot_range (PyProof.Rows.callWith_type1 (thn (ha.run pos pins s σ H _ I h) fun us s1 ⟨vs, H1, I1, r1, q1⟩ => ?_) hs hpl))
    obtain ⟨i, j, k, n, e, ok, hn, q⟩ := q1
    subst e
    cases r1 with
    | cons r rr =>
      cases rr with
      | cons r' rr =>
        cases rr with
        | cons r'' rr =>
          cases rr
          obtain ⟨t, rfl⟩ := r
          obtain ⟨t', rfl⟩ := r'
          obtain ⟨t'', rfl⟩ := r''
          refine call_range_3 ok.1 ?_ (.inl (PyProof.noPylong_small ok.2.1))
          exact ⟨_, i, j, k, t, t', t'', n, H1, rfl, IsRange.new .., I1.kept (t' := s1.toks) fun b o e => Heap.get?_push_of_some _ e, ok, hn, q⟩
  · subst ex
    obtain ⟨c0, c1, c2, c3⟩ := ok
    refine call_list_range (n := n) (I1.ok.hd hc) hr c2 c3 hn fun h' tk acc c' hk e' hi => ?_
    refine ⟨.ref s1.heap.objs.size, upd H1 s1.heap.objs.size (.lst (rg3 i k n)), I1.laid hk (Nat.le_refl _) (show ObjOk X.prog X.w _ _ _ (.lst (rg3 i k n)) from ⟨?_, acc.toList, c', vals_rg3 hi, ?_⟩), rfl, q _ (I1.hok.fresh (Nat.le_refl _))⟩
    · unfold rg3
      rw [List.length_map, List.length_range, sizeLine_eq]; omega
    · rw [Array.toArray_toList]; exact e'
/-! ### f(k = v, ..) -/
section
variable {CX : CXT} {k n : Nat} {f : Addr} {fd : FuncData} {ps ks : List Str} {sp : Sp} {E : XK} {x : Str} {p pos : Pos} {kws : List Keyword} {tk : TA} {g : List Value → List Value → List Value} {gV : List V → List V → List V}
theorem pe_callN0 (F : FnOk X.prog X.w X.K X.mg X.base CX k f fd ps sp) (hr : Room k X.A) (hg : Gl X x) (hm : X.mg x = some (.ref f)) (hk : PySem.W.keepIn X.K (.ref f) = true) (hb : KBn X.K fd ps 0 ks g gV) (hx : Passes CX X E)
    (hkw : PK X kws tk) (hall : (backToKw pos (keywordEach kws X.env)).all (·.1.isSome) = true := by rfl) (hks : (backToKw pos (keywordEach kws X.env)).filterMap (·.1) = ks := by rfl) (hdb : (x == ("__debug__" : Str)) = false := by decide)
    (hpl : ((backTo pos (starEach [] X.env)).any (·.1) || (backToKw pos (keywordEach kws X.env)).any (·.1.isNone)) = false := by rfl) :
    PE X (.Call (.Name x p) [] kws pos) (tCallN 0 ks.length sp gV E tNil tk) := by
  refine ⟨fun pins s σ H Q I h => ?_⟩
  refine wpAny_Call_Name_kw (ld_glob I hg hm ?_ hdb)
  refine PySem.W.callWith_KW0 (h₀ := X.base) I.ok.mod.kin hk hall ?_ hpl
  refine thn (hkw.run pos pins s σ H _ I h) fun ws s2 ⟨zs, H2, I2, rz, l1, l2, q2⟩ => ⟨I2.kIn, ?_⟩
  rw [hks]
  exact run_fnN (us := []) (vs := []) F hr hb hx I2 .nil rz rfl l2 q2
end
/-! ### enumerate(tuple) -/
theorem begins_enumT (t : Addr) (items : Array Value) : Meets (Builtin.«enumerate.__new__» ⟨[.type "enumerate", .ref t], []⟩) (fun _ R s => s.heap.IsTuple t items ∧
      R (.ok (.ret (.ref (s.heap.push { cls := .type "tuple_iterator", data := .fields #[.ref t, .int 0 0] }).objs.size)))
        { s with heap := (s.heap.push { cls := .type "tuple_iterator", data := .fields #[.ref t, .int 0 0] }).push { cls := .type "enumerate", data := .fields #[.none, .bool false, .ref s.heap.objs.size, rawInt 0, .none, .none] } }) :=
  .of_wp fun prog w A R s h => by
    obtain ⟨hp, g, d, tk, os⟩ := s; obtain ⟨hl, h⟩ := h
    have hsub := sub_enumerate
    have hL : Heap.IsTuple (Shared.heap ⟨hp, g, d, tk, os⟩) t items := hl
    wp_walk using wpAny_pyIter_tuple hL
    refine wpAny_stack_any fun st => wpAny_pure ?_
    split
    · rename_i c _ _ _ _ _
      cases (c == Value.type "enumerate")
      · wp_walk using wpAny_pyIter_tuple hL
        exact ⟨_, rfl, h⟩
      · wp_walk using wpAny_pyIter_tuple hL
        exact ⟨_, rfl, h⟩
    · wp_walk using wpAny_pyIter_tuple hL
      exact ⟨_, rfl, h⟩
theorem call_enumerate_tuple {prog : Program} {w : World} {A : Around} {E : Value → Shared → Prop} {s : Shared} {l : Addr} {items : Array Value} {Q : Value → Shared → Prop} (hL : s.heap.IsTuple l items)
    (h : ∀ h', IsEnum h' (s.heap.objs.size + 1) s.heap.objs.size 0 .none → h'.IsTupleIter s.heap.objs.size l 0 → h'.objs.size = s.heap.objs.size + 2 →
      (∀ b o, s.heap.get? b = some o → h'.get? b = some o) → Q (.ref (s.heap.objs.size + 1)) { s with heap := h' }) :
    wpAny (model prog w) A (call (.type "enumerate") [.ref l]) Q E s := by
  refine callType_new F.called_enumerate (by decide) (F.typeCall_enumerate_1 _) (F.newCall_enumerate_1 _) (fun obj => F.args_object_init_2 obj _) F.entry_enumerate_new
    (begins_enumT l items) ⟨hL, ?_⟩
  have hz : (s.heap.push { cls := .type "tuple_iterator", data := .fields #[.ref l, .int 0 0] }).objs.size = s.heap.objs.size + 1 := Heap.size_push ..
  show _ ∧ _
  rw [hz]
  have he : IsEnum ((s.heap.push { cls := .type "tuple_iterator", data := .fields #[.ref l, .int 0 0] }).push
      { cls := .type "enumerate", data := .fields #[.none, .bool false, .ref s.heap.objs.size, rawInt 0, .none, .none] }) (s.heap.objs.size + 1) s.heap.objs.size 0 .none := by
    have := Heap.get?_push_size (s.heap.push { cls := .type "tuple_iterator", data := .fields #[.ref l, .int 0 0] })
      (o := { cls := .type "enumerate", data := .fields #[.none, .bool false, .ref s.heap.objs.size, rawInt 0, .none, .none] }) rfl
    rw [hz] at this; exact this
  refine ⟨⟨_, he, rfl⟩, h _ he ⟨_, Heap.get?_push_of_some _ (Heap.get?_push_size _ rfl), rfl, rfl⟩ (by rw [Heap.size_push, hz]) fun b o x => Heap.get?_push_of_some _ (Heap.get?_push_of_some _ x)⟩
/-- the tuple at a, each item in a new pair -/
def IteT (K : PySem.W.Frag) (a : Addr) : It :=
  ⟨fun i H => ∃ (xs : List V) (x : V), SqT K H a xs ∧ xs[i]? = some x, fun i H v H' => ∃ T x, v = .ref T ∧ H T = none ∧ H' = upd H T (.tup [.int (i : Nat), x]) ∧ ∀ xs, SqT K H a xs → xs[i]? = some x, fun i H => ∃ xs : List V, SqT K H a xs ∧ xs.length = i⟩
theorem turn_enumT {P : Program} {w : World} {K : PySem.W.Frag} {elts : List Expr} {kk : Nat} {tpos : Pos} (a e it : Addr) (hai : a ≠ it) :
    Turn P w K (.Tuple elts kk tpos) (IteT K a) [e, it] e (fun i h => (∃ old, IsEnum h e it ((i : Nat) : Int) old) ∧ h.IsTupleIter it a i ∧ e ≠ it) where
  mem := by simp
  obj := fun i h st b hb => by
    obtain ⟨⟨old, he⟩, ⟨o, ho, hc, hd⟩, _⟩ := st
    have e' : b = e ∨ b = it := by simpa using hb
    rcases e' with z | z
    · rw [z]; exact ⟨_, he, fun v q => nomatch q⟩
    · rw [z]; exact ⟨o, ho, fun v q => by rw [hd] at q; cases q⟩
  keep := fun i h h' st k => let ⟨⟨old, he⟩, hi, hne⟩ := st; ⟨⟨old, k e (by simp) _ he⟩, hi.at fun o q => k it (by simp) o q, hne⟩
  item := by
    intro X hP hw hK hc i pins s σ H E I hf st hg
    subst hP hw hK
    obtain ⟨⟨old, he⟩, hit, hne⟩ := st
    obtain ⟨xs, x, hq, hx⟩ := hg
    obtain ⟨its, rv, p, hz⟩ := I.tuple hq
    obtain ⟨u, hu, ru⟩ := rv.get hx
    have hel : e < s.heap.objs.size := Heap.lt_size he
    have hil : it < s.heap.objs.size := by obtain ⟨_, q, _⟩ := hit; exact Heap.lt_size q
    have D := Draws.tuple (prog := X.prog) (w := X.w) (A := X.A.in1) (I.ok.hd hc) it a hai its.toArray
    have hlt : i < its.toArray.size := by
      rw [List.size_toArray]
      exact (List.getElem?_eq_some_iff.mp hu).1
    by_cases hea : e = a
    · exfalso
      obtain ⟨o, ho, hcl, _⟩ := id p
      rw [← hea, he] at ho
      cases ho
      have z : ("enumerate" : String) = "tuple" := by injection hcl
      exact absurd z (by decide)
    · refine wpAny_pyNext_enum_itemD D he ⟨hit, p⟩ hlt hne (by simp [hne, hea]) fun x' h' tk hPx ho hst' hT hsz hk => ?_
      have ex' : x' = u := by
        have : its.toArray[i]? = some u := by simpa using hu
        rw [this] at hPx
        exact (Option.some.inj hPx).symm
      subst ex'
      refine ⟨_, rfl, wpAny_letOwnedTupleGo_enum (s := { s with heap := h', toks := tk + 1 }) ho fun h'' he' sb => ?_⟩
      have hT2 : h''.get? s.heap.objs.size = some { cls := .type "tuple", data := .seq #[.int i tk, x'] } := (sb.2 _ (Nat.ne_of_gt hel)).trans hT
      have new : ObjOk X.prog X.w (upd H s.heap.objs.size (.tup [.int (i : Nat), x])) h'' s.heap.objs.size (.tup [.int (i : Nat), x]) :=
        ⟨by show 2 ≤ sizeLine; decide, [.int i tk, x'], .cons ⟨_, rfl⟩ (.cons ru .nil), ⟨_, hT2, rfl, _, rfl⟩⟩
      have I1 : Inv X pins σ (upd H s.heap.objs.size (.tup [.int (i : Nat), x])) { s with heap := h'', toks := tk + 1 } :=
        I.turnedNew (ch := [e, it]) (fun b ob hb q => (sb.2 b (fun z => hb (by simp [z]))).trans (hk b ob (fun z => hb (by simp [z])) (fun z => hb (by simp [z])) q)) hf (Nat.le_refl _) new
      refine ⟨.ref s.heap.objs.size, _, I1, rfl, ⟨_, x, rfl, I.hok.fresh (Nat.le_refl _), rfl, fun ys hy => by rw [I.tuple_inj hy hq]; exact hx⟩, ⟨⟨x', ?_⟩, hst'.1.at fun o q => (sb.2 it (Ne.symm hne)).trans q, hne⟩, fun b hb => ?_⟩
      · have e1 : ((i + 1 : Nat) : Int) = (i : Int) + 1 := by omega
        rw [e1]; exact he'
      · have hb' : b < s.heap.objs.size := by
          have e' : b = e ∨ b = it := by simpa using hb
          rcases e' with z | z
          · rw [z]; exact hel
          · rw [z]; exact hil
        rw [upd_ne (Nat.ne_of_lt hb')]
        exact (hf b hb).1
  done := by
    intro X hP hw hK hc i pins s σ H E I hf st hg
    subst hP hw hK
    obtain ⟨⟨old, he⟩, hit, hne⟩ := st
    obtain ⟨xs, hq, hx⟩ := hg
    obtain ⟨its, rv, p, hz⟩ := I.tuple hq
    obtain ⟨f0, f1, f2, f3, f4, f5⟩ := hf it (by simp)
    have hl := rv.length
    have D := Draws.tuple (prog := X.prog) (w := X.w) (A := X.A.in1) (I.ok.hd hc) it a hai its.toArray
    have hi : its.toArray.size = i := by rw [List.size_toArray]; omega
    have hit' : s.heap.IsTupleIter it a its.toArray.size := by rw [hi]; exact hit
    exact wpAny_pyNext_enum_endD D he ⟨hit', p⟩ fun h' eb => ⟨rfl, I.turned (t' := s.toks) (fun b o hb q => eb b o hb q) f0 f1 f3 f4 f5⟩
  self := fun A i s Q E st h => let ⟨⟨_, he⟩, _⟩ := st; wpAny_pyIter_enum he h
def iEnumT (K : PySem.W.Frag) (ta : TA) : TI := fun σ H R => ta σ H fun vs H1 => ∃ a xs, vs = [.ref a] ∧ SqT K H1 a xs ∧ R (IteT K a) H1
theorem pi_enumT {e : Expr} {ta : TA} {p pos tpos : Pos} {elts : List Expr} {kk : Nat} (hg : Gl X "enumerate") (hm : X.mg "enumerate" = none) (ha : PA X [e] ta) (hs : starEach [e] X.env = [(false, eval e X.env)] := by rfl) :
    PI X (.Tuple elts kk tpos) (.Call (.Name "enumerate" p) [e] [] pos) (iEnumT X.K ta) := by
  refine ⟨fun pins s σ H R I h => ?_⟩
  refine Call_ (ld_blt I hg hm boot_enumerate (PyProof.Rows.callWith_type1 (thn (ha.run pos pins s σ H _ I h) fun us s1 ⟨vs, H1, I1, r1, q1⟩ => ?_) hs rfl))
  obtain ⟨a, xs, ex, hq, q⟩ := q1
  subst ex
  cases r1 with
  | cons r rr =>
    cases rr
    cases r
    obtain ⟨its, rv, p', hz⟩ := I1.tuple hq
    have hal : a < s1.heap.objs.size := p'.lt
    refine call_enumerate_tuple p' fun h' he hit hsz hk => wpAny_pyIter_enum he ?_
    have I2 : Inv X pins σ H1 { s1 with heap := h' } := I1.kept (t' := s1.toks) hk
    refine ⟨s1.heap.objs.size + 1, [s1.heap.objs.size + 1, s1.heap.objs.size], _, _, H1, rfl, I2, turn_enumT a (s1.heap.objs.size + 1) s1.heap.objs.size (Nat.ne_of_lt hal), ⟨⟨.none, he⟩, hit, Nat.succ_ne_self _⟩, fun b hb => ?_, q⟩
    have e' : b = s1.heap.objs.size + 1 ∨ b = s1.heap.objs.size := by simpa using hb
    have hle : s1.heap.objs.size ≤ b := by
      rcases e' with z | z
      · rw [z]; exact Nat.le_add_right _ _
      · rw [z]; exact Nat.le_refl _
    exact I1.fpOk hle (I1.hok.fresh hle)
end
end HM

/-! sorted of a list of mats. -/
namespace HM
open PySem PySem.Spec PyProof.Rows L2
def castL (L : List Nat) : List Int := L.map fun (x : Nat) => (x : Int)
theorem castL_inj : ∀ {A B : List Nat}, castL A = castL B → A = B
  | [], [], _ => rfl
  | [], _ :: _, h => by cases h
  | _ :: _, [], h => by cases h
  | a :: A, b :: B, h => by
    have h1 : (a : Int) = (b : Int) := (List.cons.inj h).1
    have h2 : castL A = castL B := (List.cons.inj h).2
    rw [castL_inj h2, show a = b by omega]
/-- a mat as data -/
def encM (n m : Nat) (L : List Nat) : PyData := .tuple [.int n, .int m, .tuple ((castL L).map .int)]
theorem encM_alike (n m : Nat) (A B : List Nat) : PySem.W.alike (encM n m A) (encM n m B) = true := by
  unfold encM
  simp only [PySem.W.alike, PySem.W.alikeAll, PySem.W.alike_ints, Bool.and_self]
theorem encM_depth (n m : Nat) (A : List Nat) : (encM n m A).depth ≤ 2 := by
  unfold encM
  simp only [PyData.depth, PyData.depthAll, PySem.W.depth_ints]
  omega
theorem lt_encM (n m : Nat) (A B : List Nat) : PySem.W.dataLt (encM n m A) (encM n m B) = decide (castL A < castL B) := by
  unfold encM
  rw [PySem.W.dataLt_tuple, PySem.W.dataLt_cons (by simp [PySem.W.alike]), PySem.W.dataLt_cons (by simp [PySem.W.alike]), PySem.W.dataLt_cons (by simp only [PySem.W.alike, PySem.W.alike_ints])]
  have e0 : PyProof.Rows.lexLt PyProof.Rows.itemOrd (PySem.W.keyToksAll []) (PySem.W.keyToksAll []) = false := PyProof.Rows.lex_irrefl _
  rw [if_pos (by simp [PyData.eqv]), if_pos (by simp [PyData.eqv]), e0, PySem.W.dataLt_tuple]
  show (if _ then false else PySem.W.rowLt _ _) = _
  rw [PySem.W.dataLt_ints]
  by_cases h : PyData.eqv (.tuple ((castL A).map PyData.int)) (.tuple ((castL B).map PyData.int)) = true
  · rw [if_pos h]
    have : castL A = castL B := by
      revert h
      generalize castL A = X
      generalize castL B = Y
      intro h
      have h : PyData.eqvAll (X.map PyData.int) (Y.map PyData.int) = true := by simpa [PyData.eqv] using h
      induction X generalizing Y with
      | nil =>
        cases Y with
        | nil => rfl
        | cons y Y => simp [PyData.eqvAll] at h
      | cons x X ih =>
        cases Y with
        | nil => simp [PyData.eqvAll] at h
        | cons y Y =>
          simp [PyData.eqvAll, PyData.eqv] at h
          rw [h.1, ih _ (by simpa [PyData.eqv] using h.2) h.2]
    rw [this]
    symm
    exact decide_eq_false (List.lt_irrefl _)
  · exact if_neg h
/-- the order of mats of one size -/
def leM (x y : V × List Nat) : Bool := decide (castL x.2 ≤ castL y.2)
theorem le_encM (n m : Nat) : PySem.W.dataLe false (fun x : V × List Nat => encM n m x.2) = leM := by
  funext p q
  show (!PySem.W.dataLt (encM n m q.2) (encM n m p.2)) = _
  rw [lt_encM]
  unfold leM
  by_cases h : castL q.2 < castL p.2
  · have h' : ¬ castL p.2 ≤ castL q.2 := fun r => List.not_lt.mpr r h
    simp [h, h']
  · have h' : castL p.2 ≤ castL q.2 := List.not_lt.mp h
    simp [h, h']
def sortM (xs : List (V × List Nat)) : List (V × List Nat) := xs.mergeSort leM
theorem mem_sortM {xs : List (V × List Nat)} {x : V × List Nat} : x ∈ sortM xs ↔ x ∈ xs := (List.mergeSort_perm xs leM).mem_iff
theorem sortM_len (xs : List (V × List Nat)) : (sortM xs).length = xs.length := (List.mergeSort_perm xs leM).length_eq
theorem sortM_pw (xs : List (V × List Nat)) : (sortM xs).Pairwise fun x y => ¬ castL y.2 < castL x.2 := by
  have h := List.pairwise_mergeSort (le := leM) (fun a b c h1 h2 => by
    unfold leM at *
    simp only [decide_eq_true_eq] at *
    exact List.le_trans h1 h2) (fun a b => by
    unfold leM
    simp only [Bool.or_eq_true, decide_eq_true_eq]
    exact List.le_total _ _) xs
  refine h.imp fun {a b} h => ?_
  unfold leM at h
  exact List.not_lt.mpr (of_decide_eq_true h)
/-- sorted lists of the same mats: the first that fits is one mat -/
theorem find_mats {l l' : List (List Nat)} (hl : l.Pairwise fun x y => ¬ castL y < castL x) (hl' : l'.Pairwise fun x y => ¬ castL y < castL x) (same : ∀ x, x ∈ l ↔ x ∈ l') (p : List Nat → Bool) : l.find? p = l'.find? p :=
  find_sorted (lt := fun x y => castL x < castL y) (fun x => List.lt_irrefl _) (fun x y h1 h2 => castL_inj (List.le_antisymm (List.not_lt.mp h2) (List.not_lt.mp h1))) hl hl' same p
/-- sorted(xs), xs a list of mats of n and m -/
def rSortedM (K : PySem.W.Frag) : List V → Hp → VK → Prop := fun vs H Q => ∃ (a : Addr) (xs : List (V × List Nat)) (n m : Nat), vs = [V.ref a] ∧ SqL K H a (xs.map (·.1)) ∧ (∀ x ∈ xs, Dp K H x.1 (encM n m x.2)) ∧
  ∀ p, H p = none → Q (.ref p) (upd H p (.lst ((sortM xs).map (·.1))))
section
variable {X : Cx}
theorem each_of_vals {R : Value → (V × List Nat) → Prop} : ∀ {xs : List (V × List Nat)} {us : List Value}, Vals (xs.map (·.1)) us → (∀ x ∈ xs, ∀ u, RelV x.1 u → R u x) → PySem.W.EachIs R us xs
  | [], us, r, _ => by
    rw [List.map_nil] at r
    cases r
    exact .nil
  | x :: xs, us, r, h => by
    rw [List.map_cons] at r
    cases r with
    | cons a t => exact .cons (h x List.mem_cons_self _ a) (each_of_vals t fun y hy u q => h y (List.mem_cons_of_mem _ hy) u q)
theorem vals_of_each : ∀ {xs : List (V × List Nat)} {us : List Value}, PySem.W.EachIs (fun v b => RelV b.1 v) us xs → Vals (xs.map (·.1)) us
  | _, _, .nil => .nil
  | _, _, .cons h t => .cons h (vals_of_each t)
theorem cr_sortedM (hu : X.A.units + 64 < cLine) : CallR X (.builtin "sorted") (rSortedM X.K) := by
  intro pins s σ H vs us Q I r h
  obtain ⟨a, xs, n, m, rfl, hs, hx, q⟩ := h
  obtain ⟨its, rv, hl, hz⟩ := I.list hs
  obtain ⟨u, rfl, ru⟩ := vals1 r
  obtain rfl : u = Value.ref a := ru
  rw [List.length_map] at hz
  refine PySem.W.sorted_data (enc := fun x : V × List Nat => encM n m x.2) (R := fun v b => RelV b.1 v) hl.isList (each_of_vals rv fun _ _ _ q => q) (each_of_vals rv fun x hm u q => Dp.reads I _ _ u (hx x hm) q)
    (PySem.W.AllAlike.of fun b b' => encM_alike n m _ _) (PySem.W.Sortable.tuples fun b => ⟨_, _, rfl⟩) hz (fun b _ => ?_) fun out hlen e => ?_
  · have := encM_depth n m b.2
    omega
  · rw [le_encM] at e
    have ro : Vals ((sortM xs).map (·.1)) out := vals_of_each e
    refine ⟨.ref (s.heap.objs.size + 1), upd H (s.heap.objs.size + 1) (.lst ((sortM xs).map (·.1))), I.laid (t' := s.toks) (fun b o e => PyProof.Rows.sortedAll_old e) (Nat.le_succ _) ⟨?_, out, _, ro, (PyProof.Rows.sortedAll_at s.heap its (List.toArray out)).choose_spec⟩, rfl, q _ (I.hok.fresh (Nat.le_succ _))⟩
    rw [List.length_map, sortM_len]
    exact hz
end
end HM

/-! What stands at an address; round_of. -/
namespace HM
open PySem PySem.Spec PyProof.Rows L2
def nv (x : Nat) : V := .int (x : Int)
def nvs (L : List Nat) : List V := L.map nv
theorem nvs_len (L : List Nat) : (nvs L).length = L.length := by unfold nvs; rw [List.length_map]
theorem nvs_get {L : List Nat} {i : Nat} (h : i < L.length) : (nvs L)[i]? = some (nv (gd L i)) := by
  unfold nvs
  rw [List.getElem?_map, getD_lt h]; rfl
theorem nvs_app (A B : List Nat) : nvs A ++ nvs B = nvs (A ++ B) := by unfold nvs; rw [List.map_append]
theorem nvs_set (A : List Nat) (i x : Nat) : (nvs A).set i (nv x) = nvs (A.set i x) := by unfold nvs; rw [List.map_set]
/-- the tuples are kept -/
def Tk (H H' : Hp) : Prop := ∀ b xs, H b = some (.tup xs) → H' b = some (.tup xs)
theorem Tk.refl (H : Hp) : Tk H H := fun _ _ h => h
theorem Tk.trans {H H1 H2 : Hp} (a : Tk H H1) (b : Tk H1 H2) : Tk H H2 := fun c xs h => b c xs (a c xs h)
theorem tk_same {H H' : Hp} (h : Same H H') : Tk H H' := fun b xs e => h b _ e
theorem same_new {H : Hp} {p : Addr} {o : HO} (h : H p = none) : Same H (upd H p o) := fun b x e => by
  rw [upd_ne (ne_of_none e h)]
  exact e
/-- what was there is kept, but the object at a -/
def SameBut (a : Addr) (H H' : Hp) : Prop := ∀ b o, b ≠ a → H b = some o → H' b = some o
theorem SameBut.refl (a : Addr) (H : Hp) : SameBut a H H := fun _ _ _ h => h
theorem SameBut.trans {a : Addr} {H H1 H2 : Hp} (x : SameBut a H H1) (y : SameBut a H1 H2) : SameBut a H H2 := fun b o n h => y b o n (x b o n h)
theorem same_but {a : Addr} {H H' : Hp} (h : Same H H') : SameBut a H H' := fun b o _ e => h b o e
theorem sameBut_upd {a : Addr} {H : Hp} {o : HO} : SameBut a H (upd H a o) := fun b x n e => by rw [upd_ne n]; exact e
theorem SameBut.tk {a : Addr} {H H' : Hp} {xs : List V} (h : SameBut a H H') (ha : H a = some (.lst xs)) : Tk H H' := fun b ys e => h b _ (fun z => by rw [z, ha] at e; cases e) e
/-- what is new behind H may change: all of H is kept -/
theorem same_upd2 {H0 H : Hp} {a : Addr} {o : HO} (h : Same H0 H) (n : H0 a = none) : Same H0 (upd H a o) := fun b x e => by
  rw [upd_ne (ne_of_none e n)]
  exact h b x e
/-- a mat stands at v -/
def MatAt (H : Hp) (v : V) (n m : Nat) (L : List Nat) : Prop := ∃ a t, v = .ref a ∧ H a = some (.tup [nv n, nv m, .ref t]) ∧ H t = some (.tup (nvs L))
theorem MatAt.tk {H H' : Hp} {v : V} {n m : Nat} {L : List Nat} (h : MatAt H v n m L) (k : Tk H H') : MatAt H' v n m L := by
  obtain ⟨a, t, e, h1, h2⟩ := h
  exact ⟨a, t, e, k _ _ h1, k _ _ h2⟩
theorem dpAll_ints {K : PySem.W.Frag} {H : Hp} : ∀ L : List Nat, DpAll K H (nvs L) ((castL L).map .int)
  | [] => .nil
  | x :: L => .cons (.int _) (dpAll_ints L)
theorem MatAt.dp {K : PySem.W.Frag} {H : Hp} {v : V} {n m : Nat} {L : List Nat} (h : MatAt H v n m L) : Dp K H v (encM n m L) := by
  obtain ⟨a, t, rfl, h1, h2⟩ := h
  exact .tup (SqT.of h1) (.cons (.int _) (.cons (.int _) (.cons (.tup (SqT.of h2) (dpAll_ints L)) .nil)))
/-- the pegs round about -/
def ord (n m : Nat) : List Nat := (List.range (n + m)).map (rho n m)
theorem ord_len (n m : Nat) : (ord n m).length = n + m := by unfold ord; rw [List.length_map, List.length_range]
theorem ord_get {n m i : Nat} (h : i < n + m) : gd (ord n m) i = rho n m i := tab_get h
theorem rgV_nat (n : Nat) : rgV 0 (n : Int) = nvs (List.range n) := by
  unfold rgV nvs
  rw [show ((n : Int) - 0).toNat = n by omega]
  refine List.map_congr_left fun i _ => ?_
  show V.int (0 + (i : Int)) = V.int (i : Int)
  rw [Int.zero_add]
theorem rg3_nat (n m : Nat) : rg3 ((n : Int) + m - 1) (-1) (((n : Int) + m - 1) - ((n : Int) - 1)).toNat = nvs ((List.range m).map fun i => n + m - 1 - i) := by
  unfold rg3 nvs
  rw [show (((n : Int) + m - 1) - ((n : Int) - 1)).toNat = m by omega, List.map_map]
  refine List.map_congr_left fun i hi => ?_
  have hi := List.mem_range.mp hi
  show V.int ((n : Int) + m - 1 + (i : Int) * (-1)) = V.int ((n + m - 1 - i : Nat) : Int)
  congr 1
  omega
theorem ord_split (n m : Nat) : ord n m = List.range n ++ (List.range m).map fun i => n + m - 1 - i := by
  unfold ord
  rw [List.range_add, List.map_append, List.map_map]
  congr 1
  · refine (List.map_congr_left fun i hi => ?_).trans (List.map_id _)
    exact rho_pos.1 (List.mem_range.mp hi)
  · refine List.map_congr_left fun i hi => ?_
    have hi := List.mem_range.mp hi
    show rho n m (n + i) = _
    rw [rho_pos.2 (by omega)]
    omega
theorem sizeLine_big {x : Nat} (h : x ≤ 16000000) : x ≤ sizeLine := by rw [sizeLine_eq]; omega
theorem sizeLine_lt {x : Nat} (h : x ≤ 16000000) : x < sizeLine := by rw [sizeLine_eq]; omega
section
variable {P : Program} {w : World} {K : PySem.W.Frag} {mg : Str → Option Value} {base : Heap}
/-! ### round_of -/
theorem scRound : FnScope ["n", "m"] ["n", "m"] (defScope sRound) := ⟨rfl, rfl, rfl, by decide +kernel, rfl, by decide +kernel, by decide +kernel⟩
def spRound : Sp := fun vs H Q _ => ∃ n m : Nat, vs = [nv n, nv m] ∧ n + m ≤ 1000 ∧ ∀ H' p, Same H H' → H p = none → H' p = some (.lst (nvs (ord n m))) → Q (.ref p) H'
theorem ok_round {f : Addr} {fd : FuncData} (F : Fun K "round_of" "round_of" sRound f fd) (ml : mg "list" = none) (mr : mg "range" = none) : FnOk P w K mg base CX0 1 f fd ["n", "m"] spRound := by
  refine F.ok scRound (fun vs H Q E h => ?_) (fun cdv A outer s H vs Q E hr h => ?_)
  · obtain ⟨n, m, rfl, _⟩ := h
    rfl
  · obtain ⟨n, m, rfl, hlen, q⟩ := h
    refine ⟨_, pss_one (ps_ret (pe_op op_cat (pe_listRg rfl rfl ml (prg_1 rfl mr (pv 0)))
      (pe_listRg3 rfl rfl ml rfl mr (pa_cons (pe_op op_sub (pe_op op_add (pv 0) (pv 1)) pe_int) (pa_cons (pe_op op_sub (pv 0) pe_int) (pa_cons (pe_un un_neg pe_int) pa_nil)))))), ?_⟩
    refine ⟨_, rfl, n, rfl, RgOk.of_le (by omega) (by omega) (by omega) (by omega), fun p np => ?_⟩
    refine ⟨_, rfl, _, rfl, _, _, rfl, rfl, _, _, rfl, rfl, _, rfl, _, _, rfl, rfl, _, rfl, ?_⟩
    refine ⟨_, _, _, _, rfl, RgC.neg (by omega) (by omega) (by omega) (by omega), by omega, fun p2 np2 => ?_⟩
    have ne : p ≠ p2 := fun e => by rw [← e, upd_same] at np2; cases np2
    have np2' : H p2 = none := by rw [upd_ne ne.symm] at np2; exact np2
    refine ⟨p, p2, _, _, rfl, rfl, Eq.trans (upd_ne ne) upd_same, upd_same, ?_, fun p3 np3 => ?_⟩
    · rw [rgV_length]
      unfold rg3
      rw [List.length_map, List.length_range]
      refine sizeLine_big ?_
      omega
    · have ne3 : p ≠ p3 := fun e => by rw [← e, upd_ne ne, upd_same] at np3; cases np3
      have ne3' : p2 ≠ p3 := fun e => by rw [← e, upd_same] at np3; cases np3
      have np3' : H p3 = none := by rw [upd_ne ne3'.symm, upd_ne ne3.symm] at np3; exact np3
      refine q _ p3 ((same_new np).trans ((same_new np2).trans (same_new np3))) np3' ?_
      rw [upd_same, rgV_nat]
      show some (HO.lst (nvs (List.range n) ++ rg3 ((n : Int) + m - 1) (-1) (((n : Int) + m - 1) - ((n : Int) - 1)).toNat)) = _
      rw [rg3_nat, nvs_app, ← ord_split]
end
end HM

/-! Small things; is_mat, checked_mat, check_counts, check_pair. -/
namespace HM
open PySem PySem.Spec PyProof.Rows L2
theorem bl_t {p : Prop} [Decidable p] (h : p) : V.bl (decide p) = V.bl true := congrArg V.bl (decide_eq_true h)
theorem bl_f {p : Prop} [Decidable p] (h : ¬ p) : V.bl (decide p) = V.bl false := congrArg V.bl (decide_eq_false h)
theorem nbl_t {p : Prop} [Decidable p] (h : ¬ p) : V.bl (!decide p) = V.bl true := by rw [decide_eq_false h] <;> rfl
theorem nbl_f {p : Prop} [Decidable p] (h : p) : V.bl (!decide p) = V.bl false := by rw [decide_eq_true h] <;> rfl
theorem nv_inj {a b : Nat} (h : nv a = nv b) : a = b := by
  have : (a : Int) = (b : Int) := V.int.inj h
  omega
theorem nv_add (a b : Nat) : V.int ((a : Int) + (b : Int)) = nv (a + b) := by
  show _ = V.int ((a + b : Nat) : Int)
  rw [Int.natCast_add]
theorem canLay_ints : ∀ xs : List Int, PyData.canLayAll0 (xs.map .int) = true
  | [] => rfl
  | x :: xs => by
    show PyData.canLayAll0 (.int x :: xs.map .int) = true
    simp only [PyData.canLayAll0, PyData.canLay0, canLay_ints xs, Bool.and_self]
theorem shaped_list (xs : List Int) : SeqAt.shaped (.list (xs.map .int)) = true := by
  unfold SeqAt.shaped
  simp only [PyData.canLay0, canLay_ints, PyData.depth, PySem.W.depth_ints, Bool.true_and, decide_eq_true_eq]
  omega
theorem shaped_encM (n m : Nat) (L : List Nat) : SeqAt.shaped (encM n m L) = true := by
  unfold encM SeqAt.shaped
  simp only [PyData.canLay0, PyData.canLayAll0, canLay_ints, PyData.depth, PyData.depthAll, PySem.W.depth_ints, Bool.true_and, Bool.and_true, decide_eq_true_eq]
  omega
theorem eqv_nil (xs : List Int) : PyData.eqv (.list (xs.map .int)) (.list []) = xs.isEmpty := by
  cases xs <;> simp [PyData.eqv, PyData.eqvAll]
theorem castL_empty (L : List Nat) : (castL L).isEmpty = L.isEmpty := by cases L <;> rfl
theorem dp_list {K : PySem.W.Frag} {H : Hp} {p : Addr} {L : List Nat} (h : H p = some (.lst (nvs L))) : Dp K H (.ref p) (.list ((castL L).map .int)) := .lst (SqL.of h) (dpAll_ints L)
theorem dp_nil {K : PySem.W.Frag} {H : Hp} {p : Addr} (h : H p = some (.lst [])) : Dp K H (.ref p) (.list []) := .lst (SqL.of h) .nil
/-- the turns of enumerate over a tuple -/
theorem for_enumT {K : PySem.W.Frag} {a : Addr} {xs : List V} {g : TG} {tb : TS} {D : Ends} {σ : L2.St} {H : Hp} (Pv : Nat → L2.St → Hp → Prop) (h0 : Pv 0 σ H) (hl : ∀ i σ H, i ≤ xs.length → Pv i σ H → SqT K H a xs)
    (hs : ∀ i x T σ H, xs[i]? = some x → Pv i σ H → H T = none → g (.ref T) σ (upd H T (.tup [.int (i : Nat), x])) fun σ2 H2 => tb { D with nx := Pv (i + 1), ct := Pv (i + 1), bk := D.nx } σ2 H2) (hd : ∀ σ H, Pv xs.length σ H → D.nx σ H) :
    ∃ W : Nat → Nat → L2.St → Hp → Prop, (∃ m, W 0 m σ H) ∧ ∀ i m σ H, W i m σ H →
      ((IteT K a).stop i H ∧ D.nx σ H) ∨ ((IteT K a).go i H ∧ ∃ N : L2.St → Hp → Prop, (∀ σ' H', N σ' H' → ∃ m', m' < m ∧ W (i + 1) m' σ' H') ∧ ∀ x H', (IteT K a).yld i H x H' → g x σ H' fun σ2 H2 => tb { D with nx := N, ct := N, bk := D.nx } σ2 H2) := by
  refine ⟨fun i m σ H => m = xs.length - i ∧ i ≤ xs.length ∧ Pv i σ H, ⟨xs.length, by simp, Nat.zero_le _, h0⟩, ?_⟩
  rintro i m σ H ⟨rfl, hi, p⟩
  have q := hl i σ H hi p
  by_cases hlt : i < xs.length
  · refine .inr ⟨⟨xs, xs[i], q, by simp [hlt]⟩, Pv (i + 1), fun σ' H' p' => ⟨xs.length - (i + 1), by omega, rfl, hlt, p'⟩, fun x H' y => ?_⟩
    obtain ⟨T, z, rfl, nT, rfl, y⟩ := y
    exact hs i z T σ _ (y xs q) p nT
  · have e : i = xs.length := by omega
    subst e
    exact .inl ⟨⟨xs, q, rfl⟩, hd σ H p⟩
theorem nvs_at {L : List Nat} {i : Nat} {x : V} (h : (nvs L)[i]? = some x) : i < L.length ∧ x = nv (gd L i) := by
  have hi : i < L.length := by
    have := (List.getElem?_eq_some_iff.mp h).1
    rw [nvs_len] at this; exact this
  rw [nvs_get hi] at h
  exact ⟨hi, (Option.some.inj h).symm⟩
section
variable {P : Program} {w : World} {K : PySem.W.Frag} {mg : Str → Option Value} {base : Heap}
/-! ### is_mat -/
theorem scIsMat : FnScope ["told", "n", "m", "mates", "many", "peg", "mate", "waiting"] ["told"] (defScope sIsMat) := ⟨rfl, rfl, rfl, by decide +kernel, rfl, by decide +kernel, by decide +kernel⟩
def spIsMat : Sp := fun vs H Q _ => ∃ (v : V) (n m : Nat) (L : List Nat), vs = [v] ∧ MatAt H v n m L ∧ IsMat n m L ∧ 0 < n + m ∧ n + m ≤ 1000 ∧ ∀ H', Same H H' → Q (.bl true) H'
set_option maxHeartbeats 8000000 in
theorem ok_isMat {f fR : Addr} {fd fdR : FuncData} (F : Fun K "is_mat" "is_mat" sIsMat f fd) (GR : FnOk P w K mg base CX0 1 fR fdR ["n", "m"] spRound) (kR : PySem.W.keepIn K (.ref fR) = true) (bR : Binds K fdR ["n", "m"] []) (gR : mg "round_of" = some (.ref fR))
    (me : mg "enumerate" = none) (mn : mg "len" = none) : FnOk P w K mg base CX0 2 f fd ["told"] spIsMat := by
  refine F.ok scIsMat (fun vs H Q E h => ?_) (fun cdv A outer s H vs Q E hr h => ?_)
  · obtain ⟨v, n, m, L, rfl, _⟩ := h
    rfl
  · obtain ⟨v, n, m, L, rfl, ⟨a, t, rfl, ha, ht⟩, hM, hpos, hlen, q⟩ := h
    have nd := scIsMat.nd
    refine ⟨_, pss_cons (ps_asg (pv 0) (pg_tup rfl (pgs_cons (pg_name (i := 1) nd rfl (.inl rfl)) (pgs_cons (pg_name (i := 2) nd rfl (.inl rfl)) (pgs_cons (pg_name (i := 3) nd rfl (.inl rfl)) pgs_nil)))))
      (pss_cons (ps_set (i := 4) nd rfl (.inl rfl) (pe_callB call_len_seq (by rfl) mn PySem.boot_len (pa_cons (pv 3) pa_nil)))
      (pss_cons (ps_if (PW.pt (pw_or (pt_cmpR op_lt (pv 1) pe_int (nomark _)) (pw_or (pt_cmpR op_lt (pv 2) pe_int (nomark _)) (pw_or (pt_cmpR op_ne (pe_op op_add (pv 1) (pv 2)) (pv 4) (nomark _)) (pw_or1 (pt_cmpR op_eq (pv 4) pe_int (nomark _)))))))
          (pss_one (ps_ret pe_bl)) pss_nil)
      (pss_cons (ps_for PassesOwn.never rfl (pi_enumT (by rfl) me (pa_cons (pv 3) pa_nil)) (pg_tup rfl (pgs_cons (pg_name (i := 5) nd rfl (.inl rfl)) (pgs_cons (pg_name (i := 6) nd rfl (.inl rfl)) pgs_nil)))
          (pss_one (ps_if (PW.pt (pw_or (pt_cmpR op_lt (pv 6) pe_int (nomark _)) (pw_or (pt_cmpR op_ge (pv 6) (pv 4) (nomark _)) (pw_or (pt_cmpR op_eq (pv 6) (pv 5) (nomark _)) (pw_or1 (pt_cmpR op_ne (pe_ix ix_tup (pv 3) (pv 6) (fun _ _ => rfl)) (pv 5) (nomark _)))))))
            (pss_one (ps_ret pe_bl)) pss_nil)))
      (pss_cons (ps_set (i := 7) nd rfl (.inl rfl) (pe_lst pa_nil))
      (pss_cons (ps_for PassesOwn.never rfl (pi_list (pe_call GR hr (by rfl) gR kR bR .nil pass0 (pa_cons (pv 1) (pa_cons (pv 2) pa_nil)))) (pg_name (i := 5) nd rfl (.inl rfl))
          (pss_one (ps_if (PW.pt (pw_and (pt_cmpR (op_neD hr.units) (pv 7) (pe_lst pa_nil) (nomark _)) (pw_and1 (pt_cmpR op_eq (pe_ix ix_list (pv 7) (pe_un un_neg pe_int) (fun _ _ => rfl)) (pe_ix ix_tup (pv 3) (pv 5) (fun _ _ => rfl)) (nomark _)))))
            (pss_one (ps_expr (pe_bm0 PySem.F.plainAttrs_list PySem.F.slot_list_pop PySem.F.type_list_pop mt_pop (pv 7))))
            (pss_one (ps_expr (pe_bm PySem.F.plainAttrs_list PySem.F.slot_list_append PySem.F.type_list_append mt_append (pv 7) (pa_cons (pv 5) pa_nil)))))))
      (pss_one (ps_ret (pe_cmpR (op_eqD hr.units) (pv 7) (pe_lst pa_nil) (nomark _))))))))), ?_⟩
    -- n, m, mates = told; many = len(mates)
    refine ⟨_, rfl, a, _, rfl, SqT.of ha, rfl, _, _, rfl, _, _, rfl, _, _, rfl, rfl, ?_⟩
    refine ⟨_, rfl, t, _, rfl, .inr (SqT.of ht), ?_⟩
    rw [nvs_len, hM.len]
    -- the first test
    refine ⟨_, rfl, _, _, rfl, rfl, false, bl_f (by omega), iteF ?_⟩
    refine ⟨_, rfl, _, _, rfl, rfl, false, bl_f (by omega), iteF ?_⟩
    refine ⟨_, rfl, _, rfl, _, _, rfl, rfl, _, rfl, rfl, false, nbl_f (nv_add n m), iteF ?_⟩
    refine ⟨_, rfl, rfl, false, bl_f (fun e => by have := V.int.inj e; omega), iteF ?_⟩
    -- peg by peg
    refine ⟨_, rfl, t, nvs L, rfl, SqT.of ht, for_enumT (K := K) (a := t) (xs := nvs L) (fun i σ H' => ∃ y5 y6, σ = [some (.ref a), some (nv n), some (nv m), some (.ref t), some (nv (n + m)), y5, y6, none] ∧ Same H H')
      ⟨none, none, rfl, Same.refl H⟩ (fun i σ H' _ ⟨_, _, _, s1⟩ => SqT.of (s1 _ _ ht)) ?_ ?_⟩
    · rintro i x T σ H' hx ⟨y5, y6, rfl, s1⟩ nT
      obtain ⟨hi, rfl⟩ := nvs_at hx
      rw [hM.len] at hi
      have s2 : Same H (upd H' T (.tup [.int (i : Nat), nv (gd L i)])) := s1.trans (same_new nT)
      refine ⟨T, _, rfl, SqT.of upd_same, rfl, _, _, rfl, _, _, rfl, rfl, ?_⟩
      have h1 : gd L i < n + m := hM.lt i hi
      have h2 : gd L i ≠ i := hM.ne hi
      have h3 : gd L (gd L i) = i := hM.inv hi
      refine ⟨_, rfl, _, _, rfl, rfl, false, bl_f (by omega), iteF ?_⟩
      refine ⟨_, rfl, _, rfl, _, _, rfl, rfl, false, bl_f (by show ¬ ((n + m : Nat) : Int) ≤ (gd L i : Int); omega), iteF ?_⟩
      refine ⟨_, rfl, _, rfl, rfl, false, bl_f (fun e => h2 (nv_inj e)), iteF ?_⟩
      refine ⟨_, rfl, _, rfl, t, _, _, nv (gd L (gd L i)), rfl, rfl, SqT.of (s2 _ _ ht), atI_nat (nvs_get (by rw [hM.len]; exact h1)), _, rfl, rfl, false, nbl_f (by rw [show gd L (gd L i) = i from h3]; rfl), iteF ?_⟩
      exact ⟨_, _, rfl, s2⟩
    · rintro σ H1 ⟨y5, y6, rfl, s1⟩
      -- waiting = []
      refine ⟨Nat.zero_le _, fun w0 nw => ?_⟩
      have s2 : Same H (upd H1 w0 (.lst [])) := s1.trans (same_new nw)
      have nwH : H w0 = none := s1.free nw
      refine ⟨_, rfl, _, rfl, n, m, rfl, hlen, fun H3 p s3 np hp => ?_⟩
      have npH : H p = none := s2.free np
      have nwp : w0 ≠ p := fun e => by rw [← e, upd_same] at np; cases np
      have hw3 : H3 w0 = some (.lst (nvs (Wp n m L 0))) := s3 _ _ upd_same
      have nab : ∀ b o, H b = some o → b ≠ w0 := fun b o e => ne_of_none e nwH
      refine ⟨p, rfl, ⟨_, SqL.of hp⟩, for_list (K := K) (a := p) (xs := nvs (ord n m)) (fun i σ H' => ∃ y5 y6, σ = [some (.ref a), some (nv n), some (nv m), some (.ref t), some (nv (n + m)), y5, y6, some (.ref w0)] ∧ Same H H' ∧ H' p = some (.lst (nvs (ord n m))) ∧ H' w0 = some (.lst (nvs (Wp n m L i))))
        ⟨_, _, rfl, s2.trans s3, hp, hw3⟩ (fun i σ H' _ ⟨_, _, _, _, h, _⟩ => SqL.of h) ?_ ?_⟩
      · rintro i x σ H' hx ⟨y5, y6, rfl, s4, hp4, hw4⟩
        obtain ⟨hi, rfl⟩ := nvs_at hx
        rw [ord_len] at hi
        rw [ord_get hi]
        have hrl := rho_lt (n := n) (m := m) hi
        have lw := hM.wp_len (Nat.le_of_lt hi)
        refine ⟨_, rfl, Nat.zero_le _, fun z nz => ?_⟩
        have nwz : w0 ≠ z := ne_of_none hw4 nz
        have npz : p ≠ z := ne_of_none hp4 nz
        have s5 : Same H (upd H' z (.lst [])) := s4.trans (same_new nz)
        have hw5 : (upd H' z (.lst [])) w0 = some (.lst (nvs (Wp n m L i))) := by rw [upd_ne nwz]; exact hw4
        have hp5 : (upd H' z (.lst [])) p = some (.lst (nvs (ord n m))) := by rw [upd_ne npz]; exact hp4
        refine ⟨_, _, dp_list hw5, dp_nil upd_same, shaped_list _, shaped_list [], ?_⟩
        rw [eqv_nil, castL_empty]
        have keep : ∀ o, Same H (upd (upd H' z (.lst [])) w0 o) := fun o => same_upd2 s5 nwH
        -- the two ways
        rcases hM.wp_ne hi with c | c
        · -- shut
          have e := hM.wp_shut hi c
          have ne : (Wp n m L i).isEmpty = false := by rw [e]; simp
          rw [ne]
          refine ⟨true, rfl, iteT ?_⟩
          refine ⟨_, rfl, 1, rfl, w0, _, -1, nv (gd L (rho n m i)), rfl, rfl, SqL.of hw5, (by rw [e, ← nvs_app]; exact atI_last _ _), _, rfl, _, rfl, t, _, _, nv (gd L (rho n m i)), rfl, rfl, SqT.of (s5 _ _ ht), atI_nat (nvs_get (by rw [hM.len]; exact hrl)), rfl, true, bl_t rfl, ?_⟩
          refine iteT ?_
          refine ⟨_, rfl, .inl ⟨rfl, _, SqL.of hw5⟩, w0, _, nv (gd L (rho n m i)), rfl, rfl, hw5, ?_, ?_⟩
          · rw [e, ← nvs_app]
            simp [nvs]
          · refine ⟨_, _, rfl, keep _, ?_, ?_⟩
            · rw [upd_ne nwp.symm]; exact hp5
            · rw [upd_same, e, ← nvs_app]
              simp [nvs]
        · -- open
          obtain ⟨e, nm⟩ := hM.wp_open hi c
          have fin : ∀ H6, H6 = upd H' z (.lst []) → ∃ y5 y6, ([some (.ref a), some (nv n), some (nv m), some (.ref t), some (nv (n + m)), some (nv (rho n m i)), y6, some (.ref w0)] : L2.St) = [some (.ref a), some (nv n), some (nv m), some (.ref t), some (nv (n + m)), y5, y6, some (.ref w0)] ∧ Same H (upd H6 w0 (.lst (nvs (Wp n m L i) ++ [nv (rho n m i)]))) ∧ (upd H6 w0 (.lst (nvs (Wp n m L i) ++ [nv (rho n m i)]))) p = some (.lst (nvs (ord n m))) ∧ (upd H6 w0 (.lst (nvs (Wp n m L i) ++ [nv (rho n m i)]))) w0 = some (.lst (nvs (Wp n m L (i + 1)))) := fun H6 e6 => by
            subst e6
            refine ⟨_, y6, rfl, keep _, ?_, ?_⟩
            · rw [upd_ne nwp.symm]; exact hp5
            · rw [upd_same, e, ← nvs_app]; rfl
          by_cases em : (Wp n m L i).isEmpty = true
          · rw [em]
            refine ⟨false, rfl, iteF ?_⟩
            refine iteF ?_
            refine ⟨_, rfl, .inl ⟨rfl, _, SqL.of hw5⟩, _, rfl, w0, _, _, rfl, rfl, hw5, ?_, ?_⟩
            · rw [nvs_len]; exact sizeLine_lt (by omega)
            · obtain ⟨z5, _, _, a1, a2, a3⟩ := fin _ rfl
              exact ⟨_, _, rfl, a1, a2, a3⟩
          · have em' : (Wp n m L i).isEmpty = false := by simpa using em
            rw [em']
            refine ⟨true, rfl, iteT ?_⟩
            have wne : Wp n m L i ≠ [] := fun z => by rw [z] at em'; cases em'
            have es := last_split wne
            have nlast : (Wp n m L i).getLast?.getD 0 ≠ gd L (rho n m i) := fun z => nm (by
              show gd L (rho n m i) ∈ _
              rw [← z, es]
              simp)
            have hat : atI (nvs (Wp n m L i)) (-1) = some (nv ((Wp n m L i).getLast?.getD 0)) := by
              have := atI_last (nvs (Wp n m L i).dropLast) (nv ((Wp n m L i).getLast?.getD 0))
              rw [show nvs (Wp n m L i).dropLast ++ [nv ((Wp n m L i).getLast?.getD 0)] = nvs ((Wp n m L i).dropLast ++ [(Wp n m L i).getLast?.getD 0]) from nvs_app (Wp n m L i).dropLast [(Wp n m L i).getLast?.getD 0], ← es] at this
              exact this
            refine ⟨_, rfl, 1, rfl, w0, _, -1, nv ((Wp n m L i).getLast?.getD 0), rfl, rfl, SqL.of hw5, hat, _, rfl, _, rfl, t, _, _, nv (gd L (rho n m i)), rfl, rfl, SqT.of (s5 _ _ ht), atI_nat (nvs_get (by rw [hM.len]; exact hrl)), rfl, false, bl_f (fun z => nlast (nv_inj z)), ?_⟩
            refine iteF ?_
            refine ⟨_, rfl, .inl ⟨rfl, _, SqL.of hw5⟩, _, rfl, w0, _, _, rfl, rfl, hw5, ?_, ?_⟩
            · rw [nvs_len]; exact sizeLine_lt (by omega)
            · obtain ⟨z5, _, _, a1, a2, a3⟩ := fin _ rfl
              exact ⟨_, _, rfl, a1, a2, a3⟩
      · rintro σ H' ⟨y5, y6, rfl, s4, hp4, hw4⟩
        rw [nvs_len, ord_len, hM.wp_end] at hw4
        refine ⟨_, rfl, Nat.zero_le _, fun z nz => ?_⟩
        have nwz : w0 ≠ z := ne_of_none hw4 nz
        have hw5 : (upd H' z (.lst [])) w0 = some (.lst []) := by rw [upd_ne nwz]; exact hw4
        refine ⟨_, _, dp_nil hw5, dp_nil upd_same, shaped_list [], shaped_list [], ?_⟩
        have e0 : PyData.eqv (.list []) (.list []) = true := eqv_nil []
        rw [e0]
        exact q _ (s4.trans (same_new nz))
end
end HM

/-! checked_mat, check_counts, check_pair, remade. -/
namespace HM
open PySem PySem.Spec PyProof.Rows L2
section
variable {P : Program} {w : World} {K : PySem.W.Frag} {mg : Str → Option Value} {base : Heap}
theorem scChecked : FnScope ["mat"] ["mat"] (defScope sChecked) := ⟨rfl, rfl, rfl, by decide +kernel, rfl, by decide +kernel, by decide +kernel⟩
def spChecked : Sp := fun vs H Q _ => ∃ (v : V) (n m : Nat) (L : List Nat), vs = [v] ∧ MatAt H v n m L ∧ IsMat n m L ∧ 0 < n + m ∧ n + m ≤ 1000 ∧ ∀ H', Same H H' → Q v H'
theorem ok_checked {f fI : Addr} {fd fdI : FuncData} (F : Fun K "checked_mat" "checked_mat" sChecked f fd) (GI : FnOk P w K mg base CX0 2 fI fdI ["told"] spIsMat) (kI : PySem.W.keepIn K (.ref fI) = true) (bI : Binds K fdI ["told"] []) (gI : mg "is_mat" = some (.ref fI)) :
    FnOk P w K mg base CX0 3 f fd ["mat"] spChecked := by
  refine F.ok scChecked (fun vs H Q E h => ?_) (fun cdv A outer s H vs Q E hr h => ?_)
  · obtain ⟨v, n, m, L, rfl, _⟩ := h
    rfl
  · obtain ⟨v, n, m, L, rfl, hA, hM, hpos, hlen, q⟩ := h
    refine ⟨_, pss_cons (ps_if (pt_not (pt_val (pe_call GI hr (by rfl) gI kI bI .nil pass0 (pa_cons (pv 0) pa_nil)))) (pss_one ps_never) pss_nil) (pss_one (ps_ret (pv 0))), ?_⟩
    refine ⟨_, rfl, v, n, m, L, rfl, hA, hM, hpos, hlen, fun H' s1 => ⟨true, rfl, iteF ?_⟩⟩
    exact ⟨_, rfl, q H' s1⟩
theorem scCounts : FnScope ["n", "m", "number"] ["n", "m"] (defScope sCounts) := ⟨rfl, rfl, rfl, by decide +kernel, rfl, by decide +kernel, by decide +kernel⟩
def spCounts : Sp := fun vs H Q _ => ∃ n m : Nat, vs = [nv n, nv m] ∧ ∀ H', Same H H' → Q .non H'
theorem ok_counts {f : Addr} {fd : FuncData} (F : Fun K "check_counts" "check_counts" sCounts f fd) : FnOk P w K mg base CX0 1 f fd ["n", "m"] spCounts := by
  refine F.ok scCounts (fun vs H Q E h => ?_) (fun cdv A outer s H vs Q E hr h => ?_)
  · obtain ⟨n, m, rfl, _⟩ := h
    rfl
  · obtain ⟨n, m, rfl, q⟩ := h
    have nd := scCounts.nd
    refine ⟨_, pss_one (ps_for PassesOwn.never rfl (pi_tup (pe_tup (pa_cons (pv 0) (pa_cons (pv 1) pa_nil)))) (pg_name (i := 2) nd rfl (.inl rfl))
      (pss_one (ps_if (pt_cmpR op_lt (pv 2) pe_int (nomark _)) (pss_one ps_never) pss_nil))), ?_⟩
    refine ⟨_, rfl, _, rfl, by show 2 ≤ sizeLine; decide, fun t nt => ⟨t, rfl, ⟨_, SqT.of upd_same⟩, for_tup (K := K) (a := t) (xs := [nv n, nv m]) (fun i σ H' => ∃ y, σ = [some (nv n), some (nv m), y] ∧ Same H H' ∧ H' t = some (.tup [nv n, nv m]))
      ⟨none, rfl, same_new nt, upd_same⟩ (fun i σ H' _ ⟨_, _, _, h⟩ => SqT.of h) ?_ ?_⟩⟩
    · rintro i x σ H' hx ⟨y, rfl, s1, ht⟩
      obtain ⟨z, rfl⟩ : ∃ z : Nat, x = nv z := by
        match i, hx with
        | 0, hx => exact ⟨n, (Option.some.inj hx).symm⟩
        | 1, hx => exact ⟨m, (Option.some.inj hx).symm⟩
      refine ⟨_, rfl, _, _, rfl, rfl, false, bl_f (by omega), iteF ?_⟩
      exact ⟨_, rfl, s1, ht⟩
    · rintro σ H' ⟨y, rfl, s1, ht⟩
      exact q H' s1
theorem scPair : FnScope ["above", "below"] ["above", "below"] (defScope sCheckPair) := ⟨rfl, rfl, rfl, by decide +kernel, rfl, by decide +kernel, by decide +kernel⟩
def spPair : Sp := fun vs H Q _ => ∃ n : Nat, vs = [nv n, nv n] ∧ Q .non H
theorem ok_pair {f : Addr} {fd : FuncData} (F : Fun K "check_pair" "check_pair" sCheckPair f fd) : FnOk P w K mg base CX0 1 f fd ["above", "below"] spPair := by
  refine F.ok scPair (fun vs H Q E h => ?_) (fun cdv A outer s H vs Q E hr h => ?_)
  · obtain ⟨n, rfl, _⟩ := h
    rfl
  · obtain ⟨n, rfl, q⟩ := h
    refine ⟨_, pss_one (ps_if (pt_cmpR op_ne (pv 0) (pv 1) (nomark _)) (pss_one ps_never) pss_nil), ?_⟩
    refine ⟨_, rfl, _, rfl, rfl, false, nbl_f rfl, iteF ?_⟩
    exact q
/-! ### remade -/
theorem rep_zero (k : Nat) : (List.replicate k [V.int 0]).flatten = nvs (List.replicate k 0) := by
  unfold nvs
  induction k with
  | zero => rfl
  | succ k ih =>
    rw [List.replicate_succ, List.flatten_cons, ih, List.replicate_succ, List.map_cons]
    rfl
def remP (n m : Nat) (L : List Nat) (i : Nat) : List Nat := (List.range i).foldl (fun R s => R.set (rho n m s) (rho n m (L.getD s 0))) (List.replicate (n + m) 0)
theorem remP_succ (n m : Nat) (L : List Nat) (i : Nat) : remP n m L (i + 1) = (remP n m L i).set (rho n m i) (rho n m (gd L i)) := by
  unfold remP
  rw [List.range_succ, List.foldl_append]; rfl
theorem remP_len (n m : Nat) (L : List Nat) : ∀ i, (remP n m L i).length = n + m
  | 0 => List.length_replicate
  | i + 1 => by rw [remP_succ, List.length_set, remP_len n m L i]
theorem scRemade : FnScope ["n", "m", "mates", "place", "row", "peg", "mate"] ["n", "m", "mates", "place"] (defScope sRemade) := ⟨rfl, rfl, rfl, by decide +kernel, rfl, by decide +kernel, by decide +kernel⟩
def spRemade : Sp := fun vs H Q _ => ∃ (n m : Nat) (t p : Addr) (L : List Nat), vs = [nv n, nv m, .ref t, .ref p] ∧ H t = some (.tup (nvs L)) ∧ L.length = n + m ∧ (∀ i, i < n + m → gd L i < n + m) ∧ H p = some (.lst (nvs (ord n m))) ∧ n + m ≤ 1000 ∧
  ∀ H' v, Same H H' → MatAt H' v n m (remN n m L) → Q v H'
theorem ok_remade {f : Addr} {fd : FuncData} (F : Fun K "remade" "remade" sRemade f fd) (me : mg "enumerate" = none) (mt : mg "tuple" = none) : FnOk P w K mg base CX0 1 f fd ["n", "m", "mates", "place"] spRemade := by
  refine F.ok scRemade (fun vs H Q E h => ?_) (fun cdv A outer s H vs Q E hr h => ?_)
  · obtain ⟨n, m, t, p, L, rfl, _⟩ := h
    rfl
  · obtain ⟨n, m, t, p, L, rfl, ht, hL, hlt, hp, hlen, q⟩ := h
    have nd := scRemade.nd
    refine ⟨_, pss_cons (ps_set (i := 4) nd rfl (.inl rfl) (pe_op op_rep (pe_lst (pa_cons pe_int pa_nil)) (pe_op op_add (pv 0) (pv 1))))
      (pss_cons (ps_for PassesOwn.never rfl (pi_enumT (by rfl) me (pa_cons (pv 2) pa_nil)) (pg_tup rfl (pgs_cons (pg_name (i := 5) nd rfl (.inl rfl)) (pgs_cons (pg_name (i := 6) nd rfl (.inl rfl)) pgs_nil)))
          (pss_one (ps_asg (pe_ix ix_list (pv 3) (pv 6) (fun _ _ => rfl)) (pg_sub (pv 4) (pe_ix ix_list (pv 3) (pv 5) (fun _ _ => rfl)) set_list))))
      (pss_one (ps_ret (pe_tup (pa_cons (pv 0) (pa_cons (pv 1) (pa_cons (pe_callTy call_tuple_of (by rfl) mt boot_tuple (pa_cons (pv 4) pa_nil)) pa_nil))))))), ?_⟩
    refine ⟨by show 1 ≤ sizeLine; decide, fun z nz => ?_⟩
    refine ⟨_, rfl, _, rfl, _, _, rfl, rfl, z, _, _, rfl, rfl, upd_same, by omega, by omega, ?_, fun r nr => ?_⟩
    · show 1 * ((n : Int) + (m : Int)).toNat ≤ sizeLine
      exact sizeLine_big (by omega)
    have s1 : Same H (upd H z (.lst [V.int 0])) := same_new nz
    have nrH : H r = none := s1.free nr
    have e0 : (List.replicate ((n : Int) + (m : Int)).toNat [V.int 0]).flatten = nvs (remP n m L 0) := by
      rw [rep_zero, show ((n : Int) + (m : Int)).toNat = n + m by omega]
      rfl
    have npr : p ≠ r := ne_of_none hp nrH
    refine ⟨_, rfl, t, nvs L, rfl, SqT.of ((s1.trans (same_new nr)) _ _ ht), for_enumT (K := K) (a := t) (xs := nvs L) (fun i σ H' => ∃ y5 y6, σ = [some (nv n), some (nv m), some (.ref t), some (.ref p), some (.ref r), y5, y6] ∧ Same H H' ∧ H' r = some (.lst (nvs (remP n m L i))))
      ⟨none, none, rfl, s1.trans (same_new nr), by rw [upd_same]; exact congrArg some (congrArg HO.lst e0)⟩ (fun i σ H' _ ⟨_, _, _, s1, _⟩ => SqT.of (s1 _ _ ht)) ?_ ?_⟩
    · rintro i x T σ H' hx ⟨y5, y6, rfl, s2, hr2⟩ nT
      obtain ⟨hi, rfl⟩ := nvs_at hx
      rw [hL] at hi
      have s3 : Same H (upd H' T (.tup [.int (i : Nat), nv (gd L i)])) := s2.trans (same_new nT)
      have hr3 : (upd H' T (.tup [.int (i : Nat), nv (gd L i)])) r = some (.lst (nvs (remP n m L i))) := by rw [upd_ne (ne_of_none hr2 nT)]; exact hr2
      have hri := rho_lt (n := n) (m := m) hi
      have hgi := hlt i hi
      refine ⟨T, _, rfl, SqT.of upd_same, rfl, _, _, rfl, _, _, rfl, rfl, ?_⟩
      refine ⟨_, rfl, _, rfl, p, _, _, nv (rho n m (gd L i)), rfl, rfl, SqL.of (s3 _ _ hp), atI_nat (by rw [nvs_get (by rw [ord_len]; exact hgi), ord_get hgi]), ?_⟩
      refine ⟨_, rfl, _, rfl, _, rfl, p, _, _, nv (rho n m i), rfl, rfl, SqL.of (s3 _ _ hp), atI_nat (by rw [nvs_get (by rw [ord_len]; exact hi), ord_get hi]), ?_⟩
      refine ⟨r, _, _, rho n m i, rfl, rfl, hr3, ?_, ?_⟩
      · rw [nvs_len, remP_len]
        unfold ixN
        rw [if_pos (by omega), if_pos (by omega)]
        simp
      · refine ⟨_, _, rfl, same_upd2 s3 nrH, ?_⟩
        rw [upd_same, remP_succ, nvs_set]
    · rintro σ H' ⟨y5, y6, rfl, s2, hr2⟩
      rw [nvs_len, hL] at hr2
      refine ⟨_, rfl, _, rfl, _, rfl, r, _, rfl, .inl ⟨SqL.of hr2, fun l nl => ?_⟩⟩
      refine ⟨by show 3 ≤ sizeLine; decide, fun a na => ?_⟩
      have nla : l ≠ a := fun e => by rw [← e, upd_same] at na; cases na
      refine q _ _ (s2.trans ((same_new nl).trans (same_new na))) ⟨a, l, rfl, upd_same, ?_⟩
      rw [upd_ne nla, upd_same]
      rfl
end
end HM

/-! patterns. -/
namespace HM
open PySem PySem.Spec PyProof.Rows L2
/-- a list of tuples of ints -/
def PatsAt (H : Hp) (q : Addr) (PP : List (List Nat)) : Prop := ∃ ts : List Addr, H q = some (.lst (ts.map V.ref)) ∧ Paired (fun t L => H t = some (.tup (nvs L))) ts PP
theorem paired_get {α β : Type} {F : α → β → Prop} : ∀ {l : List α} {k : List β} {i : Nat} {b : β}, Paired F l k → k[i]? = some b → ∃ a, l[i]? = some a ∧ F a b
  | _, _, _, _, .nil, h => by simp at h
  | _, _, 0, b, .cons r _, h => by
    have : _ = b := Option.some.inj h
    subst this
    exact ⟨_, rfl, r⟩
  | _, _, i + 1, b, .cons _ t, h => paired_get (i := i) t h
theorem PatsAt.keep {H H' : Hp} {q : Addr} {PP : List (List Nat)} (h : PatsAt H q PP) (s : Same H H') : PatsAt H' q PP := by
  obtain ⟨ts, e, p⟩ := h
  exact ⟨ts, s _ _ e, p.mono fun _ _ z => s _ _ z⟩
theorem PatsAt.len {H : Hp} {q : Addr} {PP : List (List Nat)} (h : PatsAt H q PP) : ∃ ts : List Addr, H q = some (.lst (ts.map V.ref)) ∧ ts.length = PP.length := by
  obtain ⟨ts, e, p⟩ := h
  exact ⟨ts, e, p.length⟩
/-- a list of such lists -/
def RowsAt (H : Hp) (r : Addr) (RR : List (List (List Nat))) : Prop := ∃ qs : List Addr, H r = some (.lst (qs.map V.ref)) ∧ Paired (fun q PP => q ≠ r ∧ PatsAt H q PP) qs RR
theorem RowsAt.keep {H H' : Hp} {r : Addr} {RR : List (List (List Nat))} (h : RowsAt H r RR) (s : Same H H') : RowsAt H' r RR := by
  obtain ⟨qs, e, p⟩ := h
  exact ⟨qs, s _ _ e, p.mono fun _ _ z => ⟨z.1, z.2.keep s⟩⟩
theorem PatsAt.push {H : Hp} {w tn : Addr} {ts : List Addr} {PP : List (List Nat)} {L : List Nat} (hw : H w = some (.lst (ts.map V.ref))) (p : Paired (fun t L => H t = some (.tup (nvs L))) ts PP) (ht : H tn = some (.tup (nvs L))) :
    PatsAt (upd H w (.lst (ts.map V.ref ++ [.ref tn]))) w (PP ++ [L]) := by
  have k : ∀ t L, H t = some (.tup (nvs L)) → (upd H w (.lst (ts.map V.ref ++ [.ref tn]))) t = some (.tup (nvs L)) := fun t L e => by
    rw [upd_ne (ne_of e hw (by intro z; cases z))]
    exact e
  refine ⟨ts ++ [tn], by rw [upd_same, List.map_append]; rfl, ?_⟩
  exact Paired.snoc (p.mono fun _ _ z => k _ _ z) (k _ _ ht)
theorem PatsAt.other {H : Hp} {q r : Addr} {PP : List (List Nat)} {xs ys : List V} (h : PatsAt H q PP) (n : q ≠ r) (hr : H r = some (.lst xs)) : PatsAt (upd H r (.lst ys)) q PP := by
  obtain ⟨ts, e, p⟩ := h
  refine ⟨ts, by rw [upd_ne n]; exact e, p.mono fun t L z => ?_⟩
  rw [upd_ne (ne_of z hr (by intro z; cases z))]
  exact z
theorem pats_small : ∀ h, h ≤ 6 → (pats h).length ≤ 132 := by
  have : (List.range 7).all (fun h => decide ((pats h).length ≤ 132)) = true := by decide +kernel
  intro h hh
  have q := List.all_eq_true.mp this h (List.mem_range.mpr (by omega))
  exact of_decide_eq_true q
theorem rows_small {k j : Nat} (h : k ≤ 6) : ((patRows k).getD j []).length ≤ 132 := by
  by_cases c : j ≤ k
  · rw [patRows_get c]; exact pats_small j (by omega)
  · rw [List.getD_eq_getElem?_getD, List.getElem?_eq_none (by rw [patRows_len]; omega)]
    exact Nat.zero_le _
theorem flatMap_len {α β : Type} (f : α → List β) (c : Nat) : ∀ l : List α, (∀ x ∈ l, (f x).length ≤ c) → (l.flatMap f).length ≤ l.length * c
  | [], _ => by simp
  | x :: l, h => by
    rw [List.flatMap_cons, List.length_append, List.length_cons, Nat.succ_mul]
    have a := h x (by simp)
    have b := flatMap_len f c l fun y hy => h y (by simp [hy])
    omega
/-- what the new row holds in the midst -/
def rowG (rows : List (List (List Nat))) (inner : Nat) (within : List Nat) : List (List Nat) := (rows.getD (rows.length - 1 - inner) []).map fun behind => comb inner within behind
def rowF (rows : List (List (List Nat))) (inner : Nat) : List (List Nat) := (rows.getD inner []).flatMap (rowG rows inner)
theorem newRow_eq (rows : List (List (List Nat))) : newRow rows = (List.range rows.length).flatMap (rowF rows) := rfl
def acc1 (rows : List (List (List Nat))) (i : Nat) : List (List Nat) := (List.range i).flatMap (rowF rows)
def acc2 (rows : List (List (List Nat))) (i j : Nat) : List (List Nat) := acc1 rows i ++ ((rows.getD i []).take j).flatMap (rowG rows i)
def acc3 (rows : List (List (List Nat))) (i j l : Nat) (within : List Nat) : List (List Nat) := acc2 rows i j ++ ((rows.getD (rows.length - 1 - i) []).take l).map fun behind => comb i within behind
theorem acc1_succ (rows : List (List (List Nat))) (i : Nat) : acc1 rows (i + 1) = acc2 rows i (rows.getD i []).length := by
  unfold acc1 acc2 acc1
  rw [List.range_succ, List.flatMap_append, List.take_length]
  simp [rowF]
theorem acc2_zero (rows : List (List (List Nat))) (i : Nat) : acc2 rows i 0 = acc1 rows i := by unfold acc2; simp
theorem acc2_succ {rows : List (List (List Nat))} {i j : Nat} {W : List Nat} (h : (rows.getD i [])[j]? = some W) : acc2 rows i (j + 1) = acc3 rows i j (rows.getD (rows.length - 1 - i) []).length W := by
  unfold acc3 acc2
  rw [List.take_add_one, h, List.flatMap_append, List.take_length, List.append_assoc]
  simp [rowG]
theorem acc3_zero (rows : List (List (List Nat))) (i j : Nat) (W : List Nat) : acc3 rows i j 0 W = acc2 rows i j := by unfold acc3; simp
theorem acc3_succ {rows : List (List (List Nat))} {i j l : Nat} {W B : List Nat} (h : (rows.getD (rows.length - 1 - i) [])[l]? = some B) : acc3 rows i j (l + 1) W = acc3 rows i j l W ++ [comb i W B] := by
  unfold acc3
  rw [List.take_add_one, h, List.map_append, ← List.append_assoc]
  rfl
theorem acc3_len {k i j l : Nat} {W : List Nat} (hk : k ≤ 6) (hi : i ≤ k) : (acc3 (patRows k) i j l W).length ≤ 1000000 := by
  unfold acc3 acc2 acc1
  have g : ∀ i, ∀ x, (rowG (patRows k) i x).length ≤ 132 := fun i x => by
    unfold rowG
    rw [List.length_map]
    exact rows_small hk
  have a := flatMap_len (rowF (patRows k)) (132 * 132) (List.range i) fun x _ => by
    have := flatMap_len (rowG (patRows k) x) 132 ((patRows k).getD x []) fun y _ => g x y
    have := rows_small (k := k) (j := x) hk
    unfold rowF
    omega
  have b := flatMap_len (rowG (patRows k) i) 132 (((patRows k).getD i []).take j) fun y _ => g i y
  have c : ((((patRows k).getD ((patRows k).length - 1 - i) []).take l).map fun behind => comb i W behind).length ≤ 132 := by
    rw [List.length_map, List.length_take]
    have := rows_small (k := k) (j := (patRows k).length - 1 - i) hk
    omega
  have d : (((patRows k).getD i []).take j).length ≤ 132 := by
    rw [List.length_take]
    have := rows_small (k := k) (j := i) hk
    omega
  rw [List.length_range] at a
  rw [List.length_append, List.length_append]
  have : i * (132 * 132) ≤ 6 * (132 * 132) := Nat.mul_le_mul_right _ (by omega)
  have : (((patRows k).getD i []).take j).length * 132 ≤ 132 * 132 := Nat.mul_le_mul_right _ d
  omega
theorem getD_row {rows : List (List (List Nat))} {i : Nat} (h : i < rows.length) : rows[i]? = some (rows.getD i []) := by
  rw [List.getD_eq_getElem?_getD, List.getElem?_eq_getElem h]; rfl
theorem nvs_map_add (L : List Nat) (c i : Nat) : nvs ((L.take i).map (· + c)) = (nvs (L.take i)).map fun x => match x with | .int z => .int (z + c) | y => y := by
  unfold nvs
  rw [List.map_map, List.map_map]
  refine List.map_congr_left fun x _ => ?_
  show V.int ((x + c : Nat) : Int) = V.int ((x : Int) + (c : Int))
  rw [Int.natCast_add]
theorem take_map_succ {L : List Nat} {c i : Nat} (h : i < L.length) : nvs ((L.take (i + 1)).map (· + c)) = nvs ((L.take i).map (· + c)) ++ [nv (gd L i + c)] := by
  rw [List.take_add_one, getD_lt h, List.map_append, ← nvs_app]
  rfl
section
variable {P : Program} {w : World} {K : PySem.W.Frag} {mg : Str → Option Value} {base : Heap}
theorem scPatterns : FnScope ["half", "rows", "many", "row", "inner", "first", "within", "head", "behind", "mate"] ["half"] (defScope sPatterns) := ⟨rfl, rfl, rfl, by decide +kernel, rfl, by decide +kernel, by decide +kernel⟩
def spPatterns : Sp := fun vs H Q _ => ∃ h : Nat, vs = [nv h] ∧ h ≤ 6 ∧ ∀ H' q, Same H H' → PatsAt H' q (pats h) → Q (.ref q) H'
set_option maxHeartbeats 16000000 in
theorem ok_patterns {f : Addr} {fd : FuncData} (F : Fun K "patterns" "patterns" sPatterns f fd) (mn : mg "len" = none) (mr : mg "range" = none) (mt : mg "tuple" = none) : FnOk P w K mg base CX0 1 f fd ["half"] spPatterns := by
  refine F.ok scPatterns (fun vs H Q E h => ?_) (fun cdv A outer s H vs Q E hr h => ?_)
  · obtain ⟨h, rfl, _⟩ := h
    rfl
  · obtain ⟨h, rfl, hh, q⟩ := h
    have nd := scPatterns.nd
    refine ⟨_, pss_cons (ps_set (i := 1) nd rfl (.inl rfl) (pe_lst (pa_cons (pe_lst (pa_cons (pe_tup pa_nil) pa_nil)) pa_nil)))
      (pss_cons (ps_while PassesOwn.never (pt_cmpR op_le (pe_callB call_len_seq (by rfl) mn PySem.boot_len (pa_cons (pv 1) pa_nil)) (pv 0) (nomark _))
        (pss_cons (ps_set (i := 2) nd rfl (.inl rfl) (pe_callB call_len_seq (by rfl) mn PySem.boot_len (pa_cons (pv 1) pa_nil)))
        (pss_cons (ps_set (i := 3) nd rfl (.inl rfl) (pe_lst pa_nil))
        (pss_cons (ps_for PassesOwn.never rfl (pi_range1 rfl mr (pa_cons (pv 2) pa_nil)) (pg_name (i := 4) nd rfl (.inl rfl))
            (pss_cons (ps_set (i := 5) nd rfl (.inr rfl) (pe_op op_add (pe_op op_mul pe_int (pv 4)) pe_int))
            (pss_one (ps_for PassesOwn.never rfl (pi_list (pe_ix ix_list (pv 1) (pv 4) (fun _ _ => rfl))) (pg_name (i := 6) nd rfl (.inl rfl))
              (pss_cons (ps_set (i := 7) nd rfl (.inl rfl) (pe_op op_cat (pe_op op_cat (pe_lst (pa_cons (pv 5) pa_nil))
                  (pe_lc (own := [("mate", 9)]) (g := gName 9) rfl nd (pi_tup (pv 6)) (blkOk_by (own := [("mate", 9)]) (N := ["half", "rows", "many", "row", "inner", "first", "within", "head", "behind", "mate"]) (sc := defScope sPatterns) (by decide +kernel)) (fun _ _ _ _ _ => pg_name (i := 9) nd rfl (Or.inl rfl)) (fun _ _ _ _ _ => pts_nil) (fun _ _ _ _ _ => pe_op op_add (pv 9) pe_int)))
                  (pe_lst (pa_cons pe_int pa_nil))))
              (pss_one (ps_for PassesOwn.never rfl (pi_list (pe_ix ix_list (pv 1) (pe_op op_sub (pe_op op_sub (pv 2) pe_int) (pv 4)) (fun _ _ => rfl))) (pg_name (i := 8) nd rfl (.inl rfl))
                (pss_one (ps_expr (pe_bm PySem.F.plainAttrs_list PySem.F.slot_list_append PySem.F.type_list_append mt_append (pv 3)
                  (pa_cons (pe_callTy call_tuple_of (by rfl) mt boot_tuple (pa_cons (pe_op op_cat (pv 7)
                    (pe_lc (own := [("mate", 9)]) (g := gName 9) rfl nd (pi_tup (pv 8)) (blkOk_by (own := [("mate", 9)]) (N := ["half", "rows", "many", "row", "inner", "first", "within", "head", "behind", "mate"]) (sc := defScope sPatterns) (by decide +kernel)) (fun _ _ _ _ _ => pg_name (i := 9) nd rfl (Or.inl rfl)) (fun _ _ _ _ _ => pts_nil) (fun _ _ _ _ _ => pe_op op_add (pe_op op_add (pv 9) (pv 5)) pe_int))) pa_nil)) pa_nil)))))))))))
        (pss_one (ps_expr (pe_bm PySem.F.plainAttrs_list PySem.F.slot_list_append PySem.F.type_list_append mt_append (pv 1) (pa_cons (pv 3) pa_nil))))))))
      (pss_one (ps_ret (pe_ix ix_list (pv 1) (pv 0) (fun _ _ => rfl))))), ?_⟩
    -- rows = [[()]]
    refine ⟨Nat.zero_le _, fun t0 nt0 => ⟨by show 1 ≤ sizeLine; decide, fun q0 nq0 => ⟨by show 1 ≤ sizeLine; decide, fun r nr => ?_⟩⟩⟩
    have s0 : Same H (upd (upd (upd H t0 (.tup [])) q0 (.lst [.ref t0])) r (.lst [.ref q0])) := (same_new nt0).trans ((same_new nq0).trans (same_new nr))
    have nrH : H r = none := ((same_new nt0).trans (same_new nq0)).free nr
    have nq0r : q0 ≠ r := fun e => by rw [← e, upd_same] at nr; cases nr
    have nt0q : t0 ≠ q0 := fun e => by rw [← e, upd_same] at nq0; cases nq0
    have nt0r : t0 ≠ r := fun e => by rw [← e, upd_ne nt0q, upd_same] at nr; cases nr
    have R0 : RowsAt (upd (upd (upd H t0 (.tup [])) q0 (.lst [.ref t0])) r (.lst [.ref q0])) r (patRows 0) := by
      refine ⟨[q0], upd_same, .cons ⟨nq0r, [t0], ?_, .cons ?_ .nil⟩ .nil⟩
      · rw [upd_ne nq0r, upd_same]; rfl
      · rw [upd_ne nt0r, upd_ne nt0q, upd_same]; rfl
    refine ⟨fun m σ H' => ∃ k y2 y3 y4 y5 y6 y7 y8, m = h - k ∧ k ≤ h ∧ σ = [some (nv h), some (.ref r), y2, y3, y4, y5, y6, y7, y8, none] ∧ Same H H' ∧ RowsAt H' r (patRows k), ⟨h, 0, none, none, none, none, none, none, none, rfl, Nat.zero_le _, rfl, s0, R0⟩, ?_⟩
    rintro m σ H1 ⟨k, y2, y3, y4, y5, y6, y7, y8, rfl, hk, rfl, s1, R1⟩
    obtain ⟨qs, hr1, pq⟩ := id R1
    have lq : qs.length = k + 1 := by rw [pq.length, patRows_len]
    refine ⟨_, rfl, r, _, rfl, .inl (SqL.of hr1), _, rfl, _, _, rfl, rfl, ?_⟩
    rw [List.length_map, lq]
    by_cases hlt : k < h
    · refine ⟨true, bl_t (by omega), ?_⟩
      refine iteT ?_
      refine ⟨fun σ' H' => ∃ y2 y3 y4 y5 y6 y7 y8, σ' = [some (nv h), some (.ref r), y2, y3, y4, y5, y6, y7, y8, none] ∧ Same H H' ∧ RowsAt H' r (patRows (k + 1)), fun σ' H' ⟨y2, y3, y4, y5, y6, y7, y8, e, a, b⟩ => ⟨h - (k + 1), by omega, k + 1, y2, y3, y4, y5, y6, y7, y8, rfl, hlt, e, a, b⟩, ?_⟩
      -- many = len(rows); row = []
      refine ⟨_, rfl, r, _, rfl, .inl (SqL.of hr1), ?_⟩
      rw [List.length_map, lq]
      refine ⟨Nat.zero_le _, fun w nw => ?_⟩
      have nwH : H w = none := s1.free nw
      have nrw : r ≠ w := ne_of_none hr1 nw
      refine ⟨_, rfl, _, rfl, by omega, by omega, for_range (lo := 0) (n := k + 1) (fun i σ H' => ∃ y4 y5 y6 y7 y8, σ = [some (nv h), some (.ref r), some (nv (k + 1)), some (.ref w), y4, y5, y6, y7, y8, none] ∧ Same H1 H' ∧ PatsAt H' w (acc1 (patRows k) i))
        ⟨y4, y5, y6, y7, y8, rfl, same_new nw, [], upd_same, .nil⟩ ?_ ?_⟩
      · rintro i σ H2 hi ⟨y4, y5, y6, y7, y8, rfl, s2, W2⟩
        have e0 : ((0 : Int) + (i : Int)) = (i : Int) := Int.zero_add _
        rw [e0]
        obtain ⟨qi, hqi, nqi, ts, hts, pt⟩ := paired_get pq (getD_row (rows := patRows k) (by rw [patRows_len]; exact hi))
        obtain ⟨qb, hqb, nqb, tb, htb, pb⟩ := paired_get pq (getD_row (rows := patRows k) (i := (patRows k).length - 1 - i) (by rw [patRows_len]; omega))
        have hpat : ∀ (i j : Nat) (W : List Nat), ((patRows k).getD i [])[j]? = some W → W.length ≤ 100 := fun i j W e => by
          have mem : W ∈ (patRows k).getD i [] := List.mem_of_getElem? e
          by_cases c : i ≤ k
          · rw [patRows_get c] at mem
            have := ((mem_pats i W).mp mem).len
            omega
          · rw [List.getD_eq_getElem?_getD, List.getElem?_eq_none (by rw [patRows_len]; omega)] at mem
            cases mem
        have hlenW : ∀ {j : Nat} (W : List Nat), ((patRows k).getD i [])[j]? = some W → W.length ≤ 100 := fun {j} W e => hpat i j W e
        have hlenB : ∀ {j : Nat} (W : List Nat), ((patRows k).getD ((patRows k).length - 1 - i) [])[j]? = some W → W.length ≤ 100 := fun {j} W e => hpat _ j W e
        have lt : ts.length = ((patRows k).getD i []).length := pt.length
        have lb : tb.length = ((patRows k).getD ((patRows k).length - 1 - i) []).length := pb.length
        -- first = 2 * inner + 1
        refine ⟨_, rfl, _, _, rfl, rfl, .inl ⟨by decide, by decide⟩, _, _, rfl, rfl, ?_⟩
        have ef : V.int (2 * (i : Int) + 1) = nv (2 * i + 1) := by
          show V.int _ = V.int ((2 * i + 1 : Nat) : Int)
          congr 1
        -- for within in rows[inner]
        refine ⟨_, rfl, _, rfl, r, _, _, .ref qi, rfl, rfl, SqL.of (s2 _ _ hr1), atI_nat (by rw [List.getElem?_map, hqi]; rfl), qi, rfl, ⟨_, SqL.of (s2 _ _ hts)⟩,
          for_list (K := K) (a := qi) (xs := ts.map V.ref) (fun j σ H' => ∃ y6 y7 y8, σ = [some (nv h), some (.ref r), some (nv (k + 1)), some (.ref w), some (nv i), some (nv (2 * i + 1)), y6, y7, y8, none] ∧ Same H1 H' ∧ PatsAt H' w (acc2 (patRows k) i j))
          ⟨y6, y7, y8, by rw [← ef]; rfl, s2, by rw [acc2_zero]; exact W2⟩ (fun j σ H' _ ⟨_, _, _, _, s, _⟩ => SqL.of (s _ _ hts)) ?_ ?_⟩
        · rintro j x σ H3 hx ⟨y6, y7, y8, rfl, s3, W3⟩
          have hj : j < ((patRows k).getD i []).length := by
            have := (List.getElem?_eq_some_iff.mp hx).1
            rw [List.length_map, lt] at this; exact this
          obtain ⟨Wi, hWi⟩ : ∃ Wi, ((patRows k).getD i [])[j]? = some Wi := ⟨_, List.getElem?_eq_getElem hj⟩
          obtain ⟨tj, htj, hW⟩ := paired_get pt hWi
          have ex : x = .ref tj := by
            rw [List.getElem?_map, htj] at hx
            exact (Option.some.inj hx).symm
          subst ex
          -- head = [first] + [mate + 1 for mate in within] + [0]
          refine ⟨_, rfl, by show 1 ≤ sizeLine; decide, fun p1 np1 => ?_⟩
          have s4 : Same H3 (upd H3 p1 (.lst [nv (2 * i + 1)])) := same_new np1
          refine ⟨_, rfl, tj, rfl, ⟨_, SqT.of (s4 _ _ (s3 _ _ hW))⟩, fun D nD => ?_⟩
          refine lc_tup (K := K) (a := tj) (xs := nvs Wi) (fun l H' => Same (upd H3 p1 (.lst [nv (2 * i + 1)])) H' ∧ H' D = some (.lst (nvs ((Wi.take l).map (· + 1))))) ⟨same_new nD, upd_same⟩ (fun l H' _ ⟨s, _⟩ => SqT.of (s _ _ (s4 _ _ (s3 _ _ hW)))) ?_ ?_
          · rintro l y H' hy ⟨s5, e5⟩
            obtain ⟨hl, rfl⟩ := nvs_at hy
            refine ⟨rfl, _, rfl, _, _, rfl, rfl, _, e5, ?_, same_upd2 s5 nD, ?_⟩
            · rw [nvs_len, List.length_map, List.length_take]
              have := hlenW _ hWi
              exact sizeLine_lt (by omega)
            · rw [upd_same, take_map_succ hl]; rfl
          · rintro H5 ⟨s5, e5⟩
            rw [nvs_len, List.take_length] at e5
            have lenW := hlenW _ hWi
            have hp15 : H5 p1 = some (.lst [nv (2 * i + 1)]) := s5 _ _ upd_same
            refine ⟨p1, D, _, _, rfl, rfl, hp15, e5, ?_, fun p2 np2 => ⟨by show 1 ≤ sizeLine; decide, fun p3 np3 => ?_⟩⟩
            · rw [nvs_len, List.length_map]
              show 1 + Wi.length ≤ sizeLine
              exact sizeLine_big (by omega)
            have n23 : p2 ≠ p3 := fun e => by rw [← e, upd_same] at np3; cases np3
            refine ⟨p2, p3, _, _, rfl, rfl, Eq.trans (upd_ne n23) upd_same, upd_same, ?_, fun p4 np4 => ?_⟩
            · rw [List.length_append, nvs_len, List.length_map]
              show 1 + Wi.length + 1 ≤ sizeLine
              exact sizeLine_big (by omega)
            obtain ⟨H8, hH8⟩ : ∃ H8, H8 = upd (upd (upd H5 p2 (.lst ([nv (2 * i + 1)] ++ nvs (Wi.map (· + 1))))) p3 (.lst [V.int 0])) p4 (.lst ([nv (2 * i + 1)] ++ nvs (Wi.map (· + 1)) ++ [V.int 0])) := ⟨_, rfl⟩
            have s8 : Same H3 H8 := by
              rw [hH8]
              exact s4.trans (s5.trans ((same_new np2).trans ((same_new np3).trans (same_new np4))))
            have h8 : H8 p4 = some (.lst (nvs ((2 * i + 1) :: (Wi.map (· + 1) ++ [0])))) := by
              rw [hH8, upd_same]
              congr 2
              show _ = nv (2 * i + 1) :: nvs (Wi.map (· + 1) ++ [0])
              rw [← nvs_app]
              rfl
            have np4w : p4 ≠ w := by
              obtain ⟨zz, ez, _⟩ := W3.keep (s4.trans (s5.trans ((same_new np2).trans (same_new np3))))
              exact (ne_of_none ez np4).symm
            rw [← hH8]
            -- for behind in rows[many - 1 - inner]
            have eb : ((k + 1 : Nat) : Int) - 1 - (i : Int) = (((patRows k).length - 1 - i : Nat) : Int) := by rw [patRows_len]; omega
            refine ⟨_, rfl, _, rfl, _, _, rfl, rfl, _, rfl, _, _, rfl, rfl, r, _, ((k + 1 : Nat) : Int) - 1 - (i : Int), .ref qb, rfl, rfl, SqL.of (s8 _ _ (s3 _ _ hr1)), (by rw [eb]; exact atI_nat (by rw [List.getElem?_map, hqb]; rfl)), qb, rfl, ⟨_, SqL.of (s8 _ _ (s3 _ _ htb))⟩,
              for_list (K := K) (a := qb) (xs := tb.map V.ref) (fun l σ H' => ∃ y8, σ = [some (nv h), some (.ref r), some (nv (k + 1)), some (.ref w), some (nv i), some (nv (2 * i + 1)), some (.ref tj), some (.ref p4), y8, none] ∧ Same H1 H' ∧ H' p4 = some (.lst (nvs ((2 * i + 1) :: (Wi.map (· + 1) ++ [0])))) ∧ PatsAt H' w (acc3 (patRows k) i j l Wi))
              ⟨y8, rfl, s3.trans s8, h8, by rw [acc3_zero]; exact W3.keep s8⟩ (fun l σ H' _ ⟨_, _, s, _⟩ => SqL.of (s _ _ htb)) ?_ ?_⟩
            · rintro l x σ H9 hx9 ⟨y8, rfl, s9, h9, W9⟩
              have hl : l < ((patRows k).getD ((patRows k).length - 1 - i) []).length := by
                have := (List.getElem?_eq_some_iff.mp hx9).1
                rw [List.length_map, lb] at this; exact this
              obtain ⟨Bl, hBl⟩ : ∃ Bl, ((patRows k).getD ((patRows k).length - 1 - i) [])[l]? = some Bl := ⟨_, List.getElem?_eq_getElem hl⟩
              obtain ⟨tl, htl, hB⟩ := paired_get pb hBl
              have ex : x = .ref tl := by
                rw [List.getElem?_map, htl] at hx9
                exact (Option.some.inj hx9).symm
              subst ex
              have lenB := hlenB _ hBl
              obtain ⟨tw, hw9, pw9⟩ := id W9
              refine ⟨_, rfl, .inl ⟨rfl, _, SqL.of hw9⟩, _, rfl, _, rfl, tl, rfl, ⟨_, SqT.of (s9 _ _ hB)⟩, fun D2 nD2 => ?_⟩
              refine lc_tup (K := K) (a := tl) (xs := nvs Bl) (fun z H' => Same H9 H' ∧ H' D2 = some (.lst (nvs ((Bl.take z).map (· + (2 * i + 1 + 1)))))) ⟨same_new nD2, upd_same⟩ (fun z H' _ ⟨s, _⟩ => SqT.of (s _ _ (s9 _ _ hB))) ?_ ?_
              · rintro z y H' hy ⟨s10, e10⟩
                obtain ⟨hz, rfl⟩ := nvs_at hy
                refine ⟨rfl, _, rfl, _, rfl, _, _, rfl, rfl, _, _, rfl, rfl, _, e10, ?_, same_upd2 s10 nD2, ?_⟩
                · rw [nvs_len, List.length_map, List.length_take]
                  exact sizeLine_lt (by omega)
                · rw [upd_same, take_map_succ hz]
                  congr 3
              · rintro H10 ⟨s10, e10⟩
                rw [nvs_len, List.take_length] at e10
                refine ⟨p4, D2, _, _, rfl, rfl, s10 _ _ h9, e10, ?_, fun p5 np5 => ?_⟩
                · rw [nvs_len, nvs_len, List.length_cons, List.length_append, List.length_map, List.length_map]
                  show Wi.length + 1 + 1 + Bl.length ≤ sizeLine
                  exact sizeLine_big (by omega)
                rw [nvs_app]
                refine ⟨p5, _, rfl, .inl ⟨SqL.of upd_same, fun tn ntn => ?_⟩⟩
                have s12 : Same H9 (upd (upd H10 p5 (.lst (nvs ((2 * i + 1) :: (Wi.map (· + 1) ++ [0]) ++ Bl.map (· + (2 * i + 1 + 1)))))) tn (.tup (nvs ((2 * i + 1) :: (Wi.map (· + 1) ++ [0]) ++ Bl.map (· + (2 * i + 1 + 1)))))) := s10.trans ((same_new np5).trans (same_new ntn))
                have hw12 := s12 _ _ hw9
                refine ⟨w, _, _, rfl, rfl, hw12, ?_, ?_⟩
                · rw [List.length_map, pw9.length]
                  exact sizeLine_lt (Nat.le_trans (acc3_len (by omega) (by omega)) (by decide))
                refine ⟨_, rfl, fun b o e => ?_, ?_, ?_⟩
                · rw [upd_ne (ne_of_none e nw)]
                  exact s12 _ _ (s9 _ _ e)
                · rw [upd_ne np4w]
                  exact s12 _ _ h9
                · rw [acc3_succ hBl]
                  exact PatsAt.push hw12 (pw9.mono fun _ _ z => s12 _ _ z) upd_same
            · rintro σ H9 ⟨y8, rfl, s9, h9, W9⟩
              rw [List.length_map, lb] at W9
              exact ⟨_, _, _, rfl, s9, by rw [acc2_succ hWi]; exact W9⟩
        · rintro σ H9 ⟨y6, y7, y8, rfl, s9, W9⟩
          rw [List.length_map, lt] at W9
          exact ⟨_, _, _, _, _, rfl, s9, by rw [acc1_succ]; exact W9⟩
      · rintro σ H9 ⟨y4, y5, y6, y7, y8, rfl, s9, W9⟩
        have hr9 := s9 _ _ hr1
        refine ⟨_, rfl, .inl ⟨rfl, _, SqL.of hr9⟩, _, rfl, r, _, _, rfl, rfl, hr9, ?_, ?_⟩
        · rw [List.length_map, lq]
          exact sizeLine_lt (by omega)
        refine ⟨_, _, _, _, _, _, _, rfl, fun b o e => ?_, ?_⟩
        · rw [upd_ne (ne_of_none e nrH)]
          exact s9 _ _ (s1 _ _ e)
        · refine ⟨qs ++ [w], by rw [upd_same, List.map_append]; rfl, ?_⟩
          refine Paired.snoc (pq.mono fun q PP z => ⟨z.1, (z.2.keep s9).other z.1 hr9⟩) ⟨nrw.symm, ?_⟩
          have W9' : PatsAt H9 w (newRow (patRows k)) := by
            rw [newRow_eq, patRows_len]; exact W9
          exact W9'.other nrw.symm hr9
    · refine ⟨false, bl_f (by omega), ?_⟩
      refine iteF ?_
      have ek : k = h := by omega
      subst ek
      obtain ⟨qh, hqh, _, Wh⟩ := paired_get pq (getD_row (rows := patRows k) (i := k) (by rw [patRows_len]; omega))
      refine ⟨_, rfl, _, rfl, r, _, _, .ref qh, rfl, rfl, SqL.of hr1, atI_nat (by rw [List.getElem?_map, hqh]; rfl), ?_⟩
      exact q H1 qh s1 Wh
end
end HM

/-! all_mats. -/
namespace HM
open PySem PySem.Spec PyProof.Rows L2
section
variable {P : Program} {w : World} {K : PySem.W.Frag} {mg : Str → Option Value} {base : Heap}
theorem scAllMats : FnScope ["n", "m", "place", "mates"] ["n", "m"] (defScope sAllMats) := ⟨rfl, rfl, rfl, by decide +kernel, rfl, by decide +kernel, by decide +kernel⟩
/-- at p: a list of mats, those of R in the order of sorted -/
def MatsAt (H : Hp) (p : Addr) (n m : Nat) (xs : List (V × List Nat)) : Prop := H p = some (.lst ((sortM xs).map (·.1))) ∧ ∀ x ∈ xs, MatAt H x.1 n m x.2
def spAllMats : Sp := fun vs H Q _ => ∃ (n m : Nat), vs = [nv n, nv m] ∧ 0 < n + m ∧ n + m ≤ 12 ∧ (n + m) % 2 = 0 ∧ ∀ H' p xs, Same H H' → MatsAt H' p n m xs → xs.map (·.2) = allN n m → Q (.ref p) H'
theorem ok_allMats {f fC fR fP fM : Addr} {fd fdC fdR fdP fdM : FuncData} (F : Fun K "all_mats" "all_mats" sAllMats f fd)
    (GC : FnOk P w K mg base CX0 1 fC fdC ["n", "m"] spCounts) (kC : PySem.W.keepIn K (.ref fC) = true) (bC : Binds K fdC ["n", "m"] []) (gC : mg "check_counts" = some (.ref fC))
    (GR : FnOk P w K mg base CX0 1 fR fdR ["n", "m"] spRound) (kR : PySem.W.keepIn K (.ref fR) = true) (bR : Binds K fdR ["n", "m"] []) (gR : mg "round_of" = some (.ref fR))
    (GP : FnOk P w K mg base CX0 1 fP fdP ["half"] spPatterns) (kP : PySem.W.keepIn K (.ref fP) = true) (bP : Binds K fdP ["half"] []) (gP : mg "patterns" = some (.ref fP))
    (GM : FnOk P w K mg base CX0 1 fM fdM ["n", "m", "mates", "place"] spRemade) (kM : PySem.W.keepIn K (.ref fM) = true) (bM : Binds K fdM ["n", "m", "mates", "place"] []) (gM : mg "remade" = some (.ref fM))
    (ms : mg "sorted" = none) : FnOk P w K mg base CX0 2 f fd ["n", "m"] spAllMats := by
  refine F.ok scAllMats (fun vs H Q E h => ?_) (fun cdv A outer s H vs Q E hr h => ?_)
  · obtain ⟨n, m, rfl, _⟩ := h
    rfl
  · obtain ⟨n, m, rfl, hpos, hlen, hev, q⟩ := h
    have nd := scAllMats.nd
    refine ⟨_, pss_cons (ps_expr (pe_call GC hr (by rfl) gC kC bC .nil pass0 (pa_cons (pv 0) (pa_cons (pv 1) pa_nil))))
      (pss_cons (ps_if (PW.pt (pw_or (pt_cmpR op_eq (pe_op op_add (pv 0) (pv 1)) pe_int (nomark _)) (pw_or1 (pt_cmpR op_ne (pe_op op_mod (pe_op op_add (pv 0) (pv 1)) pe_int) pe_int (nomark _))))) (pss_one (ps_ret (pe_lst pa_nil))) pss_nil)
      (pss_cons (ps_set (i := 2) nd rfl (.inr rfl) (pe_call GR hr (by rfl) gR kR bR .nil pass0 (pa_cons (pv 0) (pa_cons (pv 1) pa_nil))))
      (pss_one (ps_ret (pe_callB (cr_sortedM hr.units) (by rfl) ms (by decide +kernel) (pa_cons
        (pe_lc (own := [("mates", 3)]) (g := gName 3) rfl nd (pi_list (pe_call GP hr (by rfl) gP kP bP .nil pass0 (pa_cons (pe_op op_fdiv (pe_op op_add (pv 0) (pv 1)) pe_int) pa_nil)))
          (blkOk_by (own := [("mates", 3)]) (N := ["n", "m", "place", "mates"]) (sc := defScope sAllMats) (by decide +kernel)) (fun _ _ _ _ _ => pg_name (i := 3) nd rfl (Or.inl rfl)) (fun _ _ _ _ _ => pts_nil)
          (fun _ _ _ _ _ => pe_call GM hr (by rfl) gM kM bM .nil pass0 (pa_cons (pv 0) (pa_cons (pv 1) (pa_cons (pv 3) (pa_cons (pv 2) pa_nil)))))) pa_nil)))))), ?_⟩
    refine ⟨_, rfl, _, rfl, n, m, rfl, fun H1 s1 => ?_⟩
    refine ⟨_, rfl, _, rfl, _, _, rfl, rfl, rfl, false, bl_f (fun e => by have := V.int.inj e; omega), iteF ?_⟩
    refine ⟨_, rfl, _, rfl, _, _, rfl, rfl, _, _, rfl, rfl, (by show (0 : Int) < 2; decide), rfl, false, nbl_f (show V.int (((n : Int) + (m : Int)) % 2) = V.int 0 from congrArg V.int (by omega)), iteF ?_⟩
    refine ⟨_, rfl, _, rfl, n, m, rfl, by omega, fun H2 pl s2 npl hpl => ?_⟩
    refine ⟨_, rfl, _, rfl, _, _, rfl, rfl, _, _, rfl, rfl, ⟨by decide, by decide⟩, (n + m) / 2, ?_, by omega, fun H3 pp s3 W3 => ?_⟩
    · congr 1
    obtain ⟨ts, hts, pt⟩ := id W3
    refine ⟨pp, rfl, ⟨_, SqL.of hts⟩, fun D nD => ?_⟩
    refine lc_list (K := K) (a := pp) (xs := ts.map V.ref) (fun i H' => Same H3 H' ∧ ∃ zs : List (V × List Nat), H' D = some (.lst (zs.map (·.1))) ∧ zs.map (·.2) = ((pats ((n + m) / 2)).take i).map (remN n m) ∧ ∀ z ∈ zs, MatAt H' z.1 n m z.2)
      ⟨same_new nD, [], upd_same, rfl, fun z hz => nomatch hz⟩ (fun i H' _ ⟨s, _⟩ => SqL.of (s _ _ hts)) ?_ ?_
    · rintro i x H4 hx ⟨s4, zs, hD, ez, hz⟩
      have hi : i < (pats ((n + m) / 2)).length := by
        have := (List.getElem?_eq_some_iff.mp hx).1
        rw [List.length_map, pt.length] at this; exact this
      obtain ⟨L, hL⟩ : ∃ L, (pats ((n + m) / 2))[i]? = some L := ⟨_, List.getElem?_eq_getElem hi⟩
      obtain ⟨t, ht, hT⟩ := paired_get pt hL
      have ex : x = .ref t := by
        rw [List.getElem?_map, ht] at hx
        exact (Option.some.inj hx).symm
      subst ex
      have pL := (mem_pats _ _).mp (List.mem_of_getElem? hL)
      refine ⟨rfl, _, rfl, _, rfl, _, rfl, _, rfl, n, m, t, pl, L, rfl, s4 _ _ hT, by rw [pL.len]; omega, fun j hj => ?_, s4 _ _ (s3 _ _ hpl), by omega, fun H5 v s5 hv => ?_⟩
      · have := pL.nc.lt j (by omega)
        omega
      refine ⟨_, s5 _ _ hD, ?_, fun b o e => ?_, zs ++ [(v, remN n m L)], ?_, ?_, fun z hzz => ?_⟩
      · have := congrArg List.length ez
        rw [List.length_map, List.length_map, List.length_take] at this
        rw [List.length_map]
        have := pats_small ((n + m) / 2) (by omega)
        exact sizeLine_lt (by omega)
      · rw [upd_ne (ne_of_none e nD)]
        exact s5 _ _ (s4 _ _ e)
      · rw [upd_same, List.map_append]; rfl
      · rw [List.map_append, ez, List.take_add_one, hL, List.map_append]; rfl
      · have k : Tk H5 (upd H5 D (.lst (zs.map (·.1) ++ [v]))) := sameBut_upd.tk (s5 _ _ hD)
        rcases List.mem_append.mp hzz with a | a
        · exact ((hz z a).tk (tk_same s5)).tk k
        · rw [List.mem_singleton.mp a]
          exact hv.tk k
    · rintro H4 ⟨s4, zs, hD, ez, hz⟩
      rw [List.length_map, pt.length, List.take_length] at ez
      refine ⟨D, zs, n, m, rfl, SqL.of hD, fun x hx => (hz x hx).dp, fun p np => ?_⟩
      exact q _ p zs (s1.trans (s2.trans (s3.trans (s4.trans (same_new np))))) ⟨upd_same, fun x hx => (hz x hx).tk (tk_same (same_new np))⟩ ez
end
end HM

/-! far_end. -/
namespace HM
open PySem PySem.Spec PyProof.Rows L2
def bls (b : List Bool) : List V := b.map V.bl
theorem bls_len (b : List Bool) : (bls b).length = b.length := by unfold bls; rw [List.length_map]
theorem bls_get {b : List Bool} {i : Nat} (h : i < b.length) : (bls b)[i]? = some (.bl (b.getD i false)) := by
  unfold bls
  rw [List.getElem?_map, List.getElem?_eq_getElem h, List.getD_eq_getElem?_getD, List.getElem?_eq_getElem h]; rfl
theorem bls_set (b : List Bool) (i : Nat) : (bls b).set i (.bl true) = bls (b.set i true) := by unfold bls; rw [List.map_set]
theorem ixN_nat {n j : Nat} (h : j < n) : ixN n (j : Int) = some j := by
  unfold ixN
  rw [if_pos (by omega), if_pos (by omega)]
  simp
theorem nv_sub {a b : Nat} (h : b ≤ a) : V.int ((a : Int) - (b : Int)) = nv (a - b) := by
  show _ = V.int ((a - b : Nat) : Int)
  congr 1
  omega
/-- half way along a string -/
structure FarW (n m k : Nat) (A B : List Nat) (p : Nat) (bs : List Bool) (l : Nat) (ahead : Bool) (t : Nat) (bs' : List Bool) : Prop where
  len : bs'.length = m
  far : Far n m A B bs' ahead t
  rng : (ahead = true → t < n + m) ∧ (ahead = false → t < m + k)
  go : ∃ y, Go n m (e0 n m A B) 0 l (node n m ahead t) y ∧ out n m y = gd (compN n m k A B) p
  le : Le bs bs'
  nbr : (p < n → n ≤ gd A p → bt bs' (gd A p - n) ∨ (ahead = true ∧ t = gd A p)) ∧ (n ≤ p → gd B (m + p - n) < m → bt bs' (gd B (m + p - n)) ∨ (ahead = false ∧ t = gd B (m + p - n)))
section
variable {n m k : Nat} {A B : List Nat} {p : Nat} {bs bs' : List Bool} {l t : Nat}
theorem FarW.start_a (hA : IsMat n m A) (hB : IsMat m k B) (hp : p < n) (hl : bs.length = m) (hc : Cl n m A B bs) : ∃ l, FarW n m k A B p bs l true (gd A p) bs := by
  obtain ⟨l, y, g, e⟩ := go_start hA hB (x := p) (by omega)
  have ei : inn n m p = p := if_pos hp
  rw [ei, e0_l (by omega)] at g
  exact ⟨l, hl, hc.start_a hA hp, ⟨fun _ => hA.lt p (by omega), fun z => nomatch z⟩, ⟨y, g, e⟩, Le.refl _, ⟨fun _ _ => .inr ⟨rfl, rfl⟩, fun z => by omega⟩⟩
theorem FarW.start_b (hA : IsMat n m A) (hB : IsMat m k B) (hp : n ≤ p) (hp2 : p < n + k) (hl : bs.length = m) (hc : Cl n m A B bs) : ∃ l, FarW n m k A B p bs l false (gd B (m + p - n)) bs := by
  obtain ⟨l, y, g, e⟩ := go_start hA hB (x := p) hp2
  have ei : inn n m p = n + m + (m + p - n) := by unfold inn; rw [if_neg (by omega)]; omega
  rw [ei, e0_r] at g
  exact ⟨l, hl, hc.start_b hB (by omega) (by omega), ⟨(fun z => nomatch z), fun _ => hB.lt _ (by omega)⟩, ⟨y, g, e⟩, Le.refl _, ⟨fun z => by omega, fun _ _ => .inr ⟨rfl, rfl⟩⟩⟩
theorem FarW.end_a (h : FarW n m k A B p bs l true t bs') (ht : t < n) : gd (compN n m k A B) p = t ∧ Cl n m A B bs' ∧ Nbr n m A B bs' p := by
  obtain ⟨y, g, e⟩ := h.go
  have ey := (go_ahead g (h.rng.1 rfl)).1 ht
  refine ⟨?_, h.far.end_a ht, ⟨fun a b => ?_, fun a b => ?_⟩⟩
  · rw [← e, ey]
    exact if_pos ht
  · rcases h.nbr.1 a b with z | ⟨_, z⟩
    · exact z
    · omega
  · rcases h.nbr.2 a b with z | ⟨z, _⟩
    · exact z
    · cases z
theorem FarW.end_b (h : FarW n m k A B p bs l false t bs') (ht : m ≤ t) : gd (compN n m k A B) p = n + t - m ∧ Cl n m A B bs' ∧ Nbr n m A B bs' p := by
  obtain ⟨y, g, e⟩ := h.go
  have ey := (go_back g).1 ht
  refine ⟨?_, h.far.end_b ht, ⟨fun a b => ?_, fun a b => ?_⟩⟩
  · rw [← e, ey]
    unfold out
    rw [if_neg (by omega)]
    omega
  · rcases h.nbr.1 a b with z | ⟨z, _⟩
    · exact z
    · cases z
  · rcases h.nbr.2 a b with z | ⟨_, z⟩
    · exact z
    · omega
theorem FarW.ahead (h : FarW n m k A B p bs l true t bs') (hB : IsMat m k B) (ht : n ≤ t) : ∃ l', l' < l ∧ FarW n m k A B p bs l' false (gd B (t - n)) (bs'.set (t - n) true) := by
  obtain ⟨y, g, e⟩ := h.go
  have hr := h.rng.1 rfl
  obtain ⟨l', hl, g'⟩ := (go_ahead g hr).2 ht
  have hj : t - n < bs'.length := by rw [h.len]; omega
  refine ⟨l', hl, by rw [List.length_set]; exact h.len, h.far.ahead hB h.len ht hr, ⟨(fun z => nomatch z), fun _ => hB.lt _ (by omega)⟩, ⟨y, g', e⟩, h.le.trans (Le.set hj), ⟨fun a b => .inl ?_, fun a b => .inl ?_⟩⟩
  · rcases h.nbr.1 a b with z | ⟨_, z⟩
    · exact Le.set hj _ z
    · rw [← z]; exact (bt_set hj).mpr (.inl rfl)
  · rcases h.nbr.2 a b with z | ⟨z, _⟩
    · exact Le.set hj _ z
    · cases z
theorem FarW.back (h : FarW n m k A B p bs l false t bs') (hA : IsMat n m A) (ht : t < m) : ∃ l', l' < l ∧ FarW n m k A B p bs l' true (gd A (n + t)) (bs'.set t true) := by
  obtain ⟨y, g, e⟩ := h.go
  obtain ⟨l', hl, g'⟩ := (go_back g).2 ht
  have hj : t < bs'.length := by rw [h.len]; omega
  refine ⟨l', hl, by rw [List.length_set]; exact h.len, h.far.back hA h.len ht, ⟨fun _ => hA.lt _ (by omega), fun z => nomatch z⟩, ⟨y, g', e⟩, h.le.trans (Le.set hj), ⟨fun a b => .inl ?_, fun a b => .inl ?_⟩⟩
  · rcases h.nbr.1 a b with z | ⟨z, _⟩
    · exact Le.set hj _ z
    · cases z
  · rcases h.nbr.2 a b with z | ⟨_, z⟩
    · exact Le.set hj _ z
    · rw [← z]; exact (bt_set hj).mpr (.inl rfl)
end
section
variable {P : Program} {w : World} {K : PySem.W.Frag} {mg : Str → Option Value} {base : Heap}
theorem scFarEnd : FnScope ["one", "other", "peg", "passed", "n", "middle", "ahead", "at"] ["one", "other", "peg", "passed"] (defScope sFarEnd) := ⟨rfl, rfl, rfl, by decide +kernel, rfl, by decide +kernel, by decide +kernel⟩
def spFarEnd : Sp := fun vs H Q _ => ∃ (v1 v2 : V) (n m k p : Nat) (A B : List Nat) (b : Addr) (bs : List Bool), vs = [v1, v2, nv p, .ref b] ∧ MatAt H v1 n m A ∧ MatAt H v2 m k B ∧ IsMat n m A ∧ IsMat m k B ∧ p < n + k ∧
  H b = some (.lst (bls bs)) ∧ bs.length = m ∧ Cl n m A B bs ∧
  ∀ H' bs', SameBut b H H' → H' b = some (.lst (bls bs')) → bs'.length = m → Cl n m A B bs' → Le bs bs' → Nbr n m A B bs' p → Q (nv (gd (compN n m k A B) p)) H'
set_option maxHeartbeats 8000000 in
theorem ok_farEnd {f : Addr} {fd : FuncData} (F : Fun K "far_end" "far_end" sFarEnd f fd) : FnOk P w K mg base CX0 1 f fd ["one", "other", "peg", "passed"] spFarEnd := by
  refine F.ok scFarEnd (fun vs H Q E h => ?_) (fun cdv A0 outer s H vs Q E hr h => ?_)
  · obtain ⟨v1, v2, n, m, k, p, A, B, b, bs, rfl, _⟩ := h
    rfl
  · obtain ⟨v1, v2, n, m, k, p, A, B, b, bs, rfl, ⟨a1, t1, rfl, ha1, ht1⟩, ⟨a2, t2, rfl, ha2, ht2⟩, hA, hB, hp, hb, hbl, hcl, q⟩ := h
    have nd := scFarEnd.nd
    refine ⟨_, pss_cons (ps_par (i := 4) (j := 5) rfl nd rfl rfl (by decide) rfl rfl (pa_cons (pe_ix ix_tup (pv 0) pe_int (fun _ _ => rfl)) (pa_cons (pe_ix ix_tup (pv 0) pe_int (fun _ _ => rfl)) pa_nil)) (by rfl))
      (pss_cons (ps_set (i := 6) nd rfl (.inl rfl) (pe_cmpR op_lt (pv 2) (pv 4) (nomark _)))
      (pss_cons (ps_set (i := 7) nd rfl (.inl rfl) (pe_ifExp (pt_val (pv 6)) (pe_ix ix_tup (pe_ix ix_tup (pv 0) pe_int (fun _ _ => rfl)) (pv 2) (fun _ _ => rfl)) (pe_ix ix_tup (pe_ix ix_tup (pv 1) pe_int (fun _ _ => rfl)) (pe_op op_sub (pe_op op_add (pv 5) (pv 2)) (pv 4)) (fun _ _ => rfl))))
      (pss_one (ps_while PassesOwn.never (pt_val pe_bl)
        (pss_cons (ps_if (pt_val (pv 6))
          (pss_cons (ps_if (pt_cmpR op_lt (pv 7) (pv 4) (nomark _)) (pss_one (ps_ret (pv 7))) pss_nil)
          (pss_cons (ps_aug (i := 7) nd rfl (.inl rfl) (pv 4) ip_sub)
          (pss_cons (ps_asg pe_bl (pg_sub (pv 3) (pv 7) set_list))
          (pss_one (ps_set (i := 7) nd rfl (.inl rfl) (pe_ix ix_tup (pe_ix ix_tup (pv 1) pe_int (fun _ _ => rfl)) (pv 7) (fun _ _ => rfl)))))))
          (pss_cons (ps_if (pt_cmpR op_ge (pv 7) (pv 5) (nomark _)) (pss_one (ps_ret (pe_op op_sub (pe_op op_add (pv 4) (pv 7)) (pv 5)))) pss_nil)
          (pss_cons (ps_asg pe_bl (pg_sub (pv 3) (pv 7) set_list))
          (pss_one (ps_set (i := 7) nd rfl (.inl rfl) (pe_ix ix_tup (pe_ix ix_tup (pv 0) pe_int (fun _ _ => rfl)) (pe_op op_add (pv 4) (pv 7)) (fun _ _ => rfl)))))))
        (pss_one (ps_set (i := 6) nd rfl (.inl rfl) (pe_not (pv 6))))))))), ?_⟩
    -- n, middle = one[0], one[1]
    refine ⟨_, rfl, a1, _, 0, nv n, rfl, rfl, SqT.of ha1, atI_nat (j := 0) rfl, _, rfl, a1, _, 1, nv m, rfl, rfl, SqT.of ha1, atI_nat (j := 1) rfl, _, _, rfl, ?_⟩
    obtain ⟨W, hW⟩ : ∃ W : Nat → L2.St → Hp → Prop, W = fun l σ H' => ∃ ahead t bs', σ = [some (.ref a1), some (.ref a2), some (nv p), some (.ref b), some (nv n), some (nv m), some (.bl ahead), some (nv t)] ∧ SameBut b H H' ∧ H' b = some (.lst (bls bs')) ∧ FarW n m k A B p bs l ahead t bs' := ⟨_, rfl⟩
    have tk0 : ∀ {H' : Hp} {u : Addr} {xs : List V}, SameBut b H H' → H u = some (.tup xs) → H' u = some (.tup xs) := fun {H' u xs} sb e => sb.tk hb u xs e
    by_cases hpn : p < n
    focus
      refine ⟨_, rfl, _, rfl, _, _, rfl, rfl, ?_⟩
      show gName 6 (V.bl (decide ((p : Int) < (n : Int)))) _ _ _
      rw [bl_t (show (p : Int) < (n : Int) by omega)]
      refine ⟨_, rfl, true, rfl, iteT ?_⟩
      refine ⟨_, rfl, a1, _, 2, .ref t1, rfl, rfl, SqT.of ha1, atI_nat (j := 2) rfl, _, rfl, t1, _, _, nv (gd A p), rfl, rfl, SqT.of ht1, atI_nat (nvs_get (by rw [hA.len]; omega)), ?_⟩
      obtain ⟨l, hF⟩ := FarW.start_a hA hB hpn hbl hcl
      refine ⟨W, ⟨l, by rw [hW]; exact ⟨true, gd A p, bs, rfl, SameBut.refl _ _, hb, hF⟩⟩, ?_⟩
    rotate_left
    focus
      refine ⟨_, rfl, _, rfl, _, _, rfl, rfl, ?_⟩
      show gName 6 (V.bl (decide ((p : Int) < (n : Int)))) _ _ _
      rw [bl_f (show ¬ (p : Int) < (n : Int) by omega)]
      refine ⟨_, rfl, false, rfl, iteF ?_⟩
      have ei : ((m : Int) + (p : Int)) - (n : Int) = ((m + p - n : Nat) : Int) := by omega
      refine ⟨_, rfl, a2, _, 2, .ref t2, rfl, rfl, SqT.of ha2, atI_nat (j := 2) rfl, _, rfl, _, rfl, _, _, rfl, rfl, _, rfl, _, _, rfl, rfl, t2, _, ((m : Int) + (p : Int)) - (n : Int), nv (gd B (m + p - n)), rfl, rfl, SqT.of ht2, (by rw [ei]; exact atI_nat (nvs_get (by rw [hB.len]; omega))), ?_⟩
      obtain ⟨l, hF⟩ := FarW.start_b hA hB (by omega) hp hbl hcl
      refine ⟨W, ⟨l, by rw [hW]; exact ⟨false, gd B (m + p - n), bs, rfl, SameBut.refl _ _, hb, hF⟩⟩, ?_⟩
    all_goals
      intro l σ H' hw
      rw [hW] at hw
      obtain ⟨ahead, t, bs', rfl, sb, hb', hF⟩ := hw
      refine ⟨true, rfl, ?_⟩
      refine iteT ?_
      refine ⟨fun σ' H' => ∃ l', l' < l ∧ W l' σ' H', fun σ' H' h => h, ?_⟩
      cases ahead with
      | true =>
        have hr := hF.rng.1 rfl
        refine ⟨_, rfl, true, rfl, iteT ?_⟩
        by_cases ht : t < n
        · refine ⟨_, rfl, _, rfl, _, _, rfl, rfl, true, bl_t (by omega), iteT ?_⟩
          obtain ⟨e1, e2, e3⟩ := hF.end_a ht
          refine ⟨_, rfl, ?_⟩
          have := q H' bs' sb hb' hF.len e2 hF.le e3
          rw [e1] at this
          exact this
        · refine ⟨_, rfl, _, rfl, _, _, rfl, rfl, false, bl_f (by omega), iteF ?_⟩
          obtain ⟨l', hl, hF'⟩ := hF.ahead hB (by omega)
          refine ⟨_, rfl, _, rfl, _, _, rfl, rfl, ?_⟩
          have es : V.int ((t : Int) - (n : Int)) = nv (t - n) := nv_sub (by omega)
          refine ⟨_, rfl, nv (t - n), (show some (some (V.int ((t : Int) - (n : Int)))) = some (some (nv (t - n))) from congrArg (fun x => some (some x)) es), b, _, _, t - n, rfl, rfl, hb', by rw [bls_len, hF.len]; exact ixN_nat (by omega), ?_⟩
          rw [bls_set]
          have sb2 : SameBut b H (upd H' b (.lst (bls (bs'.set (t - n) true)))) := sb.trans sameBut_upd
          refine ⟨_, rfl, a2, _, 2, .ref t2, rfl, rfl, SqT.of (tk0 sb2 ha2), atI_nat (j := 2) rfl, nv (t - n), (show some (some (V.int ((t : Int) - (n : Int)))) = some (some (nv (t - n))) from congrArg (fun x => some (some x)) es), t2, _, _, nv (gd B (t - n)), rfl, rfl, SqT.of (tk0 sb2 ht2), atI_nat (nvs_get (by rw [hB.len]; omega)), ?_⟩
          refine ⟨_, rfl, true, rfl, l', hl, ?_⟩
          rw [hW]
          exact ⟨false, _, _, rfl, sb2, upd_same, hF'⟩
      | false =>
        have hr := hF.rng.2 rfl
        refine ⟨_, rfl, false, rfl, iteF ?_⟩
        by_cases ht : m ≤ t
        · refine ⟨_, rfl, _, rfl, _, _, rfl, rfl, true, bl_t (by omega), iteT ?_⟩
          obtain ⟨e1, e2, e3⟩ := hF.end_b ht
          refine ⟨_, rfl, _, rfl, _, _, rfl, rfl, _, rfl, _, _, rfl, rfl, ?_⟩
          have := q H' bs' sb hb' hF.len e2 hF.le e3
          rw [e1] at this
          have es : V.int (((n : Int) + (t : Int)) - (m : Int)) = nv (n + t - m) := by
            show _ = V.int ((n + t - m : Nat) : Int)
            congr 1
            omega
          show Q (V.int (((n : Int) + (t : Int)) - (m : Int))) H'
          rw [es]
          exact this
        · refine ⟨_, rfl, _, rfl, _, _, rfl, rfl, false, bl_f (by omega), iteF ?_⟩
          obtain ⟨l', hl, hF'⟩ := hF.back hA (by omega)
          refine ⟨_, rfl, _, rfl, b, _, _, t, rfl, rfl, hb', by rw [bls_len, hF.len]; exact ixN_nat (by omega), ?_⟩
          rw [bls_set]
          have sb2 : SameBut b H (upd H' b (.lst (bls (bs'.set t true)))) := sb.trans sameBut_upd
          have ei : (n : Int) + (t : Int) = ((n + t : Nat) : Int) := by omega
          refine ⟨_, rfl, a1, _, 2, .ref t1, rfl, rfl, SqT.of (tk0 sb2 ha1), atI_nat (j := 2) rfl, _, rfl, _, rfl, _, _, rfl, rfl, t1, _, (n : Int) + (t : Int), nv (gd A (n + t)), rfl, rfl, SqT.of (tk0 sb2 ht1), (by rw [ei]; exact atI_nat (nvs_get (by rw [hA.len]; omega))), ?_⟩
          refine ⟨_, rfl, false, rfl, l', hl, ?_⟩
          rw [hW]
          exact ⟨true, _, _, rfl, sb2, upd_same, hF'⟩
end
end HM

/-! loose_rings, put_behind, mat_behind. -/
namespace HM
open PySem PySem.Spec PyProof.Rows L2
theorem rep_false (k : Nat) : (List.replicate k [V.bl false]).flatten = bls (List.replicate k false) := by
  unfold bls
  induction k with
  | zero => rfl
  | succ k ih =>
    rw [List.replicate_succ, List.flatten_cons, ih, List.replicate_succ, List.map_cons]
    rfl
section
variable {P : Program} {w : World} {K : PySem.W.Frag} {mg : Str → Option Value} {base : Heap}
theorem scLoose : FnScope ["one", "other", "passed", "n", "rings", "start", "at"] ["one", "other", "passed"] (defScope sLoose) := ⟨rfl, rfl, rfl, by decide +kernel, rfl, by decide +kernel, by decide +kernel⟩
def spLoose : Sp := fun vs H Q _ => ∃ (v1 v2 : V) (n m k : Nat) (A B : List Nat) (b : Addr) (bs : List Bool), vs = [v1, v2, .ref b] ∧ m ≤ 1000 ∧ MatAt H v1 n m A ∧ MatAt H v2 m k B ∧ IsMat n m A ∧ IsMat m k B ∧
  H b = some (.lst (bls bs)) ∧ bs.length = m ∧ Cl n m A B bs ∧ (∀ p, p < n + k → Nbr n m A B bs p) ∧
  ∀ H' z, SameBut b H H' → Q (.int z) H'
set_option maxHeartbeats 8000000 in
theorem ok_loose {f : Addr} {fd : FuncData} (F : Fun K "loose_rings" "loose_rings" sLoose f fd) (mr : mg "range" = none) : FnOk P w K mg base CX0 1 f fd ["one", "other", "passed"] spLoose := by
  refine F.ok scLoose (fun vs H Q E h => ?_) (fun cdv A0 outer s H vs Q E hr h => ?_)
  · obtain ⟨v1, v2, n, m, k, A, B, b, bs, rfl, _⟩ := h
    rfl
  · obtain ⟨v1, v2, n, m, k, A, B, b, bs, rfl, hm, ⟨a1, t1, rfl, ha1, ht1⟩, ⟨a2, t2, rfl, ha2, ht2⟩, hA, hB, hb, hbl, hcl, hnb, q⟩ := h
    have nd := scLoose.nd
    refine ⟨_, pss_cons (ps_set (i := 3) nd rfl (.inl rfl) (pe_ix ix_tup (pv 0) pe_int (fun _ _ => rfl)))
      (pss_cons (ps_set (i := 4) nd rfl (.inl rfl) pe_int)
      (pss_cons (ps_for PassesOwn.never rfl (pi_range1 rfl mr (pa_cons (pe_ix ix_tup (pv 0) pe_int (fun _ _ => rfl)) pa_nil)) (pg_name (i := 5) nd rfl (.inl rfl))
        (pss_one (ps_if (pt_not (pt_val (pe_ix ix_list (pv 2) (pv 5) (fun _ _ => rfl))))
          (pss_cons (ps_aug (i := 4) nd rfl (.inl rfl) pe_int ip_add)
          (pss_cons (ps_set (i := 6) nd rfl (.inl rfl) (pv 5))
          (pss_one (ps_while PassesOwn.never (pt_not (pt_val (pe_ix ix_list (pv 2) (pv 6) (fun _ _ => rfl))))
            (pss_cons (ps_asg pe_bl (pg_sub (pv 2) (pv 6) set_list))
            (pss_cons (ps_set (i := 6) nd rfl (.inl rfl) (pe_op op_sub (pe_ix ix_tup (pe_ix ix_tup (pv 0) pe_int (fun _ _ => rfl)) (pe_op op_add (pv 3) (pv 6)) (fun _ _ => rfl)) (pv 3)))
            (pss_cons (ps_asg pe_bl (pg_sub (pv 2) (pv 6) set_list))
            (pss_one (ps_set (i := 6) nd rfl (.inl rfl) (pe_ix ix_tup (pe_ix ix_tup (pv 1) pe_int (fun _ _ => rfl)) (pv 6) (fun _ _ => rfl)))))))))))
          pss_nil)))
      (pss_one (ps_ret (pv 4))))), ?_⟩
    have tk0 : ∀ {H' : Hp} {u : Addr} {xs : List V}, SameBut b H H' → H u = some (.tup xs) → H' u = some (.tup xs) := fun {H' u xs} sb e => sb.tk hb u xs e
    refine ⟨_, rfl, a1, _, 0, nv n, rfl, rfl, SqT.of ha1, atI_nat (j := 0) rfl, ?_⟩
    refine ⟨_, rfl, a1, _, 1, nv m, rfl, rfl, SqT.of ha1, atI_nat (j := 1) rfl, (m : Int), rfl, ?_⟩
    · refine ⟨by omega, by omega, for_range (lo := 0) (n := m) (fun i σ H' => ∃ z y5 y6 bs', σ = [some (.ref a1), some (.ref a2), some (.ref b), some (nv n), some (.int z), y5, y6] ∧ SameBut b H H' ∧ H' b = some (.lst (bls bs')) ∧ bs'.length = m ∧ Le bs bs')
        ⟨0, none, none, bs, rfl, SameBut.refl _ _, hb, hbl, Le.refl _⟩ ?_ ?_⟩
      · rintro i σ H1 hi ⟨z, y5, y6, bs1, rfl, sb, hb1, hl1, le1⟩
        have e0 : ((0 : Int) + (i : Int)) = (i : Int) := Int.zero_add _
        rw [e0]
        refine ⟨_, rfl, _, rfl, b, _, _, .bl (bs1.getD i false), rfl, rfl, SqL.of hb1, atI_nat (bls_get (by omega)), bs1.getD i false, rfl, ?_⟩
        cases hc : bs1.getD i false with
        | true =>
          refine iteF ?_
          exact ⟨_, _, _, _, rfl, sb, hb1, hl1, le1⟩
        | false =>
          refine iteT ?_
          refine ⟨_, rfl, _, _, rfl, rfl, ?_⟩
          refine ⟨_, rfl, ?_⟩
          have nb0 : ¬ bt bs i := fun x => by
            have := le1 i x
            unfold bt at this
            rw [hc] at this
            cases this
          refine ⟨fun l σ H' => ∃ t bs', l = unp bs' ∧ σ = [some (.ref a1), some (.ref a2), some (.ref b), some (nv n), some (.int (z + 1)), some (nv i), some (nv t)] ∧ SameBut b H H' ∧ H' b = some (.lst (bls bs')) ∧ bs'.length = m ∧ Le bs bs' ∧ t < m ∧ ¬ bt bs t,
            ⟨_, i, bs1, rfl, rfl, sb, hb1, hl1, le1, hi, nb0⟩, ?_⟩
          rintro l σ H2 ⟨t, bs2, rfl, rfl, sb2, hb2, hl2, le2, ht, nbt⟩
          refine ⟨_, rfl, _, rfl, b, _, _, .bl (bs2.getD t false), rfl, rfl, SqL.of hb2, atI_nat (bls_get (by omega)), bs2.getD t false, rfl, ?_⟩
          cases hc2 : bs2.getD t false with
          | true =>
            refine iteF ?_
            exact ⟨_, _, _, _, rfl, sb2, hb2, hl2, le2⟩
          | false =>
            refine iteT ?_
            have nbt2 : ¬ bt bs2 t := fun x => by
              unfold bt at x
              rw [hc2] at x
              cases x
            obtain ⟨r1, r2, r3⟩ := ring_a hA hcl hnb ht nbt
            obtain ⟨r4, r5⟩ := ring_b (i := gd A (n + t) - n) hB hcl hnb (by omega) r3
            have j1 : t < bs2.length := by omega
            have j2 : gd A (n + t) - n < (bs2.set t true).length := by rw [List.length_set]; omega
            refine ⟨fun σ H' => ∃ t bs', unp bs' < unp bs2 ∧ σ = [some (.ref a1), some (.ref a2), some (.ref b), some (nv n), some (.int (z + 1)), some (nv i), some (nv t)] ∧ SameBut b H H' ∧ H' b = some (.lst (bls bs')) ∧ bs'.length = m ∧ Le bs bs' ∧ t < m ∧ ¬ bt bs t,
              fun σ' H' ⟨t, bs', lt, e, x⟩ => ⟨_, lt, t, bs', rfl, e, x⟩, ?_⟩
            -- passed[at] = True
            refine ⟨_, rfl, _, rfl, b, _, _, t, rfl, rfl, hb2, by rw [bls_len]; exact ixN_nat j1, ?_⟩
            rw [bls_set]
            have sb3 : SameBut b H (upd H2 b (.lst (bls (bs2.set t true)))) := sb2.trans sameBut_upd
            -- at = one[2][n + at] - n
            have ei : (n : Int) + (t : Int) = ((n + t : Nat) : Int) := by omega
            refine ⟨_, rfl, a1, _, 2, .ref t1, rfl, rfl, SqT.of (tk0 sb3 ha1), atI_nat (j := 2) rfl, _, rfl, _, rfl, _, _, rfl, rfl, t1, _, (n : Int) + (t : Int), nv (gd A (n + t)), rfl, rfl, SqT.of (tk0 sb3 ht1), (by rw [ei]; exact atI_nat (nvs_get (by rw [hA.len]; omega))), _, rfl, _, _, rfl, rfl, ?_⟩
            have es : V.int ((gd A (n + t) : Int) - (n : Int)) = nv (gd A (n + t) - n) := nv_sub r1
            -- passed[at] = True
            refine ⟨_, rfl, nv (gd A (n + t) - n), (show some (some (V.int ((gd A (n + t) : Int) - (n : Int)))) = some (some (nv (gd A (n + t) - n))) from congrArg (fun x => some (some x)) es), b, _, _, gd A (n + t) - n, rfl, rfl, upd_same, by rw [bls_len]; exact ixN_nat j2, ?_⟩
            rw [bls_set, upd_upd]
            have sb4 : SameBut b H (upd H2 b (.lst (bls ((bs2.set t true).set (gd A (n + t) - n) true)))) := sb2.trans sameBut_upd
            refine ⟨_, rfl, a2, _, 2, .ref t2, rfl, rfl, SqT.of (tk0 sb4 ha2), atI_nat (j := 2) rfl, nv (gd A (n + t) - n), (show some (some (V.int ((gd A (n + t) : Int) - (n : Int)))) = some (some (nv (gd A (n + t) - n))) from congrArg (fun x => some (some x)) es), t2, _, _, nv (gd B (gd A (n + t) - n)), rfl, rfl, SqT.of (tk0 sb4 ht2), atI_nat (nvs_get (by rw [hB.len]; omega)), ?_⟩
            refine ⟨gd B (gd A (n + t) - n), _, ?_, rfl, sb4, upd_same, ?_, (le2.trans (Le.set j1)).trans (Le.set j2), r4, r5⟩
            · exact Nat.lt_of_le_of_lt unp_set (unp_lt j1 nbt2)
            · rw [List.length_set, List.length_set]; exact hl2
      · rintro σ H1 ⟨z, y5, y6, bs1, rfl, sb, hb1, hl1, le1⟩
        exact ⟨_, rfl, q _ _ sb⟩
theorem scPutBehind : FnScope ["one", "other", "n", "k", "passed", "mates", "peg"] ["one", "other"] (defScope sPutBehind) := ⟨rfl, rfl, rfl, by decide +kernel, rfl, by decide +kernel, by decide +kernel⟩
def spPutBehind : Sp := fun vs H Q _ => ∃ (v1 v2 : V) (n m k : Nat) (A B : List Nat), vs = [v1, v2] ∧ n ≤ 1000 ∧ m ≤ 1000 ∧ k ≤ 1000 ∧ MatAt H v1 n m A ∧ MatAt H v2 m k B ∧ IsMat n m A ∧ IsMat m k B ∧
  ∀ H' a z t, Same H H' → H' a = some (.tup [.int z, nv n, nv k, .ref t]) → H' t = some (.tup (nvs (compN n m k A B))) → Q (.ref a) H'
theorem ok_putBehind {f fF fL : Addr} {fd fdF fdL : FuncData} (F : Fun K "put_behind" "put_behind" sPutBehind f fd) (GF : FnOk P w K mg base CX0 1 fF fdF ["one", "other", "peg", "passed"] spFarEnd) (kF : PySem.W.keepIn K (.ref fF) = true) (bF : Binds K fdF ["one", "other", "peg", "passed"] []) (gF : mg "far_end" = some (.ref fF))
    (GL : FnOk P w K mg base CX0 1 fL fdL ["one", "other", "passed"] spLoose) (kL : PySem.W.keepIn K (.ref fL) = true) (bL : Binds K fdL ["one", "other", "passed"] []) (gL : mg "loose_rings" = some (.ref fL)) (mr : mg "range" = none) (mt : mg "tuple" = none) :
    FnOk P w K mg base CX0 2 f fd ["one", "other"] spPutBehind := by
  refine F.ok scPutBehind (fun vs H Q E h => ?_) (fun cdv A0 outer s H vs Q E hr h => ?_)
  · obtain ⟨v1, v2, n, m, k, A, B, rfl, _⟩ := h
    rfl
  · obtain ⟨v1, v2, n, m, k, A, B, rfl, hn, hm, hk, h1, h2, hA, hB, q⟩ := h
    obtain ⟨a1, t1, rfl, ha1, ht1⟩ := id h1
    obtain ⟨a2, t2, rfl, ha2, ht2⟩ := id h2
    have nd := scPutBehind.nd
    refine ⟨_, pss_cons (ps_par (i := 2) (j := 3) rfl nd rfl rfl (by decide) rfl rfl (pa_cons (pe_ix ix_tup (pv 0) pe_int (fun _ _ => rfl)) (pa_cons (pe_ix ix_tup (pv 1) pe_int (fun _ _ => rfl)) pa_nil)) (by rfl))
      (pss_cons (ps_set (i := 4) nd rfl (.inl rfl) (pe_op op_rep (pe_lst (pa_cons pe_bl pa_nil)) (pe_ix ix_tup (pv 0) pe_int (fun _ _ => rfl))))
      (pss_cons (ps_set (i := 5) nd rfl (.inl rfl) (pe_lst pa_nil))
      (pss_cons (ps_for PassesOwn.never rfl (pi_range1 rfl mr (pa_cons (pe_op op_add (pv 2) (pv 3)) pa_nil)) (pg_name (i := 6) nd rfl (.inl rfl))
        (pss_one (ps_expr (pe_bm PySem.F.plainAttrs_list PySem.F.slot_list_append PySem.F.type_list_append mt_append (pv 5) (pa_cons (pe_call GF hr (by rfl) gF kF bF .nil pass0 (pa_cons (pv 0) (pa_cons (pv 1) (pa_cons (pv 6) (pa_cons (pv 4) pa_nil))))) pa_nil)))))
      (pss_one (ps_ret (pe_tup (pa_cons (pe_call GL hr (by rfl) gL kL bL .nil pass0 (pa_cons (pv 0) (pa_cons (pv 1) (pa_cons (pv 4) pa_nil)))) (pa_cons (pv 2) (pa_cons (pv 3) (pa_cons (pe_callTy call_tuple_of (by rfl) mt boot_tuple (pa_cons (pv 5) pa_nil)) pa_nil)))))))))), ?_⟩
    refine ⟨_, rfl, a1, _, 0, nv n, rfl, rfl, SqT.of ha1, atI_nat (j := 0) rfl, _, rfl, a2, _, 1, nv k, rfl, rfl, SqT.of ha2, atI_nat (j := 1) rfl, _, _, rfl, ?_⟩
    -- passed = [False] * one[1]
    refine ⟨by show 1 ≤ sizeLine; decide, fun z nz => ?_⟩
    have s1 : Same H (upd H z (.lst [V.bl false])) := same_new nz
    refine ⟨_, rfl, a1, _, 1, nv m, rfl, rfl, SqT.of (s1 _ _ ha1), atI_nat (j := 1) rfl, z, _, _, rfl, rfl, upd_same, by omega, by omega, ?_, fun b nb => ?_⟩
    · show 1 * ((m : Int)).toNat ≤ sizeLine
      exact sizeLine_big (by omega)
    have s2 : Same H (upd (upd H z (.lst [V.bl false])) b (.lst (List.replicate ((m : Int)).toNat [V.bl false]).flatten)) := s1.trans (same_new nb)
    have nbH : H b = none := s1.free nb
    have eb : (List.replicate ((m : Int)).toNat [V.bl false]).flatten = bls (List.replicate m false) := by
      rw [rep_false, Int.toNat_natCast]
    -- mates = []
    refine ⟨Nat.zero_le _, fun l nl => ?_⟩
    have nlb : l ≠ b := fun e => by rw [e, upd_same] at nl; cases nl
    have nlH : H l = none := s2.free nl
    have s3 := s2.trans (same_new (o := .lst []) nl)
    refine ⟨_, rfl, _, rfl, _, _, rfl, rfl, _, rfl, by omega, by omega, for_range (lo := 0) (n := n + k) (fun i σ H' => ∃ y6 bs', σ = [some (.ref a1), some (.ref a2), some (nv n), some (nv k), some (.ref b), some (.ref l), y6] ∧ Same H H' ∧ H' b = some (.lst (bls bs')) ∧ bs'.length = m ∧ Cl n m A B bs' ∧ (∀ p, p < i → Nbr n m A B bs' p) ∧ H' l = some (.lst (nvs ((compN n m k A B).take i))))
      ⟨none, List.replicate m false, rfl, s3, ?_, List.length_replicate, cl_none n m A B m, fun p hp => absurd hp (Nat.not_lt_zero p), upd_same⟩ ?_ ?_⟩
    · rw [upd_ne nlb.symm, upd_same, eb]
    · rintro i σ H1 hi ⟨y6, bs1, rfl, s4, hb1, hl1, hc1, hn1, hm1⟩
      have e0 : ((0 : Int) + (i : Int)) = (i : Int) := Int.zero_add _
      rw [e0]
      refine ⟨_, rfl, .inl ⟨rfl, _, SqL.of hm1⟩, _, rfl, _, rfl, _, rfl, _, rfl, .ref a1, .ref a2, n, m, k, i, A, B, b, bs1, rfl, h1.tk (tk_same s4), h2.tk (tk_same s4), hA, hB, hi, hb1, hl1, hc1, fun H2 bs2 sb hb2 hl2 hc2 le2 hn2 => ?_⟩
      have hm2 : H2 l = some (.lst (nvs ((compN n m k A B).take i))) := sb _ _ nlb hm1
      refine ⟨l, _, _, rfl, rfl, hm2, ?_, ?_⟩
      · rw [nvs_len, List.length_take]
        exact sizeLine_lt (by omega)
      · refine ⟨_, bs2, rfl, fun c o e => ?_, ?_, hl2, hc2, fun p hp => ?_, ?_⟩
        · rw [upd_ne (ne_of_none e nlH)]
          exact sb _ _ (ne_of_none e nbH) (s4 _ _ e)
        · rw [upd_ne nlb.symm]; exact hb2
        · by_cases e : p = i
          · rw [e]; exact hn2
          · exact (hn1 p (by omega)).le le2
        · rw [upd_same, List.take_add_one, getD_lt (show i < (compN n m k A B).length by rw [show (compN n m k A B).length = n + k from tab_len]; exact hi), ← nvs_app]
          rfl
    · rintro σ H1 ⟨y6, bs1, rfl, s4, hb1, hl1, hc1, hn1, hm1⟩
      rw [List.take_of_length_le (by rw [show (compN n m k A B).length = n + k from tab_len]; exact Nat.le_refl _)] at hm1
      refine ⟨_, rfl, _, rfl, _, rfl, .ref a1, .ref a2, n, m, k, A, B, b, bs1, rfl, hm, h1.tk (tk_same s4), h2.tk (tk_same s4), hA, hB, hb1, hl1, hc1, hn1, fun H2 zr sb => ?_⟩
      have hm2 : H2 l = some (.lst (nvs (compN n m k A B))) := sb _ _ nlb hm1
      refine ⟨_, rfl, _, rfl, _, rfl, l, _, rfl, .inl ⟨SqL.of hm2, fun t nt => ?_⟩⟩
      refine ⟨by show 4 ≤ sizeLine; decide, fun a na => ?_⟩
      have nta : t ≠ a := fun e => by rw [← e, upd_same] at na; cases na
      have s5 : Same H H2 := fun c o e => sb _ _ (ne_of_none e nbH) (s4 _ _ e)
      refine q _ a zr t (s5.trans ((same_new nt).trans (same_new na))) upd_same ?_
      rw [upd_ne nta, upd_same]
theorem scMatBehind : FnScope ["one", "other"] ["one", "other"] (defScope sMatBehind) := ⟨rfl, rfl, rfl, by decide +kernel, rfl, by decide +kernel, by decide +kernel⟩
def spMatBehind : Sp := fun vs H Q _ => ∃ (v1 v2 : V) (n m k : Nat) (A B : List Nat), vs = [v1, v2] ∧ n ≤ 1000 ∧ m ≤ 1000 ∧ k ≤ 1000 ∧ MatAt H v1 n m A ∧ MatAt H v2 m k B ∧ IsMat n m A ∧ IsMat m k B ∧
  ∀ H' v, Same H H' → MatAt H' v n k (compN n m k A B) → Q v H'
theorem ok_matBehind {f fP : Addr} {fd fdP : FuncData} (F : Fun K "mat_behind" "mat_behind" sMatBehind f fd) (GP : FnOk P w K mg base CX0 2 fP fdP ["one", "other"] spPutBehind) (kP : PySem.W.keepIn K (.ref fP) = true) (bP : Binds K fdP ["one", "other"] []) (gP : mg "put_behind" = some (.ref fP)) :
    FnOk P w K mg base CX0 3 f fd ["one", "other"] spMatBehind := by
  refine F.ok scMatBehind (fun vs H Q E h => ?_) (fun cdv A0 outer s H vs Q E hr h => ?_)
  · obtain ⟨v1, v2, n, m, k, A, B, rfl, _⟩ := h
    rfl
  · obtain ⟨v1, v2, n, m, k, A, B, rfl, hn, hm, hk, h1, h2, hA, hB, q⟩ := h
    refine ⟨_, pss_one (ps_ret (pe_slice sl_tup (pe_call GP hr (by rfl) gP kP bP .nil pass0 (pa_cons (pv 0) (pa_cons (pv 1) pa_nil))) (po_some pe_int) po_none)), ?_⟩
    refine ⟨_, rfl, _, rfl, v1, v2, n, m, k, A, B, rfl, hn, hm, hk, h1, h2, hA, hB, fun H1 a z t s1 ha ht => ?_⟩
    refine ⟨1, rfl, a, _, rfl, SqT.of ha, ?_, fun p np => ?_⟩
    · show ¬ (HT.sIx 4 0 (some 1) = 0 ∧ HT.sIx 4 4 none = 4)
      decide
    · refine q _ _ (s1.trans (same_new np)) ⟨p, t, rfl, ?_, same_new np _ _ ht⟩
      rw [upd_same]
      rfl
end
end HM

/-! fits_between. -/
namespace HM
open PySem PySem.Spec PyProof.Rows L2
theorem eqvAll_castL : ∀ A B : List Nat, PyData.eqvAll ((castL A).map .int) ((castL B).map .int) = decide (A = B)
  | [], [] => by simp [castL, PyData.eqvAll]
  | [], b :: B => by simp [castL, PyData.eqvAll]
  | a :: A, [] => by simp [castL, PyData.eqvAll]
  | a :: A, b :: B => by
    have ih := eqvAll_castL A B
    unfold castL at ih ⊢
    simp only [List.map_cons, PyData.eqvAll, PyData.eqv, ih]
    by_cases h : a = b
    · subst h; simp
    · have : ¬ ((a : Int) = (b : Int)) := by omega
      simp [h, this]
theorem eqv_encM (n m : Nat) (A B : List Nat) : PyData.eqv (encM n m A) (encM n m B) = decide (A = B) := by
  unfold encM
  simp only [PyData.eqv, PyData.eqvAll, eqvAll_castL, beq_self_eq_true, Bool.true_and, Bool.and_true]
theorem find_none_take {l : List (List Nat)} {p : List Nat → Bool} {i : Nat} {x : List Nat} (h : ∀ y ∈ l.take i, p y = false) (hx : l[i]? = some x) (hp : p x = false) : ∀ y ∈ l.take (i + 1), p y = false := fun y hy => by
  rw [List.take_add_one, hx] at hy
  rcases List.mem_append.mp hy with z | z
  · exact h y z
  · have : y = x := by simpa using z
    rw [this]; exact hp
theorem find_some_at {l : List (List Nat)} {p : List Nat → Bool} {i : Nat} {x : List Nat} (h : ∀ y ∈ l.take i, p y = false) (hx : l[i]? = some x) (hp : p x = true) : l.find? p = some x := by
  rw [List.find?_eq_some_iff_append]
  have hi := (List.getElem?_eq_some_iff.mp hx)
  refine ⟨hp, l.take i, l.drop (i + 1), ?_, fun a ha => by rw [h a ha]; rfl⟩
  have e : l.drop i = x :: l.drop (i + 1) := by
    rw [List.drop_eq_getElem_cons hi.1, hi.2]
  rw [← e, List.take_append_drop]
/-- the mat between two that makes the goal -/
def fit (n m j k : Nat) (G A B x : List Nat) : Bool := decide (compN n j k (compN n m j A x) B = G)
def Fits (H : Hp) (v : V) (m j : Nat) : Option (List Nat) → Prop
  | none => v = .non
  | some L => MatAt H v m j L
section
variable {P : Program} {w : World} {K : PySem.W.Frag} {mg : Str → Option Value} {base : Heap}
theorem scFits : FnScope ["goal", "ahead", "behind", "mat"] ["goal", "ahead", "behind"] (defScope sFits) := ⟨rfl, rfl, rfl, by decide +kernel, rfl, by decide +kernel, by decide +kernel⟩
def spFits : Sp := fun vs H Q _ => ∃ (vg va vb : V) (n m j k : Nat) (G A B : List Nat), vs = [vg, va, vb] ∧ 0 < n ∧ n ≤ 100 ∧ 0 < k ∧ k ≤ 100 ∧ 0 < m ∧ 0 < j ∧ m + j ≤ 12 ∧ (m + j) % 2 = 0 ∧
  MatAt H vg n k G ∧ MatAt H va n m A ∧ MatAt H vb j k B ∧ IsMat n k G ∧ IsMat n m A ∧ IsMat j k B ∧
  ∀ H' v (l : List (List Nat)), Same H H' → (l.Pairwise fun x y => ¬ castL y < castL x) → (∀ x, x ∈ l ↔ IsMat m j x) → Fits H' v m j (l.find? (fit n m j k G A B)) → Q v H'
theorem ok_fits {f fC fP fA fM : Addr} {fd fdC fdP fdA fdM : FuncData} (F : Fun K "fits_between" "fits_between" sFits f fd)
    (GC : FnOk P w K mg base CX0 3 fC fdC ["mat"] spChecked) (kC : PySem.W.keepIn K (.ref fC) = true) (bC : Binds K fdC ["mat"] []) (gC : mg "checked_mat" = some (.ref fC))
    (GP : FnOk P w K mg base CX0 1 fP fdP ["above", "below"] spPair) (kP : PySem.W.keepIn K (.ref fP) = true) (bP : Binds K fdP ["above", "below"] []) (gP : mg "check_pair" = some (.ref fP))
    (GA : FnOk P w K mg base CX0 2 fA fdA ["n", "m"] spAllMats) (kA : PySem.W.keepIn K (.ref fA) = true) (bA : Binds K fdA ["n", "m"] []) (gA : mg "all_mats" = some (.ref fA))
    (GM : FnOk P w K mg base CX0 3 fM fdM ["one", "other"] spMatBehind) (kM : PySem.W.keepIn K (.ref fM) = true) (bM : Binds K fdM ["one", "other"] []) (gM : mg "mat_behind" = some (.ref fM)) :
    FnOk P w K mg base CX0 4 f fd ["goal", "ahead", "behind"] spFits := by
  refine F.ok scFits (fun vs H Q E h => ?_) (fun cdv A0 outer s H vs Q E hr h => ?_)
  · obtain ⟨vg, va, vb, n, m, j, k, G, A, B, rfl, _⟩ := h
    rfl
  · obtain ⟨vg, va, vb, n, m, j, k, G, A, B, rfl, hn0, hn, hk0, hk, hm0, hj0, hmj, hev, hg, ha, hb, mG, mA, mB, q⟩ := h
    have nd := scFits.nd
    have hr1 : Room 1 (A0.deeper (envOfC (Str.ofString "fits_between") (defScope sFits) s.heap.objs.size f cdv)) := hr.mono (by decide)
    have hr2 : Room 2 (A0.deeper (envOfC (Str.ofString "fits_between") (defScope sFits) s.heap.objs.size f cdv)) := hr.mono (by decide)
    refine ⟨_, pss_cons (ps_for PassesOwn.never rfl (pi_tup (pe_tup (pa_cons (pv 0) (pa_cons (pv 1) (pa_cons (pv 2) pa_nil))))) (pg_name (i := 3) nd rfl (.inl rfl))
        (pss_one (ps_expr (pe_call GC hr (by rfl) gC kC bC .nil pass0 (pa_cons (pv 3) pa_nil)))))
      (pss_cons (ps_expr (pe_call GP hr1 (by rfl) gP kP bP .nil pass0 (pa_cons (pe_ix ix_tup (pv 0) pe_int (fun _ _ => rfl)) (pa_cons (pe_ix ix_tup (pv 1) pe_int (fun _ _ => rfl)) pa_nil))))
      (pss_cons (ps_expr (pe_call GP hr1 (by rfl) gP kP bP .nil pass0 (pa_cons (pe_ix ix_tup (pv 0) pe_int (fun _ _ => rfl)) (pa_cons (pe_ix ix_tup (pv 2) pe_int (fun _ _ => rfl)) pa_nil))))
      (pss_cons (ps_for PassesOwn.never rfl (pi_list (pe_call GA hr2 (by rfl) gA kA bA .nil pass0 (pa_cons (pe_ix ix_tup (pv 1) pe_int (fun _ _ => rfl)) (pa_cons (pe_ix ix_tup (pv 2) pe_int (fun _ _ => rfl)) pa_nil)))) (pg_name (i := 3) nd rfl (.inl rfl))
        (pss_one (ps_if (pt_cmpR (op_eqD hr.units) (pe_call GM hr (by rfl) gM kM bM .nil pass0 (pa_cons (pe_call GM hr (by rfl) gM kM bM .nil pass0 (pa_cons (pv 1) (pa_cons (pv 3) pa_nil))) (pa_cons (pv 2) pa_nil))) (pv 0) (nomark _))
          (pss_one (ps_ret (pv 3))) pss_nil)))
      (pss_one (ps_ret pe_non))))), ?_⟩
    -- the three are mats
    refine ⟨_, rfl, _, rfl, _, rfl, by show 3 ≤ sizeLine; decide, fun t nt => ⟨t, rfl, ⟨_, SqT.of upd_same⟩, for_tup (K := K) (a := t) (xs := [vg, va, vb]) (fun i σ H' => ∃ y, σ = [some vg, some va, some vb, y] ∧ Same H H' ∧ H' t = some (.tup [vg, va, vb]))
      ⟨none, rfl, same_new nt, upd_same⟩ (fun i σ H' _ ⟨_, _, _, h⟩ => SqT.of h) ?_ ?_⟩⟩
    · rintro i x σ H1 hx ⟨y, rfl, s1, ht⟩
      match i, hx with
      | 0, hx =>
        have e : vg = x := Option.some.inj hx
        subst e
        exact ⟨_, rfl, vg, n, k, G, rfl, hg.tk (tk_same s1), mG, by omega, by omega, fun H2 s2 => ⟨_, rfl, s1.trans s2, s2 _ _ ht⟩⟩
      | 1, hx =>
        have e : va = x := Option.some.inj hx
        subst e
        exact ⟨_, rfl, va, n, m, A, rfl, ha.tk (tk_same s1), mA, by omega, by omega, fun H2 s2 => ⟨_, rfl, s1.trans s2, s2 _ _ ht⟩⟩
      | 2, hx =>
        have e : vb = x := Option.some.inj hx
        subst e
        exact ⟨_, rfl, vb, j, k, B, rfl, hb.tk (tk_same s1), mB, by omega, by omega, fun H2 s2 => ⟨_, rfl, s1.trans s2, s2 _ _ ht⟩⟩
    · rintro σ H1 ⟨y, rfl, s1, ht⟩
      obtain ⟨g, tg, rfl, hg1, hg2⟩ := hg.tk (tk_same s1)
      obtain ⟨a, ta, rfl, ha1, ha2⟩ := ha.tk (tk_same s1)
      obtain ⟨b, tb, rfl, hb1, hb2⟩ := hb.tk (tk_same s1)
      refine ⟨_, rfl, g, _, 0, nv n, rfl, rfl, SqT.of hg1, atI_nat (j := 0) rfl, _, rfl, a, _, 0, nv n, rfl, rfl, SqT.of ha1, atI_nat (j := 0) rfl, n, rfl, ?_⟩
      refine ⟨_, rfl, g, _, 1, nv k, rfl, rfl, SqT.of hg1, atI_nat (j := 1) rfl, _, rfl, b, _, 1, nv k, rfl, rfl, SqT.of hb1, atI_nat (j := 1) rfl, k, rfl, ?_⟩
      refine ⟨_, rfl, a, _, 1, nv m, rfl, rfl, SqT.of ha1, atI_nat (j := 1) rfl, _, rfl, b, _, 0, nv j, rfl, rfl, SqT.of hb1, atI_nat (j := 0) rfl, m, j, rfl, by omega, hmj, hev, fun H2 p xs s2 hxs exs => ?_⟩
      obtain ⟨hp, hms⟩ := hxs
      have memx : ∀ x, x ∈ (sortM xs).map (·.2) ↔ IsMat m j x := fun x => by
        rw [← mem_allN hev, ← exs]
        constructor
        · intro h
          obtain ⟨z, hz, e⟩ := List.mem_map.mp h
          exact List.mem_map.mpr ⟨z, mem_sortM.mp hz, e⟩
        · intro h
          obtain ⟨z, hz, e⟩ := List.mem_map.mp h
          exact List.mem_map.mpr ⟨z, mem_sortM.mpr hz, e⟩
      have pwx : ((sortM xs).map (·.2)).Pairwise fun x y => ¬ castL y < castL x := List.pairwise_map.mpr (sortM_pw xs)
      refine ⟨p, rfl, ⟨_, SqL.of hp⟩, for_list (K := K) (a := p) (xs := (sortM xs).map (·.1)) (fun i σ H' => ∃ y, σ = [some (.ref g), some (.ref a), some (.ref b), y] ∧ Same H2 H' ∧ ∀ y ∈ ((sortM xs).map (·.2)).take i, fit n m j k G A B y = false)
        ⟨y, rfl, Same.refl _, fun y hy => by simp at hy⟩ (fun i σ H' _ ⟨_, _, s, _⟩ => SqL.of (s _ _ hp)) ?_ ?_⟩
      · rintro i x σ H3 hx ⟨y, rfl, s3, hno⟩
        obtain ⟨z, hz, ez⟩ : ∃ z, (sortM xs)[i]? = some z ∧ z.1 = x := by
          rw [List.getElem?_map] at hx
          cases e : (sortM xs)[i]? with
          | none => rw [e] at hx; cases hx
          | some z => rw [e] at hx; exact ⟨z, rfl, Option.some.inj hx⟩
        subst ez
        have hzm := hms z (mem_sortM.mp (List.mem_of_getElem? hz))
        have hz2 : ((sortM xs).map (·.2))[i]? = some z.2 := by rw [List.getElem?_map, hz]; rfl
        have mZ : IsMat m j z.2 := (memx z.2).mp (List.mem_of_getElem? hz2)
        have c1 := comp_mat mA mZ
        have c2 := comp_mat c1 mB
        have s13 := s2.trans s3
        refine ⟨_, rfl, _, rfl, .ref a, z.1, n, m, j, A, z.2, rfl, by omega, by omega, by omega, ⟨a, ta, rfl, s13 _ _ ha1, s13 _ _ ha2⟩, hzm.tk (tk_same s3), mA, mZ, fun H4 v4 s4 h4 => ?_⟩
        have s14 := s13.trans s4
        refine ⟨_, rfl, v4, .ref b, n, j, k, _, B, rfl, by omega, by omega, by omega, h4, ⟨b, tb, rfl, s14 _ _ hb1, s14 _ _ hb2⟩, c1, mB, fun H5 v5 s5 h5 => ?_⟩
        have s15 := s14.trans s5
        have hG5 : MatAt H5 (.ref g) n k G := ⟨g, tg, rfl, s15 _ _ hg1, s15 _ _ hg2⟩
        refine ⟨_, rfl, _, _, h5.dp, hG5.dp, shaped_encM _ _ _, shaped_encM _ _ _, _, rfl, ?_⟩
        rw [eqv_encM]
        show if fit n m j k G A B z.2 = true then _ else _
        cases hf : fit n m j k G A B z.2 with
        | true =>
          refine iteT ?_
          refine ⟨_, rfl, q _ _ _ (s1.trans s15) pwx memx ?_⟩
          rw [find_some_at hno hz2 hf]
          exact hzm.tk (tk_same (s3.trans (s4.trans s5)))
        | false =>
          refine iteF ?_
          exact ⟨_, rfl, s3.trans (s4.trans s5), find_none_take hno hz2 hf⟩
      · rintro σ H3 ⟨y, rfl, s3, hno⟩
        rw [List.length_map] at hno
        refine q _ _ _ (s1.trans (s2.trans s3)) pwx memx ?_
        have : ((sortM xs).map (·.2)).find? (fit n m j k G A B) = none := by
          rw [List.find?_eq_none]
          intro x hx
          rw [hno x (by rw [List.take_of_length_le (by rw [List.length_map]; exact Nat.le_refl _)]; exact hx)]
          decide
        rw [this]
        rfl
end
end HM

/-! The law's well: _law_well, _law_dip. -/
namespace HM
open PySem PySem.Spec PyProof.Rows L2
def L4 (c : Addr) (i x y : Int) : List V := [.ref c, .int i, .int x, .int y]
/-- the well at w -/
def WellAt (H : Hp) (u c : Addr) : Prop := ∃ (ns : List Int) (i : Nat) (x y : Int), H u = some (.lst (L4 c i x y)) ∧ H c = some (.lst (ns.map V.int)) ∧ c ≠ u ∧ (i ≤ ns.length ∧ ns.length ≤ 1000) ∧ 0 ≤ x ∧ 0 ≤ y ∧ y < 2147483647
theorem WellAt.keep {H H' : Hp} {u c : Addr} (h : WellAt H u c) (s : Same H H') : WellAt H' u c := by
  obtain ⟨ns, i, x, y, h1, h2, r⟩ := h
  exact ⟨ns, i, x, y, s _ _ h1, s _ _ h2, r⟩
/-- what is no part of the well may be written -/
theorem WellAt.other {H : Hp} {u c b : Addr} {o : HO} (h : WellAt H u c) (n1 : b ≠ u) (n2 : b ≠ c) : WellAt (upd H b o) u c := by
  obtain ⟨ns, i, x, y, h1, h2, r⟩ := h
  exact ⟨ns, i, x, y, by rw [upd_ne n1.symm]; exact h1, by rw [upd_ne n2.symm]; exact h2, r⟩
theorem WellAt.isU {H : Hp} {u c : Addr} (h : WellAt H u c) : ∃ o, H u = some (.lst o) := by obtain ⟨ns, i, x, y, h1, _⟩ := h; exact ⟨_, h1⟩
theorem WellAt.isC {H : Hp} {u c : Addr} (h : WellAt H u c) : ∃ o, H c = some (.lst o) := by obtain ⟨ns, i, x, y, _, h2, _⟩ := h; exact ⟨_, h2⟩
section
variable {P : Program} {w : World} {K : PySem.W.Frag} {mg : Str → Option Value} {base : Heap}
theorem scWell : FnScope ["_law_script"] ["_law_script"] (defScope sWell) := ⟨rfl, rfl, rfl, by decide +kernel, rfl, by decide +kernel, by decide +kernel⟩
def spWell (K : PySem.W.Frag) : Sp := fun vs H Q _ => ∃ (a : Addr) (ns : List Int), vs = [.ref a] ∧ SqL K H a (ns.map V.int) ∧ ns.length ≤ 1000 ∧ ∀ H' u c, Same H H' → H u = none → WellAt H' u c → Q (.ref u) H'
theorem ok_well {f : Addr} {fd : FuncData} (F : Fun K "_law_well" "_law_well" sWell f fd) (ml : mg "list" = none) : FnOk P w K mg base CX0 1 f fd ["_law_script"] (spWell K) := by
  refine F.ok scWell (fun vs H Q E h => ?_) (fun cdv A0 outer s H vs Q E hr h => ?_)
  · obtain ⟨a, ns, rfl, _⟩ := h
    rfl
  · obtain ⟨a, ns, rfl, hS, hns, q⟩ := h
    refine ⟨_, pss_one (ps_ret (pe_lst (pa_cons (pe_callTy call_list_of (by rfl) ml boot_list (pa_cons (pv 0) pa_nil)) (pa_cons pe_int (pa_cons pe_int (pa_cons pe_int pa_nil)))))), ?_⟩
    refine ⟨_, rfl, a, _, rfl, .inl hS, fun c nc => ?_⟩
    refine ⟨by show 4 ≤ sizeLine; decide, fun u nu => ?_⟩
    have ncu : c ≠ u := fun e => by rw [← e, upd_same] at nu; cases nu
    refine q _ u c ((same_new nc).trans (same_new nu)) (by rw [upd_ne ncu.symm] at nu; exact nu) ⟨ns, 0, 0, 90001, upd_same, ?_, ncu, ⟨Nat.zero_le _, hns⟩, by decide, by decide, by decide⟩
    rw [upd_ne ncu, upd_same]
theorem scDip : FnScope ["_law_well_here", "_law_many", "_law_cell", "_law_digit"] ["_law_well_here", "_law_many"] (defScope sDip) := ⟨rfl, rfl, rfl, by decide +kernel, rfl, by decide +kernel, by decide +kernel⟩
def spDip : Sp := fun vs H Q _ => ∃ (u c : Addr) (M : Nat), vs = [.ref u, nv M] ∧ 1 ≤ M ∧ M ≤ 1000 ∧ WellAt H u c ∧ ∀ H' d, SameBut u H H' → WellAt H' u c → d < M → Q (nv d) H'
set_option maxHeartbeats 8000000 in
theorem ok_dip {f : Addr} {fd : FuncData} (F : Fun K "_law_dip" "_law_dip" sDip f fd) (mn : mg "len" = none) (mi : mg "int" = none) : FnOk P w K mg base CX0 1 f fd ["_law_well_here", "_law_many"] spDip := by
  refine F.ok scDip (fun vs H Q E h => ?_) (fun cdv A0 outer s H vs Q E hr h => ?_)
  · obtain ⟨u, c, M, rfl, _⟩ := h
    rfl
  · obtain ⟨u, c, M, rfl, hM1, hM2, hW, q⟩ := h
    have nd := scDip.nd
    refine ⟨_, pss_cons (ps_if (PW.pt (pw_and (pt_cmpR op_lt (pe_ix ix_list (pv 0) pe_int (fun _ _ => rfl)) pe_int (nomark _)) (pw_and1 (pt_cmpR op_lt (pe_ix ix_list (pv 0) pe_int (fun _ _ => rfl)) (pe_callB call_len_seq (by rfl) mn PySem.boot_len (pa_cons (pe_ix ix_list (pv 0) pe_int (fun _ _ => rfl)) pa_nil)) (nomark _)))))
        (pss_cons (ps_set (i := 2) nd rfl (.inl rfl) (pe_ix ix_list (pe_ix ix_list (pv 0) pe_int (fun _ _ => rfl)) (pe_ix ix_list (pv 0) pe_int (fun _ _ => rfl)) (fun _ _ => rfl)))
        (pss_cons (ps_asg (pe_op op_add (pe_ix ix_list (pv 0) pe_int (fun _ _ => rfl)) pe_int) (pg_sub (pv 0) pe_int set_list))
        (pss_one (ps_if (pt_cmpR op_ge (pv 2) (pe_op op_pow pe_int pe_int) (nomark _))
          (pss_one (ps_asg (pv 2) (pg_sub (pv 0) pe_int set_list)))
          (pss_one (ps_asg (pe_op op_mod (pe_callTy call_int1 (by rfl) mi boot_int (pa_cons (pe_op op_add (pe_op op_add (pe_op op_mul (pe_ix ix_list (pv 0) pe_int (fun _ _ => rfl)) pe_int) (pe_op op_pow (pe_op op_mod (pe_callTy call_int1 (by rfl) mi boot_int (pa_cons (pv 2) pa_nil)) pe_int) pe_int)) (pe_op op_mul pe_int (pe_ix ix_list (pv 0) pe_int (fun _ _ => rfl)))) pa_nil)) pe_int) (pg_sub (pv 0) pe_int set_list)))))))
        pss_nil)
      (pss_cons (ps_if (pt_cmpR op_gt (pe_ix ix_list (pv 0) pe_int (fun _ _ => rfl)) pe_int (nomark _))
        (pss_cons (ps_set (i := 3) nd rfl (.inl rfl) (pe_op op_mod (pe_callTy call_int1 (by rfl) mi boot_int (pa_cons (pe_ix ix_list (pv 0) pe_int (fun _ _ => rfl)) pa_nil)) (pv 1)))
        (pss_cons (ps_asg (pe_op op_fdiv (pe_ix ix_list (pv 0) pe_int (fun _ _ => rfl)) (pv 1)) (pg_sub (pv 0) pe_int set_list))
        (pss_one (ps_ret (pv 3)))))
        pss_nil)
      (pss_cons (ps_asg (pe_op op_mod (pe_callTy call_int1 (by rfl) mi boot_int (pa_cons (pe_op op_add (pe_op op_mul (pe_ix ix_list (pv 0) pe_int (fun _ _ => rfl)) pe_int) pe_int) pa_nil)) pe_int) (pg_sub (pv 0) pe_int set_list))
      (pss_one (ps_ret (pe_op op_mod (pe_op op_fdiv (pe_op op_mod (pe_callTy call_int1 (by rfl) mi boot_int (pa_cons (pe_op op_mul (pe_ix ix_list (pv 0) pe_int (fun _ _ => rfl)) (pe_ix ix_list (pv 0) pe_int (fun _ _ => rfl))) pa_nil)) pe_int) pe_int) (pv 1)))))), ?_⟩
    obtain ⟨ns, i, x, y, hw, hc, ncu, ⟨hi, hi2⟩, hx0, hy0, hy1⟩ := id hW
    have hlen : ((ns.map V.int).length : Int) = (ns.length : Int) := by rw [List.length_map]
    have big : (1000000000000000000 : Int) = (10 : Int) ^ (18 : Int).toNat := by decide
    have cases4 : (2 ≤ x) ∨ (x < 2 ∧ ns.length ≤ i) ∨ (∃ z, x < 2 ∧ i < ns.length ∧ ns[i]? = some z ∧ 1000000000000000000 ≤ z) ∨ (∃ z, x < 2 ∧ i < ns.length ∧ ns[i]? = some z ∧ z < 1000000000000000000) := by
      by_cases h1 : x < 2
      · by_cases h2 : i < ns.length
        · by_cases h3 : 1000000000000000000 ≤ ns[i]
          · exact .inr (.inr (.inl ⟨ns[i], h1, h2, List.getElem?_eq_getElem h2, h3⟩))
          · exact .inr (.inr (.inr ⟨ns[i], h1, h2, List.getElem?_eq_getElem h2, by omega⟩))
        · exact .inr (.inl ⟨h1, by omega⟩)
      · exact .inl (by omega)
    rcases cases4 with h2 | ⟨h2, h3⟩ | ⟨z, h2, h3, hz, h4⟩ | ⟨z, h2, h3, hz, h4⟩
    focus
      refine ⟨_, rfl, u, _, 2, .int x, rfl, rfl, SqL.of hw, atI_nat (j := 2) rfl, _, _, rfl, rfl, false, bl_f (by omega), iteF ?_⟩
      refine iteF ?_
      have sb : SameBut u H H := SameBut.refl _ _
      have hW1 := hW
    rotate_left
    focus
      refine ⟨_, rfl, u, _, 2, .int x, rfl, rfl, SqL.of hw, atI_nat (j := 2) rfl, _, _, rfl, rfl, true, bl_t (by omega), iteT ?_⟩
      refine ⟨_, rfl, u, _, 1, .int i, rfl, rfl, SqL.of hw, atI_nat (j := 1) rfl, _, rfl, u, _, 0, .ref c, rfl, rfl, SqL.of hw, atI_nat (j := 0) rfl, c, _, rfl, .inl (SqL.of hc), _, _, rfl, rfl, false, bl_f (by omega), ?_⟩
      refine iteF ?_
      have sb : SameBut u H H := SameBut.refl _ _
      have hW1 := hW
    rotate_left
    focus
      refine ⟨_, rfl, u, _, 2, .int x, rfl, rfl, SqL.of hw, atI_nat (j := 2) rfl, _, _, rfl, rfl, true, bl_t (by omega), iteT ?_⟩
      refine ⟨_, rfl, u, _, 1, .int i, rfl, rfl, SqL.of hw, atI_nat (j := 1) rfl, _, rfl, u, _, 0, .ref c, rfl, rfl, SqL.of hw, atI_nat (j := 0) rfl, c, _, rfl, .inl (SqL.of hc), _, _, rfl, rfl, true, bl_t (by omega), ?_⟩
      refine iteT ?_
      refine ⟨_, rfl, u, _, 0, .ref c, rfl, rfl, SqL.of hw, atI_nat (j := 0) rfl, _, rfl, u, _, 1, .int i, rfl, rfl, SqL.of hw, atI_nat (j := 1) rfl, c, _, _, .int z, rfl, rfl, SqL.of hc, atI_nat (by rw [List.getElem?_map, hz]; rfl), ?_⟩
      refine ⟨_, rfl, u, _, 1, .int i, rfl, rfl, SqL.of hw, atI_nat (j := 1) rfl, _, _, rfl, rfl, _, rfl, u, _, 1, 1, rfl, rfl, hw, rfl, ?_⟩
      refine ⟨_, rfl, _, _, rfl, rfl, ⟨by decide, by decide, by decide⟩, _, _, rfl, rfl, true, bl_t (by rw [← big]; exact h4), iteT ?_⟩
      refine ⟨_, rfl, _, rfl, u, _, 2, 2, rfl, rfl, upd_same, rfl, ?_⟩
      have sb : SameBut u H (upd (upd H u (.lst ((L4 c i x y).set 1 (.int ((i : Int) + 1))))) u (.lst (((L4 c i x y).set 1 (.int ((i : Int) + 1))).set 2 (.int z)))) := sameBut_upd.trans sameBut_upd
      have hW1 : WellAt (upd (upd H u (.lst ((L4 c i x y).set 1 (.int ((i : Int) + 1))))) u (.lst (((L4 c i x y).set 1 (.int ((i : Int) + 1))).set 2 (.int z)))) u c := ⟨ns, i + 1, z, y, upd_same, sb _ _ ncu hc, ncu, ⟨by omega, hi2⟩, by omega, hy0, hy1⟩
    rotate_left
    focus
      refine ⟨_, rfl, u, _, 2, .int x, rfl, rfl, SqL.of hw, atI_nat (j := 2) rfl, _, _, rfl, rfl, true, bl_t (by omega), iteT ?_⟩
      refine ⟨_, rfl, u, _, 1, .int i, rfl, rfl, SqL.of hw, atI_nat (j := 1) rfl, _, rfl, u, _, 0, .ref c, rfl, rfl, SqL.of hw, atI_nat (j := 0) rfl, c, _, rfl, .inl (SqL.of hc), _, _, rfl, rfl, true, bl_t (by omega), ?_⟩
      refine iteT ?_
      refine ⟨_, rfl, u, _, 0, .ref c, rfl, rfl, SqL.of hw, atI_nat (j := 0) rfl, _, rfl, u, _, 1, .int i, rfl, rfl, SqL.of hw, atI_nat (j := 1) rfl, c, _, _, .int z, rfl, rfl, SqL.of hc, atI_nat (by rw [List.getElem?_map, hz]; rfl), ?_⟩
      refine ⟨_, rfl, u, _, 1, .int i, rfl, rfl, SqL.of hw, atI_nat (j := 1) rfl, _, _, rfl, rfl, _, rfl, u, _, 1, 1, rfl, rfl, hw, rfl, ?_⟩
      refine ⟨_, rfl, _, _, rfl, rfl, ⟨by decide, by decide, by decide⟩, _, _, rfl, rfl, false, bl_f (by rw [← big]; omega), iteF ?_⟩
      have hw2 : (upd H u (.lst ((L4 c i x y).set 1 (.int ((i : Int) + 1))))) u = some (.lst [.ref c, .int ((i : Int) + 1), .int x, .int y]) := upd_same
      have hm0 : 0 ≤ z % 2147483629 := Int.emod_nonneg _ (by decide)
      have hm1 : z % 2147483629 < 2147483629 := Int.emod_lt_of_pos _ (by decide)
      refine ⟨_, rfl, u, _, 3, .int y, rfl, rfl, SqL.of hw2, atI_nat (j := 3) rfl, _, _, rfl, rfl, .inl ⟨by omega, by omega⟩, _, rfl, .inl ⟨z, rfl, _, _, rfl, rfl, (by show (0 : Int) < 2147483629; decide), _, _, rfl, rfl, ⟨by decide, by decide, by omega⟩, _, _, rfl, rfl, _, rfl, u, _, 1, .int ((i : Int) + 1), rfl, rfl, SqL.of hw2, atI_nat (j := 1) rfl, _, _, rfl, rfl, .inl ⟨by decide, by decide⟩, _, _, rfl, rfl, .inl ⟨_, rfl, _, _, rfl, rfl, (by show (0 : Int) < 2147483647; decide), _, rfl, u, _, 3, 3, rfl, rfl, hw2, rfl, ?_⟩⟩⟩
      have hr1 : 0 ≤ ((y * 69621 + (z % 2147483629) ^ (3 : Int).toNat + 7919 * ((i : Int) + 1)) % 2147483647) := Int.emod_nonneg _ (by decide)
      have hr2 : ((y * 69621 + (z % 2147483629) ^ (3 : Int).toNat + 7919 * ((i : Int) + 1)) % 2147483647) < 2147483647 := Int.emod_lt_of_pos _ (by decide)
      have sb : SameBut u H (upd (upd H u (.lst ((L4 c i x y).set 1 (.int ((i : Int) + 1))))) u (.lst [.ref c, .int ((i : Int) + 1), .int x, .int ((y * 69621 + (z % 2147483629) ^ (3 : Int).toNat + 7919 * ((i : Int) + 1)) % 2147483647)])) := sameBut_upd.trans sameBut_upd
      have hW1 : WellAt (upd (upd H u (.lst ((L4 c i x y).set 1 (.int ((i : Int) + 1))))) u (.lst [.ref c, .int ((i : Int) + 1), .int x, .int ((y * 69621 + (z % 2147483629) ^ (3 : Int).toNat + 7919 * ((i : Int) + 1)) % 2147483647)])) u c := ⟨ns, i + 1, x, ((y * 69621 + (z % 2147483629) ^ (3 : Int).toNat + 7919 * ((i : Int) + 1)) % 2147483647), upd_same, sb _ _ ncu hc, ncu, ⟨by omega, hi2⟩, hx0, hr1, hr2⟩
    all_goals
      obtain ⟨ns1, i1, x1, y1, hw1, hc1, ncu1, hi1, hx10, hy10, hy11⟩ := id hW1
      by_cases hx : 1 < x1
      · -- a digit of a great cell
        refine ⟨_, rfl, u, _, 2, .int x1, rfl, rfl, SqL.of hw1, atI_nat (j := 2) rfl, _, _, rfl, rfl, true, bl_t (by omega), iteT ?_⟩
        have hM0 : (0 : Int) < (M : Int) := by omega
        refine ⟨_, rfl, u, _, 2, .int x1, rfl, rfl, SqL.of hw1, atI_nat (j := 2) rfl, .inl ⟨x1, rfl, _, rfl, _, _, rfl, rfl, hM0, ?_⟩⟩
        refine ⟨_, rfl, u, _, 2, .int x1, rfl, rfl, SqL.of hw1, atI_nat (j := 2) rfl, _, rfl, _, _, rfl, rfl, ⟨hM0, by omega⟩, _, rfl, u, _, 2, 2, rfl, rfl, hw1, rfl, ?_⟩
        have d0 : 0 ≤ x1 % (M : Int) := Int.emod_nonneg _ (by omega)
        have d1 : x1 % (M : Int) < (M : Int) := Int.emod_lt_of_pos _ hM0
        have f0 : 0 ≤ x1 / (M : Int) := Int.ediv_nonneg hx10 (by omega)
        have sb2 := sb.trans (sameBut_upd (o := .lst ((L4 c i1 x1 y1).set 2 (.int (x1 / (M : Int))))))
        have ed : V.int (x1 % (M : Int)) = nv (x1 % (M : Int)).toNat := by
          show _ = V.int _
          congr 1
          omega
        refine ⟨nv (x1 % (M : Int)).toNat, (show some (some (V.int (x1 % (M : Int)))) = some (some (nv (x1 % (M : Int)).toNat)) from congrArg (fun x => some (some x)) ed), ?_⟩
        exact q _ _ sb2 ⟨ns1, i1, x1 / (M : Int), y1, upd_same, by rw [upd_ne ncu1]; exact hc1, ncu1, hi1, f0, hy10, hy11⟩ (by omega)
      · refine ⟨_, rfl, u, _, 2, .int x1, rfl, rfl, SqL.of hw1, atI_nat (j := 2) rfl, _, _, rfl, rfl, false, bl_f (by omega), iteF ?_⟩
        have hM0 : (0 : Int) < (M : Int) := by omega
        refine ⟨_, rfl, u, _, 3, .int y1, rfl, rfl, SqL.of hw1, atI_nat (j := 3) rfl, _, _, rfl, rfl, .inl ⟨by omega, by omega⟩, _, _, rfl, rfl, .inl ⟨_, rfl, _, _, rfl, rfl, (by show (0 : Int) < 2147483647; decide), _, rfl, u, _, 3, 3, rfl, rfl, hw1, rfl, ?_⟩⟩
        have r0 : 0 ≤ (y1 * 48271 + 11) % 2147483647 := Int.emod_nonneg _ (by decide)
        have r1 : (y1 * 48271 + 11) % 2147483647 < 2147483647 := Int.emod_lt_of_pos _ (by decide)
        have sb2 := sb.trans (sameBut_upd (o := .lst [.ref c, .int i1, .int x1, .int ((y1 * 48271 + 11) % 2147483647)]))
        have hw2 : ∀ H0 : Hp, (upd H0 u (.lst [.ref c, .int i1, .int x1, .int ((y1 * 48271 + 11) % 2147483647)])) u = some (.lst [.ref c, .int i1, .int x1, .int ((y1 * 48271 + 11) % 2147483647)]) := fun _ => upd_same
        refine ⟨_, rfl, u, _, 3, .int ((y1 * 48271 + 11) % 2147483647), rfl, rfl, SqL.of (hw2 _), atI_nat (j := 3) rfl, _, rfl, u, _, 3, .int ((y1 * 48271 + 11) % 2147483647), rfl, rfl, SqL.of (hw2 _), atI_nat (j := 3) rfl, _, _, rfl, rfl, .inl ⟨by omega, by omega⟩, .inl ⟨_, rfl, _, _, rfl, rfl, (by show (0 : Int) < 2147483629; decide), _, _, rfl, rfl, ⟨by decide, by decide⟩, _, rfl, _, _, rfl, rfl, hM0, ?_⟩⟩
        obtain ⟨e, he⟩ : ∃ e : Int, e = ((y1 * 48271 + 11) % 2147483647) * ((y1 * 48271 + 11) % 2147483647) % 2147483629 / 64 := ⟨_, rfl⟩
        have d0 : 0 ≤ e % (M : Int) := Int.emod_nonneg _ (by omega)
        have d1 : e % (M : Int) < (M : Int) := Int.emod_lt_of_pos _ hM0
        have ed : V.int (((y1 * 48271 + 11) % 2147483647) * ((y1 * 48271 + 11) % 2147483647) % 2147483629 / 64 % (M : Int)) = nv (e % (M : Int)).toNat := by
          rw [← he]
          show _ = V.int _
          congr 1
          omega
        show Q (V.int (((y1 * 48271 + 11) % 2147483647) * ((y1 * 48271 + 11) % 2147483647) % 2147483629 / 64 % (M : Int))) _
        rw [ed]
        exact q _ _ sb2 ⟨ns1, i1, x1, (y1 * 48271 + 11) % 2147483647, upd_same, by rw [upd_ne ncu1]; exact hc1, ncu1, hi1, hx10, r0, r1⟩ (by omega)
end
end HM

/-! The law's drawn mat. -/
namespace HM
open PySem PySem.Spec PyProof.Rows L2
section
variable {P : Program} {w : World} {K : PySem.W.Frag} {mg : Str → Option Value} {base : Heap}
theorem scLMat : FnScope ["_law_well_here", "_law_n", "_law_m", "_law_order", "_law_lean", "_law_mates", "_law_waiting", "_law_at", "_law_opens", "_law_mate"] ["_law_well_here", "_law_n", "_law_m"] (defScope sLMat) := ⟨rfl, rfl, rfl, by decide +kernel, rfl, by decide +kernel, by decide +kernel⟩
def spLMat : Sp := fun vs H Q _ => ∃ (u c : Addr) (n m : Nat), vs = [.ref u, nv n, nv m] ∧ WellAt H u c ∧ n + m ≤ 100 ∧ (n + m) % 2 = 0 ∧ ∀ H' v L, SameBut u H H' → WellAt H' u c → MatAt H' v n m L → IsMat n m L → Q v H'
set_option maxHeartbeats 8000000 in
theorem ok_lmat {f fD : Addr} {fd fdD : FuncData} (F : Fun K "_law_mat" "_law_mat" sLMat f fd) (GD : FnOk P w K mg base CX0 1 fD fdD ["_law_well_here", "_law_many"] spDip) (kD : PySem.W.keepIn K (.ref fD) = true) (bD : Binds K fdD ["_law_well_here", "_law_many"] []) (gD : mg "_law_dip" = some (.ref fD))
    (ml : mg "list" = none) (mr : mg "range" = none) (mn : mg "len" = none) (mt : mg "tuple" = none) : FnOk P w K mg base CX0 2 f fd ["_law_well_here", "_law_n", "_law_m"] spLMat := by
  refine F.ok scLMat (fun vs H Q E h => ?_) (fun cdv A0 outer s H vs Q E hr h => ?_)
  · obtain ⟨u, c, n, m, rfl, _⟩ := h
    rfl
  · obtain ⟨u, c, n, m, rfl, hW, hlen, hev, q⟩ := h
    have nd := scLMat.nd
    refine ⟨_, pss_cons (ps_set (i := 3) nd rfl (.inl rfl) (pe_op op_cat (pe_listRg rfl rfl ml (prg_1 rfl mr (pv 1)))
        (pe_listRg3 rfl rfl ml rfl mr (pa_cons (pe_op op_sub (pe_op op_add (pv 1) (pv 2)) pe_int) (pa_cons (pe_op op_sub (pv 1) pe_int) (pa_cons (pe_un un_neg pe_int) pa_nil))))))
      (pss_cons (ps_set (i := 4) nd rfl (.inl rfl) (pe_op op_add pe_int (pe_call GD hr (by rfl) gD kD bD .nil pass0 (pa_cons (pv 0) (pa_cons pe_int pa_nil)))))
      (pss_cons (ps_set (i := 5) nd rfl (.inl rfl) (pe_op op_rep (pe_lst (pa_cons pe_int pa_nil)) (pe_op op_add (pv 1) (pv 2))))
      (pss_cons (ps_set (i := 6) nd rfl (.inl rfl) (pe_lst pa_nil))
      (pss_cons (ps_for PassesOwn.never rfl (pi_range1 rfl mr (pa_cons (pe_op op_add (pv 1) (pv 2)) pa_nil)) (pg_name (i := 7) nd rfl (.inl rfl))
        (pss_cons (ps_set (i := 8) nd rfl (.inl rfl) (pe_cmpR op_eq (pe_cmpR op_lt (pe_call GD hr (by rfl) gD kD bD .nil pass0 (pa_cons (pv 0) (pa_cons pe_int pa_nil))) (pv 4) (nomark _)) (pe_cmpR op_lt (pv 7) (pv 1) (nomark _)) (nomark _)))
        (pss_one (ps_if (PW.pt (pw_or (pt_cmpR (op_eqD hr.units) (pv 6) (pe_lst pa_nil) (nomark _)) (pw_or1 (PW.pt (pw_and (pt_val (pv 8)) (pw_and1 (pt_cmpR op_lt (pe_callB call_len_seq (by rfl) mn PySem.boot_len (pa_cons (pv 6) pa_nil)) (pe_op op_sub (pe_op op_add (pv 1) (pv 2)) (pv 7)) (nomark _))))))))
          (pss_one (ps_expr (pe_bm PySem.F.plainAttrs_list PySem.F.slot_list_append PySem.F.type_list_append mt_append (pv 6) (pa_cons (pe_ix ix_list (pv 3) (pv 7) (fun _ _ => rfl)) pa_nil))))
          (pss_cons (ps_set (i := 9) nd rfl (.inl rfl) (pe_bm0 PySem.F.plainAttrs_list PySem.F.slot_list_pop PySem.F.type_list_pop mt_pop (pv 6)))
          (pss_cons (ps_asg (pe_ix ix_list (pv 3) (pv 7) (fun _ _ => rfl)) (pg_sub (pv 5) (pv 9) set_list))
          (pss_one (ps_asg (pv 9) (pg_sub (pv 5) (pe_ix ix_list (pv 3) (pv 7) (fun _ _ => rfl)) set_list)))))))))
      (pss_one (ps_ret (pe_tup (pa_cons (pv 1) (pa_cons (pv 2) (pa_cons (pe_callTy call_tuple_of (by rfl) mt boot_tuple (pa_cons (pv 5) pa_nil)) pa_nil)))))))))), ?_⟩
    -- order
    obtain ⟨lw, hu0⟩ := hW.isU
    obtain ⟨lc, hc0⟩ := hW.isC
    refine ⟨_, rfl, n, rfl, RgOk.of_le (by omega) (by omega) (by omega) (by omega), fun p np => ?_⟩
    refine ⟨_, rfl, _, rfl, _, _, rfl, rfl, _, _, rfl, rfl, _, rfl, _, _, rfl, rfl, _, rfl, ?_⟩
    refine ⟨_, _, _, _, rfl, RgC.neg (by omega) (by omega) (by omega) (by omega), by omega, fun p2 np2 => ?_⟩
    have ne : p ≠ p2 := fun e => by rw [← e, upd_same] at np2; cases np2
    refine ⟨p, p2, _, _, rfl, rfl, Eq.trans (upd_ne ne) upd_same, upd_same, ?_, fun o no => ?_⟩
    · rw [rgV_length]
      unfold rg3
      rw [List.length_map, List.length_range]
      refine sizeLine_big ?_
      omega
    have ho : (rgV 0 (n : Int)) ++ rg3 ((n : Int) + m - 1) (-1) (((n : Int) + m - 1) - ((n : Int) - 1)).toNat = nvs (ord n m) := by
      rw [rgV_nat, rg3_nat, nvs_app, ← ord_split]
    have s1 : Same H (upd (upd (upd H p (.lst (rgV 0 (n : Int)))) p2 (.lst (rg3 ((n : Int) + m - 1) (-1) (((n : Int) + m - 1) - ((n : Int) - 1)).toNat))) o (.lst ((rgV 0 (n : Int)) ++ rg3 ((n : Int) + m - 1) (-1) (((n : Int) + m - 1) - ((n : Int) - 1)).toNat))) := (same_new np).trans ((same_new np2).trans (same_new no))
    have noH : H o = none := ((same_new np).trans (same_new np2)).free no
    have nou : o ≠ u := (ne_of_none hu0 noH).symm
    -- lean
    refine ⟨_, rfl, u, c, 3, rfl, by omega, by omega, hW.keep s1, fun H1 lean sb1 hW1 hl1 => ?_⟩
    refine ⟨_, _, rfl, rfl, ?_⟩
    have ho1 : H1 o = some (.lst (nvs (ord n m))) := sb1 _ _ nou (by rw [← ho]; exact upd_same)
    have b1 : SameBut u H H1 := (same_but s1).trans sb1
    obtain ⟨lw1, hu1⟩ := hW1.isU
    obtain ⟨lc1, hc1⟩ := hW1.isC
    -- mates = [0] * (n + m)
    refine ⟨by show 1 ≤ sizeLine; decide, fun z nz => ?_⟩
    refine ⟨_, rfl, _, rfl, _, _, rfl, rfl, z, _, _, rfl, rfl, upd_same, by omega, by omega, ?_, fun r nr => ?_⟩
    · show 1 * ((n : Int) + (m : Int)).toNat ≤ sizeLine
      exact sizeLine_big (by omega)
    have e0 : (List.replicate ((n : Int) + (m : Int)).toNat [V.int 0]).flatten = nvs (List.replicate (n + m) 0) := by
      rw [rep_zero, show ((n : Int) + (m : Int)).toNat = n + m by omega]
    -- waiting = []
    refine ⟨Nat.zero_le _, fun q0 nq0 => ?_⟩
    have s2 := (same_new (o := .lst [V.int 0]) nz).trans (same_new (o := .lst (List.replicate ((n : Int) + (m : Int)).toNat [V.int 0]).flatten) nr)
    have s3 := s2.trans (same_new (o := .lst []) nq0)
    have nrH1 : H1 r = none := (same_new nz).free nr
    have nqH1 : H1 q0 = none := s2.free nq0
    have nru : r ≠ u := (ne_of_none hu1 nrH1).symm
    have nqu : q0 ≠ u := (ne_of_none hu1 nqH1).symm
    have nrc : r ≠ c := (ne_of_none hc1 nrH1).symm
    have nqc : q0 ≠ c := (ne_of_none hc1 nqH1).symm
    have nrq : r ≠ q0 := fun e => by rw [← e, upd_same] at nq0; cases nq0
    have nro : r ≠ o := (ne_of_none ho1 nrH1).symm
    have nqo : q0 ≠ o := (ne_of_none ho1 nqH1).symm
    have nab : ∀ b x, H b = some x → b ≠ u → b ≠ r ∧ b ≠ q0 := fun b x e nb => ⟨ne_of_none (b1 _ _ nb e) nrH1, ne_of_none (b1 _ _ nb e) nqH1⟩
    refine ⟨_, rfl, _, rfl, _, _, rfl, rfl, _, rfl, by omega, by omega, for_range (lo := 0) (n := n + m) (fun i σ H' => ∃ W L y7 y8 y9, σ = [some (.ref u), some (nv n), some (nv m), some (.ref o), some (.int (1 + (lean : Int))), some (.ref r), some (.ref q0), y7, y8, y9] ∧ SameBut u H H' ∧ WellAt H' u c ∧ H' o = some (.lst (nvs (ord n m))) ∧ H' r = some (.lst (nvs L)) ∧ H' q0 = some (.lst (nvs W)) ∧ Stk n m i W L ∧ W.length + i ≤ n + m)
      ⟨[], List.replicate (n + m) 0, none, none, none, rfl, b1.trans (same_but s3), hW1.keep s3, s3 _ _ ho1, ?_, upd_same, Stk.zero n m, by simp⟩ ?_ ?_⟩
    · rw [upd_ne nrq, upd_same, e0]
    · rintro i σ H2 hi ⟨W, L, y7, y8, y9, rfl, b2, hW2, ho2, hr2, hq2, hS, hWl⟩
      have ei : ((0 : Int) + (i : Int)) = (i : Int) := Int.zero_add _
      rw [ei]
      refine ⟨_, rfl, u, c, 4, rfl, by omega, by omega, hW2, fun H3 d sb3 hW3 hd => ?_⟩
      have ho3 := sb3 _ _ nou ho2
      have hr3 := sb3 _ _ nru hr2
      have hq3 := sb3 _ _ nqu hq2
      have b3 := b2.trans sb3
      refine ⟨_, rfl, _, _, rfl, rfl, _, rfl, _, rfl, _, _, rfl, rfl, rfl, ?_⟩
      generalize decide (V.bl (decide ((d : Int) < 1 + (lean : Int))) = V.bl (decide ((i : Int) < (n : Int)))) = O
      -- the test
      refine ⟨_, rfl, Nat.zero_le _, fun z nz => ?_⟩
      have s4 : Same H3 (upd H3 z (.lst [])) := same_new nz
      have hq4 := s4 _ _ hq3
      have hr4 := s4 _ _ hr3
      have ho4 := s4 _ _ ho3
      have b4 := b3.trans (same_but s4)
      have hW4 := hW3.keep s4
      refine ⟨_, _, dp_list hq4, dp_nil upd_same, shaped_list _, shaped_list [], ?_⟩
      rw [eqv_nil, castL_empty]
      have par := hS.par
      by_cases wne : W = []
      · have em : W.isEmpty = true := by rw [wne]; rfl
        rw [em]
        refine ⟨true, rfl, ?_⟩
        refine iteT ?_
        refine iteT ?_
        · have l0 : W.length = 0 := by rw [wne]; rfl
          have hl2 : W.length + 1 + (i + 1) ≤ n + m := by omega
          refine ⟨_, rfl, .inl ⟨rfl, _, SqL.of hq4⟩, _, rfl, _, rfl, o, _, _, nv (rho n m i), rfl, rfl, SqL.of ho4, atI_nat (by rw [nvs_get (by rw [ord_len]; exact hi), ord_get hi]), q0, _, _, rfl, rfl, hq4, ?_, ?_⟩
          · rw [nvs_len]; exact sizeLine_lt (by omega)
          refine ⟨W ++ [rho n m i], L, _, _, _, rfl, fun c x nc e => ?_, hW4.other nqu nqc, ?_, ?_, ?_, hS.opened hi, ?_⟩
          · rw [upd_ne (nab c x e nc).2]
            exact b4 _ _ nc e
          · rw [upd_ne nqo.symm]; exact ho4
          · rw [upd_ne nrq]; exact hr4
          · rw [upd_same]
            show some (HO.lst (nvs W ++ nvs [rho n m i])) = _
            rw [nvs_app]
          · rw [List.length_append, List.length_singleton]; omega
      · have em : W.isEmpty = false := by
          cases W with
          | nil => exact absurd rfl wne
          | cons x r => rfl
        rw [em]
        refine ⟨false, rfl, iteF ?_⟩
        cases O with
        | false =>
          refine ⟨_, rfl, false, rfl, iteF ?_⟩
          refine iteF ?_
          obtain ⟨W', pp, hWp⟩ : ∃ W' pp, W = W' ++ [pp] := by
            rcases List.eq_nil_or_concat W with z | ⟨W', x, z⟩
            · exact absurd z wne
            · exact ⟨W', x, by rw [z, List.concat_eq_append]⟩
          subst hWp
          have lenL := hS.len
          have hpp : pp < n + m := hS.wlt (by simp)
          have hri := rho_lt (n := n) (m := m) hi
          rw [List.length_append, List.length_singleton] at hWl
          refine ⟨_, rfl, .inl ⟨rfl, _, SqL.of hq4⟩, q0, _, nv pp, rfl, rfl, hq4, ?_, ?_⟩
          · rw [nvs_len, List.length_append, List.length_singleton, Nat.add_sub_cancel, nvs_get (by rw [List.length_append, List.length_singleton]; omega)]
            congr 2
            unfold gd
            rw [getD_app_r (Nat.le_refl _), Nat.sub_self]
            rfl
          have eq5 : (nvs (W' ++ [pp])).dropLast = nvs W' := by
            rw [← nvs_app]
            show (nvs W' ++ [nv pp]).dropLast = _
            rw [List.dropLast_concat]
          rw [eq5]
          have ho5 : (upd (upd H3 z (.lst [])) q0 (.lst (nvs W'))) o = some (.lst (nvs (ord n m))) := by rw [upd_ne nqo.symm]; exact ho4
          have hr5 : (upd (upd H3 z (.lst [])) q0 (.lst (nvs W'))) r = some (.lst (nvs L)) := by rw [upd_ne nrq]; exact hr4
          refine ⟨_, rfl, _, rfl, o, _, _, nv (rho n m i), rfl, rfl, SqL.of ho5, atI_nat (by rw [nvs_get (by rw [ord_len]; exact hi), ord_get hi]), _, rfl, _, rfl, r, _, _, pp, rfl, rfl, hr5, by rw [nvs_len]; exact ixN_nat (by omega), ?_⟩
          rw [nvs_set]
          have ho6 : (upd (upd (upd H3 z (.lst [])) q0 (.lst (nvs W'))) r (.lst (nvs (L.set pp (rho n m i))))) o = some (.lst (nvs (ord n m))) := by rw [upd_ne nro.symm]; exact ho5
          refine ⟨_, rfl, _, rfl, _, rfl, _, rfl, o, _, _, nv (rho n m i), rfl, rfl, SqL.of ho6, atI_nat (by rw [nvs_get (by rw [ord_len]; exact hi), ord_get hi]), r, _, _, rho n m i, rfl, rfl, upd_same, by rw [nvs_len, List.length_set]; exact ixN_nat (by omega), ?_⟩
          rw [nvs_set, upd_upd]
          refine ⟨W', (L.set pp (rho n m i)).set (rho n m i) pp, _, _, _, rfl, fun c x nc e => ?_, (hW4.other nqu nqc).other nru nrc, ?_, upd_same, ?_, hS.shut hi, by omega⟩
          · rw [upd_ne (nab c x e nc).1, upd_ne (nab c x e nc).2]
            exact b4 _ _ nc e
          · rw [upd_ne nro.symm]; exact ho5
          · rw [upd_ne nrq.symm, upd_same]
        | true =>
          refine ⟨_, rfl, true, rfl, iteT ?_⟩
          refine ⟨_, rfl, q0, _, rfl, .inl (SqL.of hq4), _, rfl, _, rfl, _, _, rfl, rfl, _, rfl, _, _, rfl, rfl, _, _, rfl, rfl, ?_⟩
          rw [nvs_len]
          by_cases hlt : W.length < n + m - i
          · refine ⟨true, bl_t (by omega), iteT ?_⟩
            have hl2 : W.length + 1 + (i + 1) ≤ n + m := by omega
            refine ⟨_, rfl, .inl ⟨rfl, _, SqL.of hq4⟩, _, rfl, _, rfl, o, _, _, nv (rho n m i), rfl, rfl, SqL.of ho4, atI_nat (by rw [nvs_get (by rw [ord_len]; exact hi), ord_get hi]), q0, _, _, rfl, rfl, hq4, ?_, ?_⟩
            · rw [nvs_len]; exact sizeLine_lt (by omega)
            refine ⟨W ++ [rho n m i], L, _, _, _, rfl, fun c x nc e => ?_, hW4.other nqu nqc, ?_, ?_, ?_, hS.opened hi, ?_⟩
            · rw [upd_ne (nab c x e nc).2]
              exact b4 _ _ nc e
            · rw [upd_ne nqo.symm]; exact ho4
            · rw [upd_ne nrq]; exact hr4
            · rw [upd_same]
              show some (HO.lst (nvs W ++ nvs [rho n m i])) = _
              rw [nvs_app]
            · rw [List.length_append, List.length_singleton]; omega
          · refine ⟨false, bl_f (by omega), iteF ?_⟩
            obtain ⟨W', pp, hWp⟩ : ∃ W' pp, W = W' ++ [pp] := by
              rcases List.eq_nil_or_concat W with z | ⟨W', x, z⟩
              · exact absurd z wne
              · exact ⟨W', x, by rw [z, List.concat_eq_append]⟩
            subst hWp
            have lenL := hS.len
            have hpp : pp < n + m := hS.wlt (by simp)
            have hri := rho_lt (n := n) (m := m) hi
            rw [List.length_append, List.length_singleton] at hWl
            refine ⟨_, rfl, .inl ⟨rfl, _, SqL.of hq4⟩, q0, _, nv pp, rfl, rfl, hq4, ?_, ?_⟩
            · rw [nvs_len, List.length_append, List.length_singleton, Nat.add_sub_cancel, nvs_get (by rw [List.length_append, List.length_singleton]; omega)]
              congr 2
              unfold gd
              rw [getD_app_r (Nat.le_refl _), Nat.sub_self]
              rfl
            have eq5 : (nvs (W' ++ [pp])).dropLast = nvs W' := by
              rw [← nvs_app]
              show (nvs W' ++ [nv pp]).dropLast = _
              rw [List.dropLast_concat]
            rw [eq5]
            have ho5 : (upd (upd H3 z (.lst [])) q0 (.lst (nvs W'))) o = some (.lst (nvs (ord n m))) := by rw [upd_ne nqo.symm]; exact ho4
            have hr5 : (upd (upd H3 z (.lst [])) q0 (.lst (nvs W'))) r = some (.lst (nvs L)) := by rw [upd_ne nrq]; exact hr4
            refine ⟨_, rfl, _, rfl, o, _, _, nv (rho n m i), rfl, rfl, SqL.of ho5, atI_nat (by rw [nvs_get (by rw [ord_len]; exact hi), ord_get hi]), _, rfl, _, rfl, r, _, _, pp, rfl, rfl, hr5, by rw [nvs_len]; exact ixN_nat (by omega), ?_⟩
            rw [nvs_set]
            have ho6 : (upd (upd (upd H3 z (.lst [])) q0 (.lst (nvs W'))) r (.lst (nvs (L.set pp (rho n m i))))) o = some (.lst (nvs (ord n m))) := by rw [upd_ne nro.symm]; exact ho5
            refine ⟨_, rfl, _, rfl, _, rfl, _, rfl, o, _, _, nv (rho n m i), rfl, rfl, SqL.of ho6, atI_nat (by rw [nvs_get (by rw [ord_len]; exact hi), ord_get hi]), r, _, _, rho n m i, rfl, rfl, upd_same, by rw [nvs_len, List.length_set]; exact ixN_nat (by omega), ?_⟩
            rw [nvs_set, upd_upd]
            refine ⟨W', (L.set pp (rho n m i)).set (rho n m i) pp, _, _, _, rfl, fun c x nc e => ?_, (hW4.other nqu nqc).other nru nrc, ?_, upd_same, ?_, hS.shut hi, by omega⟩
            · rw [upd_ne (nab c x e nc).1, upd_ne (nab c x e nc).2]
              exact b4 _ _ nc e
            · rw [upd_ne nro.symm]; exact ho5
            · rw [upd_ne nrq.symm, upd_same]
    · rintro σ H2 ⟨W, L, y7, y8, y9, rfl, b2, hW2, ho2, hr2, hq2, hS, hWl⟩
      have eW : W = [] := List.eq_nil_of_length_eq_zero (by omega)
      subst eW
      refine ⟨_, rfl, _, rfl, _, rfl, r, _, rfl, .inl ⟨SqL.of hr2, fun t nt => ?_⟩⟩
      refine ⟨by show 3 ≤ sizeLine; decide, fun a na => ?_⟩
      have nta : t ≠ a := fun e => by rw [← e, upd_same] at na; cases na
      have s4 := (same_new (o := .tup (nvs L)) nt).trans (same_new (o := .tup [nv n, nv m, .ref t]) na)
      refine q _ _ L (b2.trans (same_but s4)) (hW2.keep s4) ⟨a, t, rfl, upd_same, ?_⟩ hS.done
      rw [upd_ne nta, upd_same]
end
end HM

/-! The law's way of putting behind. -/
namespace HM
open PySem PySem.Spec PyProof.Rows L2
def kn (x : Nat) : Key := .inl (x : Int)
theorem kn_inj {x y : Nat} (h : kn x = kn y) : x = y := by
  have : (x : Int) = (y : Int) := Sum.inl.inj h
  omega
theorem valV_drop (k j : Key) : ∀ kvs : List (Key × V), valV (dropK kvs k) j = if j = k then none else valV kvs j
  | [] => by
    show valV ([] : List (Key × V)) j = _
    rw [valV_nil]; split <;> rfl
  | p :: r => by
    have ih := valV_drop k j r
    by_cases e : p.1 = k
    · rw [dropK_pos e, ih]
      by_cases q : j = k
      · rw [if_pos q, if_pos q]
      · rw [if_neg q, if_neg q, valV_neg (fun z => q (z.symm.trans e))]
    · rw [dropK_neg e]
      by_cases q : p.1 = j
      · rw [valV_pos q, if_neg (fun z => e (q.trans z)), valV_pos q]
      · rw [valV_neg q, ih, valV_neg q]
/-- the dict holds e at each peg of S -/
def DI (kvs : List (Key × V)) (S : Nat → Prop) (e : Nat → Nat) : Prop := ∀ x, S x → valV kvs (kn x) = some (nv (e x))
theorem DI.put {kvs : List (Key × V)} {S T : Nat → Prop} {e f : Nat → Nat} {y v : Nat} (h : DI kvs S e) (hy : T y → f y = v) (ho : ∀ x, T x → x ≠ y → S x ∧ f x = e x) : DI (putK kvs (kn y) (nv v)) T f := fun x hx => by
  rw [valV_put]
  by_cases c : x = y
  · subst c
    rw [if_pos rfl, hy hx]
  · rw [if_neg (fun z => c (kn_inj z))]
    obtain ⟨a, b⟩ := ho x hx c
    rw [h x a, b]
theorem DI.drop {kvs : List (Key × V)} {S T : Nat → Prop} {e f : Nat → Nat} {y : Nat} (h : DI kvs S e) (ho : ∀ x, T x → x ≠ y ∧ S x ∧ f x = e x) : DI (dropK kvs (kn y)) T f := fun x hx => by
  obtain ⟨a, b, c⟩ := ho x hx
  rw [valV_drop, if_neg (fun z => a (kn_inj z)), h x b, c]
theorem nvs_range_succ (f : Nat → Nat) (i : Nat) : nvs ((List.range (i + 1)).map f) = nvs ((List.range i).map f) ++ [nv (f i)] := by
  rw [List.range_succ, List.map_append, ← nvs_app]
  rfl
theorem comp_lists (n m k : Nat) (f : Nat → Nat) : (List.range n).map f ++ (List.range k).map (fun p => f (n + 2 * m + p)) = (List.range (n + k)).map fun p => f (inn n m p) := by
  rw [List.range_add, List.map_append, List.map_map]
  congr 1
  · refine List.map_congr_left fun p hp => ?_
    unfold inn
    rw [if_pos (List.mem_range.mp hp)]
  · refine List.map_congr_left fun p hp => ?_
    show f (n + 2 * m + p) = f (inn n m (n + p))
    unfold inn
    rw [if_neg (by omega)]
    congr 1
    omega
section
variable {P : Program} {w : World} {K : PySem.W.Frag} {mg : Str → Option Value} {base : Heap}
theorem scLBehind : FnScope ["_law_one", "_law_other", "_law_n", "_law_m", "_law_k", "_law_ends", "_law_peg", "_law_rings", "_law_near", "_law_far", "_law_mates", "_law_mate"] ["_law_one", "_law_other"] (defScope sLBehind) := ⟨rfl, rfl, rfl, by decide +kernel, rfl, by decide +kernel, by decide +kernel⟩
def spLBehind : Sp := fun vs H Q _ => ∃ (v1 v2 : V) (n m k : Nat) (A B : List Nat), vs = [v1, v2] ∧ n ≤ 1000 ∧ m ≤ 1000 ∧ k ≤ 1000 ∧ MatAt H v1 n m A ∧ MatAt H v2 m k B ∧ IsMat n m A ∧ IsMat m k B ∧
  ∀ H' a z v, Same H H' → H' a = some (.tup [.int z, v]) → MatAt H' v n k (compN n m k A B) → Q (.ref a) H'
set_option maxHeartbeats 16000000 in
theorem ok_lbehind {f : Addr} {fd : FuncData} (F : Fun K "_law_behind" "_law_behind" sLBehind f fd) (mr : mg "range" = none) (mt : mg "tuple" = none) : FnOk P w K mg base CX0 1 f fd ["_law_one", "_law_other"] spLBehind := by
  refine F.ok scLBehind (fun vs H Q E h => ?_) (fun cdv A0 outer s H vs Q E hr h => ?_)
  · obtain ⟨v1, v2, n, m, k, A, B, rfl, _⟩ := h
    rfl
  · obtain ⟨v1, v2, n, m, k, A, B, rfl, hn, hm, hk, h1, h2, hA, hB, q⟩ := h
    obtain ⟨a1, t1, rfl, ha1, ht1⟩ := id h1
    obtain ⟨a2, t2, rfl, ha2, ht2⟩ := id h2
    have nd := scLBehind.nd
    have hu := hu_of hr
    refine ⟨_, pss_cons (ps_asg (pe_tup (pa_cons (pe_ix ix_tup (pv 0) pe_int (fun _ _ => rfl)) (pa_cons (pe_ix ix_tup (pv 0) pe_int (fun _ _ => rfl)) (pa_cons (pe_ix ix_tup (pv 1) pe_int (fun _ _ => rfl)) pa_nil))))
        (pg_tup rfl (pgs_cons (pg_name (i := 2) nd rfl (.inr rfl)) (pgs_cons (pg_name (i := 3) nd rfl (.inr rfl)) (pgs_cons (pg_name (i := 4) nd rfl (.inl rfl)) pgs_nil)))))
      (pss_cons (ps_set (i := 5) nd rfl (.inr rfl) pe_dnewK)
      (pss_cons (ps_for PassesOwn.never rfl (pi_range1 rfl mr (pa_cons (pe_op op_add (pv 2) (pv 3)) pa_nil)) (pg_name (i := 6) nd rfl (.inl rfl))
        (pss_one (ps_dput hu (pv 5) (pv 6) (pe_ix ix_tup (pe_ix ix_tup (pv 0) pe_int (fun _ _ => rfl)) (pv 6) (fun _ _ => rfl)) rfl)))
      (pss_cons (ps_for PassesOwn.never rfl (pi_range1 rfl mr (pa_cons (pe_op op_add (pv 3) (pv 4)) pa_nil)) (pg_name (i := 6) nd rfl (.inl rfl))
        (pss_one (ps_dput hu (pv 5) (pe_op op_add (pe_op op_add (pv 2) (pv 3)) (pv 6)) (pe_op op_add (pe_op op_add (pv 2) (pv 3)) (pe_ix ix_tup (pe_ix ix_tup (pv 1) pe_int (fun _ _ => rfl)) (pv 6) (fun _ _ => rfl))) rfl)))
      (pss_cons (ps_set (i := 7) nd rfl (.inl rfl) pe_int)
      (pss_cons (ps_for PassesOwn.never rfl (pi_range1 rfl mr (pa_cons (pv 3) pa_nil)) (pg_name (i := 6) nd rfl (.inl rfl))
        (pss_cons (ps_par (i := 8) (j := 9) rfl nd rfl rfl (by decide) rfl rfl (pa_cons (pe_dpop1 (pv 5) (pe_op op_add (pv 2) (pv 6)) ⟨rfl, rfl, rfl, rfl⟩) (pa_cons (pe_dpop1 (pv 5) (pe_op op_add (pe_op op_add (pv 2) (pv 3)) (pv 6)) ⟨rfl, rfl, rfl, rfl⟩) pa_nil)) (by rfl))
        (pss_one (ps_if (pt_cmpR op_eq (pv 8) (pe_op op_add (pe_op op_add (pv 2) (pv 3)) (pv 6)) (nomark _))
          (pss_one (ps_set (i := 7) nd rfl (.inl rfl) (pe_op op_add (pv 7) pe_int)))
          (pss_cons (ps_dput hu (pv 5) (pv 8) (pv 9) rfl)
          (pss_one (ps_dput hu (pv 5) (pv 9) (pv 8) rfl)))))))
      (pss_cons (ps_set (i := 10) nd rfl (.inl rfl) (pe_op op_cat
          (pe_lc (own := [("_law_peg", 6)]) (g := gName 6) rfl nd (pi_range1 rfl mr (pa_cons (pv 2) pa_nil)) (blkOk_by (own := [("_law_peg", 6)]) (N := ["_law_one", "_law_other", "_law_n", "_law_m", "_law_k", "_law_ends", "_law_peg", "_law_rings", "_law_near", "_law_far", "_law_mates", "_law_mate"]) (sc := defScope sLBehind) (by decide +kernel)) (fun _ _ _ _ _ => pg_name (i := 6) nd rfl (Or.inl rfl)) (fun _ _ _ _ _ => pts_nil) (fun _ _ _ _ _ => pe_dget hu (pv 5) (pv 6) (fun _ _ => rfl)))
          (pe_lc (own := [("_law_peg", 6)]) (g := gName 6) rfl nd (pi_range1 rfl mr (pa_cons (pv 4) pa_nil)) (blkOk_by (own := [("_law_peg", 6)]) (N := ["_law_one", "_law_other", "_law_n", "_law_m", "_law_k", "_law_ends", "_law_peg", "_law_rings", "_law_near", "_law_far", "_law_mates", "_law_mate"]) (sc := defScope sLBehind) (by decide +kernel)) (fun _ _ _ _ _ => pg_name (i := 6) nd rfl (Or.inl rfl)) (fun _ _ _ _ _ => pts_nil) (fun _ _ _ _ _ => pe_dget hu (pv 5) (pe_op op_add (pe_op op_add (pv 2) (pe_op op_mul pe_int (pv 3))) (pv 6)) (fun _ _ => rfl)))))
      (pss_one (ps_ret (pe_tup (pa_cons (pv 7) (pa_cons (pe_tup (pa_cons (pv 2) (pa_cons (pv 4) (pa_cons (pe_callTy call_tuple_of (by rfl) mt boot_tuple (pa_cons
          (pe_lc (own := [("_law_mate", 11)]) (g := gName 11) rfl nd (pi_list (pv 10)) (blkOk_by (own := [("_law_mate", 11)]) (N := ["_law_one", "_law_other", "_law_n", "_law_m", "_law_k", "_law_ends", "_law_peg", "_law_rings", "_law_near", "_law_far", "_law_mates", "_law_mate"]) (sc := defScope sLBehind) (by decide +kernel)) (fun _ _ _ _ _ => pg_name (i := 11) nd rfl (Or.inl rfl)) (fun _ _ _ _ _ => pts_nil)
            (fun _ _ _ _ _ => pe_ifExp (pt_cmpR op_lt (pv 11) (pv 2) (nomark _)) (pv 11) (pe_op op_sub (pv 11) (pe_op op_mul pe_int (pv 3))))) pa_nil)) pa_nil)))) pa_nil))))))))))), ?_⟩
    -- n, m, k
    refine ⟨_, rfl, a1, _, 0, nv n, rfl, rfl, SqT.of ha1, atI_nat (j := 0) rfl, _, rfl, a1, _, 1, nv m, rfl, rfl, SqT.of ha1, atI_nat (j := 1) rfl, _, rfl, a2, _, 1, nv k, rfl, rfl, SqT.of ha2, atI_nat (j := 1) rfl, by show 3 ≤ sizeLine; decide, fun t0 nt0 => ?_⟩
    refine ⟨t0, _, rfl, SqT.of upd_same, rfl, _, _, rfl, _, _, rfl, _, _, rfl, rfl, ?_⟩
    have s0 : Same H (upd H t0 (.tup [nv n, nv m, nv k])) := same_new nt0
    -- ends = {}
    refine fun d hd0 => ?_
    have ndH : H d = none := s0.free hd0
    have s1 := s0.trans (same_new (o := .dK []) hd0)
    refine ⟨_, rfl, _, rfl, _, _, rfl, rfl, _, rfl, by omega, by omega, for_range (lo := 0) (n := n + m) (fun i σ H' => ∃ y6, σ = [some (.ref a1), some (.ref a2), some (nv n), some (nv m), some (nv k), some (.ref d), y6, none, none, none, none, none] ∧ Same H H' ∧ ∃ kvs, H' d = some (.dK kvs) ∧ kvs.length ≤ i ∧ DI kvs (fun x => x < i) (e0 n m A B))
      ⟨none, rfl, s1, [], upd_same, Nat.le_refl _, fun x hx => absurd hx (Nat.not_lt_zero x)⟩ ?_ ?_⟩
    · rintro i σ H2 hi ⟨y6, rfl, s2, kvs, hd, hl, D2⟩
      have ei : ((0 : Int) + (i : Int)) = (i : Int) := Int.zero_add _
      rw [ei]
      refine ⟨_, rfl, a1, _, 2, .ref t1, rfl, rfl, SqT.of (s2 _ _ ha1), atI_nat (j := 2) rfl, _, rfl, t1, _, _, nv (gd A i), rfl, rfl, SqT.of (s2 _ _ ht1), atI_nat (nvs_get (by rw [hA.len]; exact hi)), _, rfl, _, rfl, d, _, rfl, DPut.k (k := kn i) hd (sizeLine_lt (by omega)), ?_⟩
      refine ⟨_, rfl, same_upd2 s2 ndH, _, upd_same, Nat.le_trans (length_putK _ _ _) (by omega), D2.put (fun _ => e0_l hi) fun x hx nx => ⟨?_, rfl⟩⟩
      have hx' : x < i + 1 := hx
      show x < i
      omega
    · rintro σ H2 ⟨y6, rfl, s2, kvs2, hd2, hl2, D2⟩
      refine ⟨_, rfl, _, rfl, _, _, rfl, rfl, _, rfl, by omega, by omega, for_range (lo := 0) (n := m + k) (fun i σ H' => ∃ y6, σ = [some (.ref a1), some (.ref a2), some (nv n), some (nv m), some (nv k), some (.ref d), y6, none, none, none, none, none] ∧ Same H H' ∧ ∃ kvs, H' d = some (.dK kvs) ∧ kvs.length ≤ n + m + i ∧ DI kvs (fun x => x < n + m + i) (e0 n m A B))
        ⟨y6, rfl, s2, kvs2, hd2, hl2, D2⟩ ?_ ?_⟩
      · rintro i σ H3 hi ⟨y6, rfl, s3, kvs, hd, hl, D3⟩
        have ei : ((0 : Int) + (i : Int)) = (i : Int) := Int.zero_add _
        rw [ei]
        refine ⟨_, rfl, _, rfl, _, _, rfl, rfl, _, rfl, a2, _, 2, .ref t2, rfl, rfl, SqT.of (s3 _ _ ha2), atI_nat (j := 2) rfl, _, rfl, t2, _, _, nv (gd B i), rfl, rfl, SqT.of (s3 _ _ ht2), atI_nat (nvs_get (by rw [hB.len]; exact hi)), _, _, rfl, rfl, _, rfl, _, rfl, _, rfl, _, _, rfl, rfl, _, rfl, _, _, rfl, rfl, d, _, rfl, DPut.k (k := .inl ((n : Int) + (m : Int) + (i : Int))) hd (sizeLine_lt (by omega)), ?_⟩
        have ek : (.inl ((n : Int) + (m : Int) + (i : Int)) : Key) = kn (n + m + i) := by
          unfold kn
          congr 1
        have ev : V.int ((n : Int) + (m : Int) + (gd B i : Int)) = nv (n + m + gd B i) := by
          show V.int _ = V.int _
          congr 1
        refine ⟨_, rfl, same_upd2 s3 ndH, _, upd_same, Nat.le_trans (length_putK _ _ _) (by omega), ?_⟩
        show DI (putK kvs (.inl ((n : Int) + (m : Int) + (i : Int))) (V.int ((n : Int) + (m : Int) + (gd B i : Int)))) _ _
        rw [ek, ev]
        refine D3.put (fun _ => e0_r) fun x hx nx => ⟨?_, rfl⟩
        have hx' : x < n + m + (i + 1) := hx
        show x < n + m + i
        omega
      · rintro σ H3 ⟨y6, rfl, s3, kvs3, hd3, hl3, D3⟩
        -- the pairs of pegs that meet
        refine ⟨_, rfl, _, rfl, by omega, by omega, for_range (lo := 0) (n := m) (fun j σ H' => ∃ y6 z y8 y9, σ = [some (.ref a1), some (.ref a2), some (nv n), some (nv m), some (nv k), some (.ref d), y6, some (.int z), y8, y9, none, none] ∧ Same H H' ∧ ∃ kvs, H' d = some (.dK kvs) ∧ kvs.length ≤ 4000 + 2 * j ∧ DI kvs (alive n m k j) (eJ n m A B j))
          ⟨y6, 0, none, none, rfl, s3, kvs3, hd3, by omega, fun x hx => D3 x (by have := hx.1; show x < n + m + (m + k); exact this)⟩ ?_ ?_⟩
        · rintro j σ H4 hj ⟨y6, z, y8, y9, rfl, s4, kvs, hd, hl, D4⟩
          have ei : ((0 : Int) + (j : Int)) = (j : Int) := Int.zero_add _
          rw [ei]
          have nc := eJ_ncs hA hB j (Nat.le_of_lt hj)
          have aa : alive n m k j (n + j) := ⟨by omega, by omega, by omega⟩
          have ab : alive n m k j (n + m + j) := ⟨by omega, by omega, by omega⟩
          have ia := nc.inv _ aa
          have ib := nc.inv _ ab
          have k1 : (.inl ((n : Int) + (j : Int)) : Key) = kn (n + j) := by
            unfold kn
            congr 1
          have k2 : (.inl ((n : Int) + (m : Int) + (j : Int)) : Key) = kn (n + m + j) := by
            unfold kn
            congr 1
          have v1 : valV kvs (.inl ((n : Int) + (j : Int)) : Key) = some (nv (eJ n m A B j (n + j))) := by rw [k1]; exact D4 _ aa
          have v2 : valV (dropK kvs (.inl ((n : Int) + (j : Int)) : Key)) (.inl ((n : Int) + (m : Int) + (j : Int)) : Key) = some (nv (eJ n m A B j (n + m + j))) := by
            rw [valV_drop, k2, k1, if_neg (fun z => by have := kn_inj z; omega)]
            exact D4 _ ab
          refine ⟨_, rfl, d, rfl, .inl ⟨_, .inl hd⟩, _, rfl, _, rfl, _, _, rfl, rfl, kvs, .inl ((n : Int) + (j : Int)), _, hd, rfl, v1, ?_⟩
          refine ⟨_, rfl, d, rfl, .inl ⟨_, .inl upd_same⟩, _, rfl, _, rfl, _, _, rfl, rfl, _, rfl, _, _, rfl, rfl, _, .inl ((n : Int) + (m : Int) + (j : Int)), _, upd_same, rfl, v2, ?_⟩
          rw [upd_upd]
          refine ⟨_, _, rfl, ?_⟩
          -- near == n + m + peg
          refine ⟨_, rfl, _, rfl, _, rfl, _, _, rfl, rfl, _, rfl, _, _, rfl, rfl, rfl, ?_⟩
          have D5 : DI (dropK (dropK kvs (.inl ((n : Int) + (j : Int)) : Key)) (.inl ((n : Int) + (m : Int) + (j : Int)) : Key)) (fun x => alive n m k j x ∧ x ≠ n + j ∧ x ≠ n + m + j) (eJ n m A B j) := by
            rw [k1, k2]
            exact (D4.drop (T := fun x => alive n m k j x ∧ x ≠ n + j) (fun x hx => ⟨hx.2, hx.1, rfl⟩)).drop fun x hx => ⟨hx.2.2, ⟨hx.1, hx.2.1⟩, rfl⟩
          have l5 : (dropK (dropK kvs (.inl ((n : Int) + (j : Int)) : Key)) (.inl ((n : Int) + (m : Int) + (j : Int)) : Key)).length ≤ 4000 + 2 * j := Nat.le_trans (dropK_le _ _) (Nat.le_trans (dropK_le _ _) hl)
          have s5 : ∀ o, Same H (upd H4 d o) := fun o => same_upd2 s4 ndH
          by_cases e : eJ n m A B j (n + j) = n + m + j
          · refine ⟨true, bl_t (show nv (eJ n m A B j (n + j)) = V.int ((n : Int) + (m : Int) + (j : Int)) by rw [e]; show V.int _ = V.int _; congr 1), ?_⟩
            refine iteT ?_
            refine ⟨_, rfl, _, _, rfl, rfl, ?_⟩
            refine ⟨_, _, _, _, rfl, s5 _, _, upd_same, by omega, fun x hx => ?_⟩
            have hx' := (alive_succ hj).mp hx
            rw [D5 x hx']
            show _ = some (nv (cutP (eJ n m A B j) (n + j) (n + m + j) x))
            rw [show cutP (eJ n m A B j) (n + j) (n + m + j) = eJ n m A B j from if_pos e]
          · refine ⟨false, bl_f (show ¬ nv (eJ n m A B j (n + j)) = V.int ((n : Int) + (m : Int) + (j : Int)) from fun z => e (by
                have : ((eJ n m A B j (n + j) : Nat) : Int) = (n : Int) + (m : Int) + (j : Int) := V.int.inj z
                omega)), ?_⟩
            refine iteF ?_
            have nf : eJ n m A B j (n + j) ≠ eJ n m A B j (n + m + j) := fun z => by
              have : n + j = n + m + j := by rw [← ia, z, ib]
              omega
            refine ⟨_, rfl, _, rfl, _, rfl, d, _, rfl, DPut.k (k := kn (eJ n m A B j (n + j))) upd_same (sizeLine_lt (by omega)), ?_⟩
            rw [upd_upd]
            have l6 := length_putK (dropK (dropK kvs (.inl ((n : Int) + (j : Int)) : Key)) (.inl ((n : Int) + (m : Int) + (j : Int)) : Key)) (kn (eJ n m A B j (n + j))) (nv (eJ n m A B j (n + m + j)))
            refine ⟨_, rfl, _, rfl, _, rfl, d, _, rfl, DPut.k (k := kn (eJ n m A B j (n + m + j))) upd_same (sizeLine_lt (by omega)), ?_⟩
            rw [upd_upd]
            refine ⟨_, _, _, _, rfl, s5 _, _, upd_same, Nat.le_trans (length_putK _ _ _) (by omega), ?_⟩
            have ec : eJ n m A B (j + 1) = tie (eJ n m A B j) (eJ n m A B j (n + j)) (eJ n m A B j (n + m + j)) := by
              show cutP (eJ n m A B j) (n + j) (n + m + j) = _
              exact if_neg e
            rw [ec]
            refine DI.put (S := fun x => (alive n m k j x ∧ x ≠ n + j ∧ x ≠ n + m + j)) (e := fun x => if x = eJ n m A B j (n + j) then eJ n m A B j (n + m + j) else eJ n m A B j x) (DI.put D5 (fun _ => if_pos rfl) fun x hx nx => ⟨hx, if_neg nx⟩) (fun _ => tie_t) fun x hx nx => ⟨(alive_succ hj).mp hx, ?_⟩
            unfold tie
            by_cases q1 : x = eJ n m A B j (n + j)
            · rw [if_pos q1]
              exact (if_pos q1).symm
            · rw [if_neg q1, if_neg nx]
              exact (if_neg q1).symm
        · rintro σ H4 ⟨y6, z, y8, y9, rfl, s4, kvs, hd, hl, D4⟩
          have hal : ∀ x, x < n + k → valV kvs (kn (inn n m x)) = some (nv (eJ n m A B m (inn n m x))) := fun x hx => D4 _ (inn_alive hx)
          -- [ends[peg] for peg in range(n)]
          refine ⟨_, rfl, n, rfl, by omega, by omega, fun D1 nD1 => ?_⟩
          refine lc_range (lo := 0) (n := n) (fun i H' => Same H4 H' ∧ H' D1 = some (.lst (nvs ((List.range i).map (eJ n m A B m))))) ⟨same_new nD1, upd_same⟩ ?_ ?_
          · rintro i H5 hi ⟨s5, e5⟩
            have ei : ((0 : Int) + (i : Int)) = (i : Int) := Int.zero_add _
            rw [ei]
            have hv := hal i (by omega)
            rw [show inn n m i = i from if_pos hi] at hv
            refine ⟨rfl, _, rfl, _, rfl, d, nv (eJ n m A B m i), rfl, ?_, _, e5, ?_, same_upd2 s5 nD1, ?_⟩
            · rw [← hv]; exact DGet.k (k := kn i) (s5 _ _ hd)
            · rw [nvs_len, List.length_map, List.length_range]; exact sizeLine_lt (by omega)
            · rw [upd_same, nvs_range_succ]
          · rintro H5 ⟨s5, e5⟩
            -- [ends[n + 2 * m + peg] for peg in range(k)]
            refine ⟨_, rfl, k, rfl, by omega, by omega, fun D2 nD2 => ?_⟩
            refine lc_range (lo := 0) (n := k) (fun i H' => Same H5 H' ∧ H' D2 = some (.lst (nvs ((List.range i).map fun p => eJ n m A B m (n + 2 * m + p))))) ⟨same_new nD2, upd_same⟩ ?_ ?_
            · rintro i H6 hi ⟨s6, e6⟩
              have ei : ((0 : Int) + (i : Int)) = (i : Int) := Int.zero_add _
              rw [ei]
              have hv := hal (n + i) (by omega)
              rw [show inn n m (n + i) = n + 2 * m + i by unfold inn; rw [if_neg (by omega)]; omega] at hv
              have ek : (.inl ((n : Int) + 2 * (m : Int) + (i : Int)) : Key) = kn (n + 2 * m + i) := by
                unfold kn
                congr 1
              refine ⟨rfl, _, rfl, _, rfl, _, rfl, _, _, rfl, rfl, .inl ⟨by decide, by decide⟩, _, _, rfl, rfl, _, rfl, _, _, rfl, rfl, d, nv (eJ n m A B m (n + 2 * m + i)), rfl, ?_, _, e6, ?_, same_upd2 s6 nD2, ?_⟩
              · rw [← hv, ← ek]; exact DGet.k (k := .inl ((n : Int) + 2 * (m : Int) + (i : Int))) (s6 _ _ (s5 _ _ hd))
              · rw [nvs_len, List.length_map, List.length_range]; exact sizeLine_lt (by omega)
              · rw [upd_same, nvs_range_succ]
            · rintro H6 ⟨s6, e6⟩
              refine ⟨D1, D2, _, _, rfl, rfl, s6 _ _ e5, e6, ?_, fun p np => ?_⟩
              · rw [nvs_len, nvs_len, List.length_map, List.length_map, List.length_range, List.length_range]; exact sizeLine_big (by omega)
              rw [nvs_app, comp_lists n m k (eJ n m A B m)]
              have s7 : Same H (upd H6 p (.lst (nvs ((List.range (n + k)).map fun p => eJ n m A B m (inn n m p))))) := s4.trans (s5.trans (s6.trans (same_new np)))
              -- (rings, (n, k, tuple([..])))
              refine ⟨_, rfl, _, rfl, _, rfl, _, rfl, p, rfl, ⟨_, SqL.of upd_same⟩, fun D3 nD3 => ?_⟩
              have npD : p ≠ D3 := fun e => by rw [← e, upd_same] at nD3; cases nD3
              refine lc_list (K := K) (a := p) (xs := nvs ((List.range (n + k)).map fun p => eJ n m A B m (inn n m p))) (fun i H' => Same (upd H6 p (.lst (nvs ((List.range (n + k)).map fun p => eJ n m A B m (inn n m p))))) H' ∧ H' D3 = some (.lst (nvs ((List.range i).map fun x => out n m (eJ n m A B m (inn n m x)))))) ⟨same_new nD3, upd_same⟩ (fun i H' _ ⟨s, _⟩ => SqL.of (s _ _ upd_same)) ?_ ?_
              · rintro i x H7 hx ⟨s8, e8⟩
                obtain ⟨hi, rfl⟩ := nvs_at hx
                rw [List.length_map, List.length_range] at hi
                have eg : gd ((List.range (n + k)).map fun p => eJ n m A B m (inn n m p)) i = eJ n m A B m (inn n m i) := tab_get hi
                rw [eg]
                have hq := (eJ_ncs hA hB m (Nat.le_refl m)).mem _ (inn_alive hi)
                rw [alive_m] at hq
                obtain ⟨y, hy⟩ : ∃ y, y = eJ n m A B m (inn n m i) := ⟨_, rfl⟩
                rw [← hy] at hq ⊢
                refine ⟨rfl, _, rfl, _, rfl, _, _, rfl, rfl, ?_⟩
                by_cases c : y < n
                · refine ⟨true, bl_t (by omega), iteT ?_⟩
                  refine ⟨_, rfl, _, e8, ?_, same_upd2 s8 nD3, ?_⟩
                  · rw [nvs_len, List.length_map, List.length_range]; exact sizeLine_lt (by omega)
                  · rw [upd_same, nvs_range_succ, ← hy, show out n m y = y from if_pos c]
                · refine ⟨false, bl_f (by omega), iteF ?_⟩
                  refine ⟨_, rfl, _, rfl, _, _, rfl, rfl, .inl ⟨by decide, by decide⟩, _, _, rfl, rfl, _, e8, ?_, same_upd2 s8 nD3, ?_⟩
                  · rw [nvs_len, List.length_map, List.length_range]; exact sizeLine_lt (by omega)
                  · rw [upd_same, nvs_range_succ, ← hy, show out n m y = y - 2 * m from if_neg c]
                    congr 3
                    show [V.int ((y : Int) - 2 * (m : Int))] = [V.int ((y - 2 * m : Nat) : Int)]
                    congr 2
                    omega
              · rintro H7 ⟨s8, e8⟩
                rw [nvs_len, List.length_map, List.length_range] at e8
                refine ⟨D3, _, rfl, .inl ⟨SqL.of e8, fun t nt => ⟨by show 3 ≤ sizeLine; decide, fun a na => ⟨by show 2 ≤ sizeLine; decide, fun b nb => ?_⟩⟩⟩⟩
                have nta : t ≠ a := fun e => by rw [← e, upd_same] at na; cases na
                have nab : a ≠ b := fun e => by rw [← e, upd_same] at nb; cases nb
                have ntb : t ≠ b := fun e => by rw [← e, upd_ne nta, upd_same] at nb; cases nb
                refine q _ b z (.ref a) (s7.trans (s8.trans ((same_new nt).trans ((same_new na).trans (same_new nb))))) upd_same ⟨a, t, rfl, ?_, ?_⟩
                · rw [upd_ne nab, upd_same]
                · rw [upd_ne ntb, upd_ne nta, upd_same]; rfl
end
end HM

/-! The law's list of all mats. -/
namespace HM
open PySem PySem.Spec PyProof.Rows L2
/-- the pegs that a row names are there -/
theorem rows_pegs {n m : Nat} : ∀ t, t ≤ n + m → ∀ r ∈ rowsN n m t, (∀ x ∈ r.1, x < n + m) ∧ (∀ p ∈ r.2, p.1 < n + m ∧ p.2 < n + m) ∧ r.1.length ≤ t ∧ r.2.length ≤ t
  | 0, _, r, hr => by
    have e : r = ([], []) := by simpa [rowsN] using hr
    rw [e]
    exact ⟨(fun x hx => nomatch hx), (fun x hx => nomatch hx), Nat.le_refl _, Nat.le_refl _⟩
  | t + 1, ht, r, hr => by
    obtain ⟨q, hq, hs⟩ := List.mem_flatMap.mp (show r ∈ (rowsN n m t).flatMap (stepRow (n + m) t (rho n m t)) from hr)
    obtain ⟨s1, s2, s3, s4⟩ := rows_pegs t (by omega) q hq
    have hp := rho_lt (n := n) (m := m) (show t < n + m by omega)
    unfold stepRow at hs
    rcases List.mem_append.mp hs with z | z
    · by_cases c : q.1.length + 1 < n + m - t
      · rw [if_pos c] at z
        have e := List.mem_singleton.mp z
        subst e
        refine ⟨fun x hx => ?_, s2, by rw [List.length_append, List.length_singleton]; omega, Nat.le_succ_of_le s4⟩
        rcases List.mem_append.mp hx with y | y
        · exact s1 x y
        · rw [List.mem_singleton.mp y]; exact hp
      · rw [if_neg c] at z; cases z
    · by_cases c : q.1 = []
      · rw [if_pos c] at z; cases z
      · rw [if_neg c] at z
        have e := List.mem_singleton.mp z
        subst e
        have e1 := last_split c
        have mem1 : ∀ x, x ∈ q.1.dropLast ++ [q.1.getLast?.getD 0] → x ∈ q.1 := fun x hx => by rw [← e1] at hx; exact hx
        refine ⟨fun x hx => s1 x (mem1 x (List.mem_append_left _ hx)), fun p hp' => ?_, by rw [List.length_dropLast]; omega, by rw [List.length_append, List.length_singleton]; omega⟩
        rcases List.mem_append.mp hp' with y | y
        · exact s2 p y
        · rw [List.mem_singleton.mp y]
          exact ⟨s1 _ (mem1 _ (by simp)), hp⟩
theorem cut_last (xs : List V) : cutV xs none (some (-1)) = xs.dropLast := by
  unfold cutV
  have a : HT.sIx xs.length 0 none = 0 := rfl
  have b : HT.sIx xs.length xs.length (some (-1)) = xs.length - 1 := by
    unfold HT.sIx
    simp
    omega
  rw [a, b, List.drop_zero, Nat.sub_zero, List.dropLast_eq_take]
/-- a row -/
def RowAt (H : Hp) (t : Addr) (r : Row) : Prop := ∃ (wa pa : Addr) (ts : List Addr), H t = some (.tup [.ref wa, .ref pa]) ∧ H wa = some (.lst (nvs r.1)) ∧ H pa = some (.lst (ts.map V.ref)) ∧ Paired (fun t (p : Nat × Nat) => H t = some (.tup [nv p.1, nv p.2])) ts r.2
theorem RowAt.keep {H H' : Hp} {t : Addr} {r : Row} (h : RowAt H t r) (s : Same H H') : RowAt H' t r := by
  obtain ⟨wa, pa, ts, h1, h2, h3, h4⟩ := h
  exact ⟨wa, pa, ts, s _ _ h1, s _ _ h2, s _ _ h3, h4.mono fun _ _ z => s _ _ z⟩
/-- a row that leans on no list at l -/
def RowOff (H : Hp) (l t : Addr) (r : Row) : Prop := ∃ (wa pa : Addr) (ts : List Addr), wa ≠ l ∧ pa ≠ l ∧ H t = some (.tup [.ref wa, .ref pa]) ∧ H wa = some (.lst (nvs r.1)) ∧ H pa = some (.lst (ts.map V.ref)) ∧ Paired (fun t (p : Nat × Nat) => H t = some (.tup [nv p.1, nv p.2])) ts r.2
theorem RowOff.row {H : Hp} {l t : Addr} {r : Row} (h : RowOff H l t r) : RowAt H t r := by
  obtain ⟨wa, pa, ts, _, _, h1, h2, h3, h4⟩ := h
  exact ⟨wa, pa, ts, h1, h2, h3, h4⟩
theorem RowOff.keep {H H' : Hp} {l t : Addr} {r : Row} (h : RowOff H l t r) (s : Same H H') : RowOff H' l t r := by
  obtain ⟨wa, pa, ts, n1, n2, h1, h2, h3, h4⟩ := h
  exact ⟨wa, pa, ts, n1, n2, s _ _ h1, s _ _ h2, s _ _ h3, h4.mono fun _ _ z => s _ _ z⟩
theorem RowOff.upd {H : Hp} {l t : Addr} {r : Row} {xs ys : List V} (h : RowOff H l t r) (hl : H l = some (.lst xs)) : RowOff (upd H l (.lst ys)) l t r := by
  obtain ⟨wa, pa, ts, n1, n2, h1, h2, h3, h4⟩ := h
  have k : ∀ b zs, H b = some (.tup zs) → (L2.upd H l (.lst ys)) b = some (.tup zs) := fun b zs e => by
    rw [upd_ne (ne_of e hl (by intro z; cases z))]
    exact e
  exact ⟨wa, pa, ts, n1, n2, k _ _ h1, by rw [upd_ne n1]; exact h2, by rw [upd_ne n2]; exact h3, h4.mono fun _ _ z => k _ _ z⟩
def RowsOff (H : Hp) (l : Addr) (RR : List Row) : Prop := ∃ ts : List Addr, H l = some (.lst (ts.map V.ref)) ∧ Paired (fun t r => RowOff H l t r) ts RR
theorem RowsOff.keep {H H' : Hp} {l : Addr} {RR : List Row} (h : RowsOff H l RR) (s : Same H H') : RowsOff H' l RR := by
  obtain ⟨ts, h1, h2⟩ := h
  exact ⟨ts, s _ _ h1, h2.mono fun _ _ z => z.keep s⟩
theorem RowsOff.push {H : Hp} {l t : Addr} {ts : List Addr} {RR : List Row} {r : Row} (hl : H l = some (.lst (ts.map V.ref))) (h : Paired (fun t r => RowOff H l t r) ts RR) (ht : RowOff H l t r) : RowsOff (upd H l (.lst (ts.map V.ref ++ [.ref t]))) l (RR ++ [r]) :=
  ⟨ts ++ [t], by rw [upd_same, List.map_append]; rfl, Paired.snoc (h.mono fun _ _ z => z.upd hl) (ht.upd hl)⟩
section
variable {P : Program} {w : World} {K : PySem.W.Frag} {mg : Str → Option Value} {base : Heap}
theorem scLAll : FnScope ["_law_n", "_law_m", "_law_order", "_law_rows", "_law_at", "_law_longer", "_law_waiting", "_law_pairs", "_law_found", "_law_mates", "_law_one", "_law_other"] ["_law_n", "_law_m"] (defScope sLAll) := ⟨rfl, rfl, rfl, by decide +kernel, rfl, by decide +kernel, by decide +kernel⟩
def spLAll : Sp := fun vs H Q _ => ∃ (n m : Nat), vs = [nv n, nv m] ∧ n + m ≤ 12 ∧ ∀ H' p xs, Same H H' → MatsAt H' p n m xs → xs.map (·.2) = foundN n m → Q (.ref p) H'
set_option maxHeartbeats 16000000 in
theorem ok_lall {f : Addr} {fd : FuncData} (F : Fun K "_law_all" "_law_all" sLAll f fd) (ml : mg "list" = none) (mr : mg "range" = none) (mn : mg "len" = none) (mt : mg "tuple" = none) (ms : mg "sorted" = none) : FnOk P w K mg base CX0 1 f fd ["_law_n", "_law_m"] spLAll := by
  refine F.ok scLAll (fun vs H Q E h => ?_) (fun cdv A0 outer s H vs Q E hr h => ?_)
  · obtain ⟨n, m, rfl, _⟩ := h
    rfl
  · obtain ⟨n, m, rfl, hlen, q⟩ := h
    have nd := scLAll.nd
    refine ⟨_, pss_cons (ps_set (i := 2) nd rfl (.inl rfl) (pe_op op_cat (pe_listRg rfl rfl ml (prg_1 rfl mr (pv 0)))
        (pe_listRg3 rfl rfl ml rfl mr (pa_cons (pe_op op_sub (pe_op op_add (pv 0) (pv 1)) pe_int) (pa_cons (pe_op op_sub (pv 0) pe_int) (pa_cons (pe_un un_neg pe_int) pa_nil))))))
      (pss_cons (ps_set (i := 3) nd rfl (.inl rfl) (pe_lst (pa_cons (pe_tup (pa_cons (pe_lst pa_nil) (pa_cons (pe_lst pa_nil) pa_nil))) pa_nil)))
      (pss_cons (ps_for PassesOwn.never rfl (pi_range1 rfl mr (pa_cons (pe_op op_add (pv 0) (pv 1)) pa_nil)) (pg_name (i := 4) nd rfl (.inl rfl))
        (pss_cons (ps_set (i := 5) nd rfl (.inl rfl) (pe_lst pa_nil))
        (pss_cons (ps_for PassesOwn.never rfl (pi_list (pv 3)) (pg_tup rfl (pgs_cons (pg_name (i := 6) nd rfl (.inl rfl)) (pgs_cons (pg_name (i := 7) nd rfl (.inl rfl)) pgs_nil)))
          (pss_cons (ps_if (pt_cmpR op_lt (pe_op op_add (pe_callB call_len_seq (by rfl) mn PySem.boot_len (pa_cons (pv 6) pa_nil)) pe_int) (pe_op op_sub (pe_op op_add (pv 0) (pv 1)) (pv 4)) (nomark _))
            (pss_one (ps_expr (pe_bm PySem.F.plainAttrs_list PySem.F.slot_list_append PySem.F.type_list_append mt_append (pv 5) (pa_cons (pe_tup (pa_cons (pe_op op_cat (pv 6) (pe_lst (pa_cons (pe_ix ix_list (pv 2) (pv 4) (fun _ _ => rfl)) pa_nil))) (pa_cons (pv 7) pa_nil))) pa_nil)))) pss_nil)
          (pss_one (ps_if (pt_cmpR (op_neD hr.units) (pv 6) (pe_lst pa_nil) (nomark _))
            (pss_one (ps_expr (pe_bm PySem.F.plainAttrs_list PySem.F.slot_list_append PySem.F.type_list_append mt_append (pv 5) (pa_cons (pe_tup (pa_cons (pe_slice sl_list (pv 6) po_none (po_some (pe_un un_neg pe_int))) (pa_cons (pe_op op_cat (pv 7) (pe_lst (pa_cons (pe_tup (pa_cons (pe_ix ix_list (pv 6) (pe_un un_neg pe_int) (fun _ _ => rfl)) (pa_cons (pe_ix ix_list (pv 2) (pv 4) (fun _ _ => rfl)) pa_nil))) pa_nil))) pa_nil))) pa_nil)))) pss_nil))))
        (pss_one (ps_set (i := 3) nd rfl (.inl rfl) (pv 5))))))
      (pss_cons (ps_set (i := 8) nd rfl (.inl rfl) (pe_lst pa_nil))
      (pss_cons (ps_for PassesOwn.never rfl (pi_list (pv 3)) (pg_tup rfl (pgs_cons (pg_name (i := 6) nd rfl (.inl rfl)) (pgs_cons (pg_name (i := 7) nd rfl (.inl rfl)) pgs_nil)))
        (pss_cons (ps_set (i := 9) nd rfl (.inl rfl) (pe_op op_rep (pe_lst (pa_cons pe_int pa_nil)) (pe_op op_add (pv 0) (pv 1))))
        (pss_cons (ps_for PassesOwn.never rfl (pi_list (pv 7)) (pg_tup rfl (pgs_cons (pg_name (i := 10) nd rfl (.inl rfl)) (pgs_cons (pg_name (i := 11) nd rfl (.inl rfl)) pgs_nil)))
          (pss_cons (ps_asg (pv 11) (pg_sub (pv 9) (pv 10) set_list))
          (pss_one (ps_asg (pv 10) (pg_sub (pv 9) (pv 11) set_list)))))
        (pss_one (ps_expr (pe_bm PySem.F.plainAttrs_list PySem.F.slot_list_append PySem.F.type_list_append mt_append (pv 8) (pa_cons (pe_tup (pa_cons (pv 0) (pa_cons (pv 1) (pa_cons (pe_callTy call_tuple_of (by rfl) mt boot_tuple (pa_cons (pv 9) pa_nil)) pa_nil)))) pa_nil)))))))
      (pss_one (ps_ret (pe_callB (cr_sortedM hr.units) (by rfl) ms (by decide +kernel) (pa_cons (pv 8) pa_nil)))))))), ?_⟩
    -- order
    refine ⟨_, rfl, n, rfl, RgOk.of_le (by omega) (by omega) (by omega) (by omega), fun p np => ?_⟩
    refine ⟨_, rfl, _, rfl, _, _, rfl, rfl, _, _, rfl, rfl, _, rfl, _, _, rfl, rfl, _, rfl, ?_⟩
    refine ⟨_, _, _, _, rfl, RgC.neg (by omega) (by omega) (by omega) (by omega), by omega, fun p2 np2 => ?_⟩
    have ne : p ≠ p2 := fun e => by rw [← e, upd_same] at np2; cases np2
    refine ⟨p, p2, _, _, rfl, rfl, Eq.trans (upd_ne ne) upd_same, upd_same, ?_, fun o no => ?_⟩
    · rw [rgV_length]
      unfold rg3
      rw [List.length_map, List.length_range]
      refine sizeLine_big ?_
      omega
    have ho : (rgV 0 (n : Int)) ++ rg3 ((n : Int) + m - 1) (-1) (((n : Int) + m - 1) - ((n : Int) - 1)).toNat = nvs (ord n m) := by
      rw [rgV_nat, rg3_nat, nvs_app, ← ord_split]
    obtain ⟨H1, hH1⟩ : ∃ H1, H1 = upd (upd (upd H p (.lst (rgV 0 (n : Int)))) p2 (.lst (rg3 ((n : Int) + m - 1) (-1) (((n : Int) + m - 1) - ((n : Int) - 1)).toNat))) o (.lst ((rgV 0 (n : Int)) ++ rg3 ((n : Int) + m - 1) (-1) (((n : Int) + m - 1) - ((n : Int) - 1)).toNat)) := ⟨_, rfl⟩
    have s1 : Same H H1 := by rw [hH1]; exact (same_new np).trans ((same_new np2).trans (same_new no))
    have ho1 : H1 o = some (.lst (nvs (ord n m))) := by rw [hH1, upd_same, ho]
    rw [← hH1]
    -- rows = [([], [])]
    refine ⟨Nat.zero_le _, fun w0 nw0 => ⟨Nat.zero_le _, fun p0 np0 => ⟨by show 2 ≤ sizeLine; decide, fun t0 nt0 => ⟨by show 1 ≤ sizeLine; decide, fun q0 nq0 => ?_⟩⟩⟩⟩
    have nw0p : w0 ≠ p0 := fun e => by rw [← e, upd_same] at np0; cases np0
    have nw0t : w0 ≠ t0 := fun e => by rw [← e, upd_ne nw0p, upd_same] at nt0; cases nt0
    have np0t : p0 ≠ t0 := fun e => by rw [← e, upd_same] at nt0; cases nt0
    have nt0q : t0 ≠ q0 := fun e => by rw [← e, upd_same] at nq0; cases nq0
    have np0q : p0 ≠ q0 := fun e => by rw [← e, upd_ne np0t, upd_same] at nq0; cases nq0
    have nw0q : w0 ≠ q0 := fun e => by rw [← e, upd_ne nw0t, upd_ne nw0p, upd_same] at nq0; cases nq0
    have s2 := (same_new (o := .lst []) nw0).trans ((same_new (o := .lst []) np0).trans ((same_new (o := .tup [.ref w0, .ref p0]) nt0).trans (same_new (o := .lst [.ref t0]) nq0)))
    refine ⟨_, rfl, _, rfl, _, _, rfl, rfl, _, rfl, by omega, by omega, for_range (lo := 0) (n := n + m) (fun i σ H' => ∃ q y4 y5 y6 y7, σ = [some (nv n), some (nv m), some (.ref o), some (.ref q), y4, y5, y6, y7, none, none, none, none] ∧ Same H1 H' ∧ RowsOff H' q (rowsN n m i))
      ⟨q0, none, none, none, none, rfl, s2, [t0], upd_same, .cons ⟨w0, p0, [], nw0q, np0q, ?_, ?_, ?_, .nil⟩ .nil⟩ ?_ ?_⟩
    · rw [upd_ne nt0q, upd_same]
    · rw [upd_ne nw0q, upd_ne nw0t, upd_ne nw0p, upd_same]; rfl
    · rw [upd_ne np0q, upd_ne np0t, upd_same]; rfl
    · rintro i σ Hb hi ⟨q, y4, y5, y6, y7, rfl, sb, hq⟩
      have ei : ((0 : Int) + (i : Int)) = (i : Int) := Int.zero_add _
      rw [ei]
      obtain ⟨ts, hts, pt⟩ := id hq
      have hob := sb _ _ ho1
      have lrows : (rowsN n m i).length ≤ 4096 := Nat.le_trans (rowsN_len n m i) (by
        have : 2 ^ i ≤ 2 ^ 12 := Nat.pow_le_pow_right (by decide) (by omega)
        exact this)
      -- longer = []
      refine ⟨Nat.zero_le _, fun l nl => ?_⟩
      have s3 : Same Hb (upd Hb l (.lst [])) := same_new nl
      have nlH1 : H1 l = none := sb.free nl
      refine ⟨_, rfl, q, rfl, ⟨_, SqL.of (s3 _ _ hts)⟩, for_list (K := K) (a := q) (xs := ts.map V.ref) (fun j σ H' => ∃ y6 y7, σ = [some (nv n), some (nv m), some (.ref o), some (.ref q), some (nv i), some (.ref l), y6, y7, none, none, none, none] ∧ Same Hb H' ∧ RowsOff H' l (((rowsN n m i).take j).flatMap (stepRow (n + m) i (rho n m i))))
        ⟨y6, y7, rfl, s3, [], upd_same, .nil⟩ (fun j σ H' _ ⟨_, _, _, s, _⟩ => SqL.of (s _ _ hts)) ?_ ?_⟩
      · rintro j x σ H2 hx ⟨y6, y7, rfl, s4, hl⟩
        have hj : j < (rowsN n m i).length := by
          have := (List.getElem?_eq_some_iff.mp hx).1
          rw [List.length_map, pt.length] at this; exact this
        obtain ⟨r, hr⟩ : ∃ r, (rowsN n m i)[j]? = some r := ⟨_, List.getElem?_eq_getElem hj⟩
        obtain ⟨tj, htj, hrow⟩ := paired_get pt hr
        have ex : x = .ref tj := by
          rw [List.getElem?_map, htj] at hx
          exact (Option.some.inj hx).symm
        subst ex
        obtain ⟨wa, pa, ps, nwq, npq, r1, r2, r3, r4⟩ := hrow
        have pegs := rows_pegs i (Nat.le_of_lt hi) r (List.mem_of_getElem? hr)
        have nwl : wa ≠ l := ne_of_none r2 nl
        have npl : pa ≠ l := ne_of_none r3 nl
        have lacc : (((rowsN n m i).take j).flatMap (stepRow (n + m) i (rho n m i))).length ≤ 8192 := by
          have := flatMap_len (stepRow (n + m) i (rho n m i)) 2 ((rowsN n m i).take j) fun x _ => stepRow_len _ _ _ x
          rw [List.length_take] at this
          omega
        -- waiting, pairs
        refine ⟨tj, _, rfl, SqT.of (s4 _ _ r1), rfl, _, _, rfl, _, _, rfl, rfl, ?_⟩
        refine ⟨_, rfl, wa, _, rfl, .inl (SqL.of (s4 _ _ r2)), _, _, rfl, rfl, _, rfl, _, rfl, _, _, rfl, rfl, _, rfl, _, _, rfl, rfl, _, _, rfl, rfl, ?_⟩
        rw [nvs_len]
        have hgo : ∀ H', Same Hb H' → atI (nvs (ord n m)) (i : Int) = some (nv (rho n m i)) := fun _ _ => atI_nat (by rw [nvs_get (by rw [ord_len]; exact hi), ord_get hi])
        have hat := hgo Hb (Same.refl _)
        have first : ∃ A : List Row, A = (if r.1.length + 1 < n + m - i then [(r.1 ++ [rho n m i], r.2)] else []) := ⟨_, rfl⟩
        obtain ⟨A, hA⟩ := first
        obtain ⟨tl, hl0, pl⟩ := id hl
        by_cases c1 : r.1.length + 1 < n + m - i
        focus
          rw [if_pos c1] at hA
          refine ⟨true, bl_t (by omega), iteT ?_⟩
          refine ⟨_, rfl, .inl ⟨rfl, _, SqL.of hl0⟩, _, rfl, _, rfl, _, rfl, o, _, _, nv (rho n m i), rfl, rfl, SqL.of (s4 _ _ hob), hat, by show 1 ≤ sizeLine; decide, fun p1 np1 => ?_⟩
          have a1 := same_new (o := .lst [nv (rho n m i)]) np1
          refine ⟨wa, p1, _, _, rfl, rfl, a1 _ _ (s4 _ _ r2), upd_same, ?_, fun p2 np2 => ?_⟩
          · rw [nvs_len]
            show r.1.length + 1 ≤ sizeLine
            exact sizeLine_big (by omega)
          have a2 := same_new (o := .lst (nvs r.1 ++ [nv (rho n m i)])) np2
          refine ⟨_, rfl, by show 2 ≤ sizeLine; decide, fun t1 nt1 => ?_⟩
          have a3 := same_new (o := .tup [.ref p2, .ref pa]) nt1
          have a13 := a1.trans (a2.trans a3)
          refine ⟨l, _, _, rfl, rfl, a13 _ _ hl0, ?_, ?_⟩
          · rw [List.length_map, pl.length]
            exact sizeLine_lt (by omega)
          have np2l : p2 ≠ l := (ne_of_none (a1 _ _ hl0) np2).symm
          have hx1 := RowsOff.push (t := t1) (r := (r.1 ++ [rho n m i], r.2)) (a13 _ _ hl0) (pl.mono fun _ _ z => z.keep a13) ⟨p2, pa, ps, np2l, npl, upd_same, by
              have := a3 _ _ (upd_same (H := upd H2 p1 (.lst [nv (rho n m i)])) (a := p2) (o := .lst (nvs r.1 ++ [nv (rho n m i)])))
              rw [this]
              show some (HO.lst (nvs r.1 ++ nvs [rho n m i])) = _
              rw [nvs_app], a13 _ _ (s4 _ _ r3), r4.mono fun _ _ z => a13 _ _ (s4 _ _ z)⟩
          have sX := same_upd2 (o := .lst (tl.map V.ref ++ [.ref t1])) (s4.trans a13) nl
          rw [← hA] at hx1
        rotate_left
        focus
          rw [if_neg c1] at hA
          refine ⟨false, bl_f (by omega), iteF ?_⟩
          have hx1 : RowsOff H2 l (((rowsN n m i).take j).flatMap (stepRow (n + m) i (rho n m i)) ++ A) := by rw [hA, List.append_nil]; exact hl
          have sX := s4
        all_goals
          obtain ⟨tl2, hl2, pl2⟩ := id hx1
          have lA : A.length ≤ 1 := by
            rw [hA]
            first | exact Nat.le_refl 1 | exact Nat.zero_le 1
          refine ⟨_, rfl, Nat.zero_le _, fun z nz => ?_⟩
          have b1 := same_new (o := .lst []) nz
          have sZ := sX.trans b1
          refine ⟨_, _, dp_list (sZ _ _ r2), dp_nil upd_same, shaped_list _, shaped_list [], ?_⟩
          rw [eqv_nil, castL_empty]
          have fin : ∀ {Hz : Hp} {B : List Row}, Same Hb Hz → RowsOff Hz l (((rowsN n m i).take j).flatMap (stepRow (n + m) i (rho n m i)) ++ A ++ B) → B = (if r.1 = [] then [] else [(r.1.dropLast, r.2 ++ [(r.1.getLast?.getD 0, rho n m i)])]) → RowsOff Hz l (((rowsN n m i).take (j + 1)).flatMap (stepRow (n + m) i (rho n m i))) := fun {Hz B} sz hz eB => by
            rw [List.take_add_one, hr, List.flatMap_append]
            have : stepRow (n + m) i (rho n m i) r = A ++ B := by
              rw [hA, eB]
              unfold stepRow
              first | rw [if_pos c1] | rw [if_neg c1]
            simp only [Option.toList, List.flatMap_cons, List.flatMap_nil, List.append_nil]
            rw [this, ← List.append_assoc]
            exact hz
          by_cases wne : r.1 = []
          · have em : r.1.isEmpty = true := by rw [wne]; rfl
            rw [em]
            refine ⟨false, rfl, iteF ?_⟩
            exact ⟨_, _, rfl, sZ, fin (B := []) sZ (by rw [List.append_nil]; exact hx1.keep b1) (if_pos wne).symm⟩
          · have em : r.1.isEmpty = false := by
              cases h1 : r.1 with
              | nil => exact absurd h1 wne
              | cons x r => rfl
            rw [em]
            refine ⟨true, rfl, iteT ?_⟩
            have es := last_split wne
            have hlast : atI (nvs r.1) (-1) = some (nv (r.1.getLast?.getD 0)) := by
              have := atI_last (nvs r.1.dropLast) (nv (r.1.getLast?.getD 0))
              rw [show nvs r.1.dropLast ++ [nv (r.1.getLast?.getD 0)] = nvs (r.1.dropLast ++ [r.1.getLast?.getD 0]) from nvs_app r.1.dropLast [r.1.getLast?.getD 0], ← es] at this
              exact this
            have hlz := b1 _ _ hl2
            refine ⟨_, rfl, .inl ⟨rfl, _, SqL.of hlz⟩, _, rfl, 1, rfl, -1, rfl, wa, _, rfl, SqL.of (sZ _ _ r2), fun p3 np3 => ?_⟩
            have b2 := same_new (o := .lst (cutV (nvs r.1) none (some (-1)))) np3
            have s5 := sZ.trans b2
            refine ⟨_, rfl, _, rfl, 1, rfl, wa, _, -1, nv (r.1.getLast?.getD 0), rfl, rfl, SqL.of (s5 _ _ r2), hlast, _, rfl, _, rfl, o, _, _, nv (rho n m i), rfl, rfl, SqL.of (s5 _ _ hob), hat, by show 2 ≤ sizeLine; decide, fun t2 nt2 => ?_⟩
            have b3 := same_new (o := .tup [nv (r.1.getLast?.getD 0), nv (rho n m i)]) nt2
            refine ⟨by show 1 ≤ sizeLine; decide, fun p4 np4 => ?_⟩
            have b4 := same_new (o := .lst [.ref t2]) np4
            refine ⟨pa, p4, _, _, rfl, rfl, b4 _ _ (b3 _ _ (s5 _ _ r3)), upd_same, ?_, fun p5 np5 => ?_⟩
            · rw [List.length_map, r4.length]
              show r.2.length + 1 ≤ sizeLine
              exact sizeLine_big (by omega)
            have b5 := same_new (o := .lst (ps.map V.ref ++ [.ref t2])) np5
            refine ⟨by show 2 ≤ sizeLine; decide, fun t3 nt3 => ?_⟩
            have b6 := same_new (o := .tup [.ref p3, .ref p5]) nt3
            have bz := b2.trans (b3.trans (b4.trans (b5.trans b6)))
            have hl7 := bz _ _ hlz
            refine ⟨l, _, _, rfl, rfl, hl7, ?_, ?_⟩
            · rw [List.length_map, pl2.length, List.length_append]
              exact sizeLine_lt (by omega)
            have np3l : p3 ≠ l := (ne_of_none hlz np3).symm
            have np5l : p5 ≠ l := (ne_of_none (b4 _ _ (b3 _ _ (b2 _ _ hlz))) np5).symm
            have e3 := (b3.trans (b4.trans (b5.trans b6))) p3 _ upd_same
            have e2 := (b4.trans (b5.trans b6)) t2 _ upd_same
            have e5 := b6 p5 _ upd_same
            have hx2 := RowsOff.push (t := t3) (r := (r.1.dropLast, r.2 ++ [(r.1.getLast?.getD 0, rho n m i)])) hl7 (pl2.mono fun _ _ z => (z.keep b1).keep bz) ⟨p3, p5, ps ++ [t2], np3l, np5l, upd_same, by
                rw [e3, cut_last]
                have : (nvs r.1).dropLast = nvs r.1.dropLast := by unfold nvs; rw [List.map_dropLast]
                rw [this], by rw [e5, List.map_append]; rfl, Paired.snoc (r4.mono fun _ _ z => bz _ _ (sZ _ _ z)) e2⟩
            have sY := same_upd2 (o := .lst (tl2.map V.ref ++ [.ref t3])) (sZ.trans bz) nl
            exact ⟨_, _, rfl, sY, fin sY hx2 (if_neg wne).symm⟩
      · rintro σ H2 ⟨y6, y7, rfl, s4, hl⟩
        rw [List.length_map, pt.length, List.take_length] at hl
        exact ⟨_, rfl, l, _, _, _, _, rfl, sb.trans s4, hl⟩
    · rintro σ H2 ⟨q1, y4, y5, y6, y7, rfl, sb, hq⟩
      obtain ⟨ts, hts, pt⟩ := id hq
      have lrows : (rowsN n m (n + m)).length ≤ 4096 := Nat.le_trans (rowsN_len n m (n + m)) (by
        have : 2 ^ (n + m) ≤ 2 ^ 12 := Nat.pow_le_pow_right (by decide) (by omega)
        exact this)
      refine ⟨Nat.zero_le _, fun f0 nf0 => ?_⟩
      have s3 : Same H2 (upd H2 f0 (.lst [])) := same_new nf0
      refine ⟨_, rfl, q1, rfl, ⟨_, SqL.of (s3 _ _ hts)⟩, for_list (K := K) (a := q1) (xs := ts.map V.ref) (fun j σ H' => ∃ y4 y5 y6 y7 y9 y10 y11, σ = [some (nv n), some (nv m), some (.ref o), some (.ref q1), y4, y5, y6, y7, some (.ref f0), y9, y10, y11] ∧ Same H2 H' ∧ ∃ zs : List (V × List Nat), H' f0 = some (.lst (zs.map (·.1))) ∧ zs.map (·.2) = ((rowsN n m (n + m)).take j).map (fun r => applyP (n + m) r.2) ∧ ∀ z ∈ zs, MatAt H' z.1 n m z.2)
        ⟨y4, y5, y6, y7, none, none, none, rfl, s3, [], upd_same, rfl, fun z hz => nomatch hz⟩ (fun j σ H' _ ⟨_, _, _, _, _, _, _, _, s, _⟩ => SqL.of (s _ _ hts)) ?_ ?_⟩
      · rintro j x σ H3 hx ⟨y4, y5, y6, y7, y9, y10, y11, rfl, s4, zs, hD, ez, hz⟩
        have hj : j < (rowsN n m (n + m)).length := by
          have := (List.getElem?_eq_some_iff.mp hx).1
          rw [List.length_map, pt.length] at this; exact this
        obtain ⟨r, hr⟩ : ∃ r, (rowsN n m (n + m))[j]? = some r := ⟨_, List.getElem?_eq_getElem hj⟩
        obtain ⟨tj, htj, hrow⟩ := paired_get pt hr
        have ex : x = .ref tj := by
          rw [List.getElem?_map, htj] at hx
          exact (Option.some.inj hx).symm
        subst ex
        obtain ⟨wa, pa, ps, nwq, npq, r1, r2, r3, r4⟩ := hrow
        have pegs := rows_pegs (n + m) (Nat.le_refl _) r (List.mem_of_getElem? hr)
        refine ⟨tj, _, rfl, SqT.of (s4 _ _ r1), rfl, _, _, rfl, _, _, rfl, rfl, ?_⟩
        -- mates = [0] * (n + m)
        refine ⟨by show 1 ≤ sizeLine; decide, fun z nz => ?_⟩
        refine ⟨_, rfl, _, rfl, _, _, rfl, rfl, z, _, _, rfl, rfl, upd_same, by omega, by omega, ?_, fun rr nrr => ?_⟩
        · show 1 * ((n : Int) + (m : Int)).toNat ≤ sizeLine
          exact sizeLine_big (by omega)
        have e0 : (List.replicate ((n : Int) + (m : Int)).toNat [V.int 0]).flatten = nvs (List.replicate (n + m) 0) := by
          rw [rep_zero, show ((n : Int) + (m : Int)).toNat = n + m by omega]
        have s5 := (same_new (o := .lst [V.int 0]) nz).trans (same_new (o := .lst (List.replicate ((n : Int) + (m : Int)).toNat [V.int 0]).flatten) nrr)
        have nrrH : H3 rr = none := (same_new (o := .lst [V.int 0]) nz).free nrr
        have s6 := s4.trans s5
        refine ⟨_, rfl, pa, rfl, ⟨_, SqL.of (s6 _ _ r3)⟩, for_list (K := K) (a := pa) (xs := ps.map V.ref) (fun i σ H' => ∃ y10 y11, σ = [some (nv n), some (nv m), some (.ref o), some (.ref q1), y4, y5, some (.ref wa), some (.ref pa), some (.ref f0), some (.ref rr), y10, y11] ∧ Same H3 H' ∧ H' rr = some (.lst (nvs ((r.2.take i).foldl put2 (List.replicate (n + m) 0)))))
          ⟨y10, y11, rfl, s5, by rw [upd_same]; exact congrArg some (congrArg HO.lst e0)⟩ (fun j σ H' _ ⟨_, _, _, s, _⟩ => SqL.of (s _ _ (s4 _ _ r3))) ?_ ?_⟩
        · rintro i x σ H4 hx ⟨y10, y11, rfl, s7, hrr⟩
          have hi : i < r.2.length := by
            have := (List.getElem?_eq_some_iff.mp hx).1
            rw [List.length_map, r4.length] at this; exact this
          obtain ⟨p, hp⟩ : ∃ p, r.2[i]? = some p := ⟨_, List.getElem?_eq_getElem hi⟩
          obtain ⟨ti, hti, hpt⟩ := paired_get r4 hp
          have ex : x = .ref ti := by
            rw [List.getElem?_map, hti] at hx
            exact (Option.some.inj hx).symm
          subst ex
          have hb := pegs.2.1 p (List.mem_of_getElem? hp)
          refine ⟨ti, _, rfl, SqT.of (s7 _ _ (s4 _ _ hpt)), rfl, _, _, rfl, _, _, rfl, rfl, ?_⟩
          refine ⟨_, rfl, _, rfl, _, rfl, rr, _, _, p.1, rfl, rfl, hrr, by rw [nvs_len, foldl_put2_len, List.length_replicate]; exact ixN_nat hb.1, ?_⟩
          rw [nvs_set]
          refine ⟨_, rfl, _, rfl, _, rfl, rr, _, _, p.2, rfl, rfl, upd_same, by rw [nvs_len, List.length_set, foldl_put2_len, List.length_replicate]; exact ixN_nat hb.2, ?_⟩
          rw [nvs_set, upd_upd]
          refine ⟨_, _, rfl, same_upd2 s7 nrrH, ?_⟩
          rw [upd_same, List.take_add_one, hp, List.foldl_append]
          rfl
        · rintro σ H4 ⟨y10, y11, rfl, s7, hrr⟩
          rw [List.length_map, r4.length, List.take_length] at hrr
          refine ⟨_, rfl, .inl ⟨rfl, _, SqL.of (s7 _ _ hD)⟩, _, rfl, _, rfl, _, rfl, rr, _, rfl, .inl ⟨SqL.of hrr, fun t nt => ?_⟩⟩
          refine ⟨by show 3 ≤ sizeLine; decide, fun v nv0 => ?_⟩
          have ntv : t ≠ v := fun e => by rw [← e, upd_same] at nv0; cases nv0
          have s8 := s7.trans ((same_new (o := .tup (nvs (r.2.foldl put2 (List.replicate (n + m) 0)))) nt).trans (same_new (o := .tup [nv n, nv m, .ref t]) nv0))
          have hv : MatAt (upd (upd H4 t (.tup (nvs (r.2.foldl put2 (List.replicate (n + m) 0))))) v (.tup [nv n, nv m, .ref t])) (.ref v) n m (applyP (n + m) r.2) := ⟨v, t, rfl, upd_same, by rw [upd_ne ntv, upd_same]; rfl⟩
          refine ⟨f0, _, _, rfl, rfl, s8 _ _ hD, ?_, ?_⟩
          · have := congrArg List.length ez
            rw [List.length_map, List.length_map, List.length_take] at this
            rw [List.length_map]
            exact sizeLine_lt (by omega)
          refine ⟨_, _, _, _, _, _, _, rfl, same_upd2 (s4.trans s8) nf0, zs ++ [(.ref v, applyP (n + m) r.2)], ?_, ?_, fun z hzz => ?_⟩
          · rw [upd_same, List.map_append]; rfl
          · rw [List.map_append, ez, List.take_add_one, hr, List.map_append]; rfl
          · have k : Tk (upd (upd H4 t (.tup (nvs (r.2.foldl put2 (List.replicate (n + m) 0))))) v (.tup [nv n, nv m, .ref t])) (upd (upd (upd H4 t (.tup (nvs (r.2.foldl put2 (List.replicate (n + m) 0))))) v (.tup [nv n, nv m, .ref t])) f0 (.lst (zs.map (·.1) ++ [.ref v]))) := sameBut_upd.tk (s8 _ _ hD)
            rcases List.mem_append.mp hzz with a | a
            · exact ((hz z a).tk (tk_same s8)).tk k
            · rw [List.mem_singleton.mp a]
              exact hv.tk k
      · rintro σ H3 ⟨y4, y5, y6, y7, y9, y10, y11, rfl, s4, zs, hD, ez, hz⟩
        rw [List.length_map, pt.length, List.take_length] at ez
        refine ⟨_, rfl, f0, zs, n, m, rfl, SqL.of hD, fun x hx => (hz x hx).dp, fun p np => ?_⟩
        exact q _ p zs (s1.trans (sb.trans (s4.trans (same_new np)))) ⟨upd_same, fun x hx => (hz x hx).tk (tk_same (same_new np))⟩ ez
end
end HM

/-! The law's exchange of above and below. -/
namespace HM
open PySem PySem.Spec PyProof.Rows L2
section
variable {P : Program} {w : World} {K : PySem.W.Frag} {mg : Str → Option Value} {base : Heap}
theorem cut_drop (xs : List V) (n : Nat) (h : n ≤ xs.length) : cutV xs (some (n : Int)) none = xs.drop n := by
  unfold cutV
  have a : HT.sIx xs.length 0 (some (n : Int)) = n := by
    unfold HT.sIx
    simp only
    rw [if_neg (by omega)]
    omega
  have b : HT.sIx xs.length xs.length none = xs.length := rfl
  rw [a, b]
  exact List.take_of_length_le (by rw [List.length_drop]; omega)
theorem cut_take (xs : List V) (n : Nat) (h : n ≤ xs.length) : cutV xs none (some (n : Int)) = xs.take n := by
  unfold cutV
  have a : HT.sIx xs.length xs.length (some (n : Int)) = n := by
    unfold HT.sIx
    simp only
    rw [if_neg (by omega)]
    omega
  have b : HT.sIx xs.length 0 none = 0 := rfl
  rw [a, b, Nat.sub_zero, List.drop_zero]
theorem scUpside : FnScope ["_law_mat_here", "_law_n", "_law_m", "_law_mates", "_law_mate"] ["_law_mat_here"] (defScope sUpside) := ⟨rfl, rfl, rfl, by decide +kernel, rfl, by decide +kernel, by decide +kernel⟩
def spUpside : Sp := fun vs H Q _ => ∃ (v : V) (n m : Nat) (L : List Nat), vs = [v] ∧ MatAt H v n m L ∧ IsMat n m L ∧ n + m ≤ 1000 ∧ ∀ H' v', Same H H' → MatAt H' v' m n (upN n m L) → Q v' H'
theorem ok_upside {f : Addr} {fd : FuncData} (F : Fun K "_law_upside" "_law_upside" sUpside f fd) (mt : mg "tuple" = none) : FnOk P w K mg base CX0 1 f fd ["_law_mat_here"] spUpside := by
  refine F.ok scUpside (fun vs H Q E h => ?_) (fun cdv A0 outer s H vs Q E hr h => ?_)
  · obtain ⟨v, n, m, L, rfl, _⟩ := h
    rfl
  · obtain ⟨v, n, m, L, rfl, h1, hL, hlen, q⟩ := h
    obtain ⟨a1, t1, rfl, ha1, ht1⟩ := id h1
    have nd := scUpside.nd
    refine ⟨_, pss_cons (ps_asg (pe_tup (pa_cons (pe_ix ix_tup (pv 0) pe_int (fun _ _ => rfl)) (pa_cons (pe_ix ix_tup (pv 0) pe_int (fun _ _ => rfl)) pa_nil)))
        (pg_tup rfl (pgs_cons (pg_name (i := 1) nd rfl (.inr rfl)) (pgs_cons (pg_name (i := 2) nd rfl (.inr rfl)) pgs_nil))))
      (pss_cons (ps_setLc (i := 3) (own := [("_law_mate", 4)]) (g := gName 4) (by rfl) nd rfl rfl (sw_true rfl rfl rfl (by decide +kernel)) (pi_tup (pe_ix ix_tup (pv 0) pe_int (fun _ _ => rfl)))
          (blkOk_by (own := [("_law_mate", 4)]) (N := ["_law_mat_here", "_law_n", "_law_m", "_law_mates", "_law_mate"]) (sc := defScope sUpside) (by decide +kernel)) (fun _ _ _ _ _ => pg_name (i := 4) nd rfl (Or.inl rfl)) (fun _ _ _ _ _ => pts_nil)
          (fun _ _ _ _ _ => pe_ifExp (pt_cmpR op_ge (pv 4) (pv 1) (nomark _)) (pe_op op_sub (pv 4) (pv 1)) (pe_op op_add (pv 4) (pv 2))))
      (pss_one (ps_ret (pe_tup (pa_cons (pv 2) (pa_cons (pv 1) (pa_cons (pe_callTy call_tuple_of (by rfl) mt boot_tuple (pa_cons (pe_op op_cat (pe_slice sl_list (pv 3) (po_some (pv 1)) po_none) (pe_slice sl_list (pv 3) po_none (po_some (pv 1)))) pa_nil)) pa_nil))))))), ?_⟩
    refine ⟨_, rfl, a1, _, 0, nv n, rfl, rfl, SqT.of ha1, atI_nat (j := 0) rfl, _, rfl, a1, _, 1, nv m, rfl, rfl, SqT.of ha1, atI_nat (j := 1) rfl, by show 2 ≤ sizeLine; decide, fun t0 nt0 => ?_⟩
    refine ⟨t0, _, rfl, SqT.of upd_same, rfl, _, _, rfl, _, _, rfl, rfl, ?_⟩
    have s0 : Same H (upd H t0 (.tup [nv n, nv m])) := same_new nt0
    refine ⟨_, rfl, a1, _, 2, .ref t1, rfl, rfl, SqT.of (s0 _ _ ha1), atI_nat (j := 2) rfl, ?_⟩
    refine ⟨t1, rfl, ⟨_, SqT.of (s0 _ _ ht1)⟩, fun D nD => ?_⟩
    refine lc_tup (K := K) (a := t1) (xs := nvs L) (fun i H' => Same (upd H t0 (.tup [nv n, nv m])) H' ∧ H' D = some (.lst (nvs ((L.take i).map (upP n m))))) ⟨same_new nD, upd_same⟩ (fun i H' _ ⟨s, _⟩ => SqT.of (s _ _ (s0 _ _ ht1))) ?_ ?_
    · rintro i x H2 hx ⟨s2, e2⟩
      obtain ⟨hi, rfl⟩ := nvs_at hx
      have hl := hL.len
      have fin : Same (upd H t0 (.tup [nv n, nv m])) (upd H2 D (.lst (nvs ((L.take i).map (upP n m)) ++ [nv (upP n m (gd L i))]))) ∧ (upd H2 D (.lst (nvs ((L.take i).map (upP n m)) ++ [nv (upP n m (gd L i))]))) D = some (.lst (nvs ((L.take (i + 1)).map (upP n m)))) := by
        refine ⟨same_upd2 s2 nD, ?_⟩
        rw [upd_same, List.take_add_one, List.map_append, ← nvs_app, getD_lt hi]
        rfl
      have ll : (nvs ((L.take i).map (upP n m))).length < sizeLine := by
        rw [nvs_len, List.length_map, List.length_take]; exact sizeLine_lt (by omega)
      refine ⟨rfl, _, rfl, _, rfl, _, _, rfl, rfl, ?_⟩
      by_cases c : n ≤ gd L i
      · refine ⟨true, bl_t (by omega), iteT ?_⟩
        have ev : V.int ((gd L i : Int) - (n : Int)) = nv (upP n m (gd L i)) := by
          rw [show upP n m (gd L i) = gd L i - n from if_pos c]
          exact nv_sub c
        refine ⟨_, rfl, _, rfl, _, _, rfl, rfl, _, e2, ll, ?_⟩
        show Same _ (upd H2 D (.lst (_ ++ [V.int ((gd L i : Int) - (n : Int))]))) ∧ (upd H2 D (.lst (_ ++ [V.int ((gd L i : Int) - (n : Int))]))) D = _
        rw [ev]
        exact fin
      · refine ⟨false, bl_f (by omega), iteF ?_⟩
        have ev : V.int ((gd L i : Int) + (m : Int)) = nv (upP n m (gd L i)) := by
          rw [show upP n m (gd L i) = gd L i + m from if_neg c]
          exact nv_add _ _
        refine ⟨_, rfl, _, rfl, _, _, rfl, rfl, _, e2, ll, ?_⟩
        show Same _ (upd H2 D (.lst (_ ++ [V.int ((gd L i : Int) + (m : Int))]))) ∧ (upd H2 D (.lst (_ ++ [V.int ((gd L i : Int) + (m : Int))]))) D = _
        rw [ev]
        exact fin
    · rintro H2 ⟨s2, e2⟩
      rw [nvs_len, List.take_length] at e2
      have hl := hL.len
      have eU : L.map (upP n m) = upL n m L := rfl
      rw [eU] at e2
      have lU : (upL n m L).length = n + m := by unfold upL; rw [List.length_map, hl]
      refine ⟨_, rfl, _, rfl, _, rfl, _, rfl, (n : Int), rfl, D, _, rfl, SqL.of e2, fun p np => ?_⟩
      have s3 := same_new (o := .lst (cutV (nvs (upL n m L)) (some (n : Int)) none)) np
      refine ⟨_, rfl, _, rfl, (n : Int), rfl, D, _, rfl, SqL.of (s3 _ _ e2), fun p2 np2 => ?_⟩
      have ne : p ≠ p2 := fun e => by rw [← e, upd_same] at np2; cases np2
      have s4 := same_new (o := .lst (cutV (nvs (upL n m L)) none (some (n : Int)))) np2
      have e5 : cutV (nvs (upL n m L)) (some (n : Int)) none = nvs ((upL n m L).drop n) := by
        rw [cut_drop _ _ (by rw [nvs_len]; omega)]; unfold nvs; rw [List.map_drop]
      have e6 : cutV (nvs (upL n m L)) none (some (n : Int)) = nvs ((upL n m L).take n) := by
        rw [cut_take _ _ (by rw [nvs_len]; omega)]; unfold nvs; rw [List.map_take]
      refine ⟨p, p2, _, _, rfl, rfl, Eq.trans (upd_ne ne) upd_same, upd_same, ?_, fun o no => ?_⟩
      · rw [e5, e6, nvs_len, nvs_len, List.length_drop, List.length_take]
        exact sizeLine_big (by omega)
      rw [e5, e6] at no ⊢
      rw [nvs_app]
      have s5 := same_new (o := .lst (nvs ((upL n m L).drop n ++ (upL n m L).take n))) no
      refine ⟨o, _, rfl, .inl ⟨SqL.of upd_same, fun t nt => ⟨by show 3 ≤ sizeLine; decide, fun a na => ?_⟩⟩⟩
      have nta : t ≠ a := fun e => by rw [← e, upd_same] at na; cases na
      rw [e5, e6] at s4
      rw [e5] at s3
      refine q _ (.ref a) (s0.trans (s2.trans ((s3.trans s4).trans (s5.trans ((same_new nt).trans (same_new na)))))) ⟨a, t, rfl, upd_same, ?_⟩
      rw [upd_ne nta, upd_same]
      rfl
end
end HM

/-! The law's likeness of kind and worth. -/
namespace HM
open PySem PySem.Spec PyProof.Rows L2
section
variable {P : Program} {w : World} {K : PySem.W.Frag} {mg : Str → Option Value} {base : Heap}
theorem scSame : FnScope ["_law_told", "_law_due", "_law_depth", "_law_k"] ["_law_told", "_law_due", "_law_depth"] (defScope sSame) := ⟨rfl, rfl, rfl, by decide +kernel, rfl, by decide +kernel, by decide +kernel⟩
/-- a def with defaults, by its body -/
theorem funD_ok {x qual : Str} {params : Arguments} {body : List Stmt} {scope : Scope} {dvs : List V} {kws : List (Str × V)} {f : Addr} {fd : FuncData} {N ps : List Str} {k : Nat} {sp : Sp} (F : FunD K x qual params body scope dvs kws f fd) (S : FnScope N ps scope) (len : ∀ vs H Q E, sp vs H Q E → vs.length = ps.length)
    (hbody : ∀ (cdv : Value) (A : Around) (outer : List Env) (s : Shared) (H : Hp) (vs : List V) (Q : VK) (E : XK), Room k (A.deeper (envOfC qual scope s.heap.objs.size f cdv)) → sp vs H Q E →
      ∃ t, PSs (cxOf CX0 P w K mg base N qual scope f cdv A outer s H E).nox body t ∧ t { nx := fun _ H' => Q .non H', rt := Q } (start N vs) H) : FnOk P w K mg base CX0 (k + 1) f fd ps sp :=
  F.ok S len fun cdv A outer s H vs Q E hr hsp => by
    obtain ⟨t, h, q⟩ := hbody cdv A outer s H vs Q E hr hsp
    exact ⟨t, h.nox, q⟩
theorem fn_never {f : Addr} {fd : FuncData} {ps : List Str} : FnOk P w K mg base CX0 0 f fd ps (fun _ _ _ _ => False) :=
  ⟨fun _ _ _ _ h => h.elim, fun _ _ _ _ _ _ _ _ _ _ _ _ _ h => h.elim⟩
/-- the pairs of which the def below says True, at once or by items -/
def spSameS (spR : Sp) : Sp := fun vs H Q _ => ∃ (x y : V) (d : Nat), vs = [x, y, nv d] ∧ 0 < d ∧ d ≤ 1000 ∧
  ((x = .non ∧ y = .non) ∨ (∃ z : Nat, x = nv z ∧ y = nv z) ∨ (∃ (t1 t2 : Addr) (xs ys : List V), x = .ref t1 ∧ y = .ref t2 ∧ H t1 = some (.tup xs) ∧ H t2 = some (.tup ys) ∧ xs.length = ys.length ∧ ys.length ≤ 1000 ∧
    ∀ (i : Nat) (a b : V), xs[i]? = some a → ys[i]? = some b → ∀ H', Same H H' → ∀ (Q' : VK) (E' : XK), (∀ H'', Same H' H'' → Q' (.bl true) H'') → spR [a, b, nv (d - 1)] H' Q' E')) ∧ ∀ H', Same H H' → Q (.bl true) H'
set_option maxHeartbeats 16000000 in
theorem ok_same_step {f : Addr} {fd : FuncData} {lv : Nat} {spR : Sp} (F : FunD K "_law_same" "_law_same" (defArgs sSame) (defBody sSame) (defScope sSame) [.int 9] [] f fd)
    (G : FnOk P w K mg base CX0 lv f fd ["_law_told", "_law_due", "_law_depth"] spR) (b3 : Binds K fd ["_law_told", "_law_due", "_law_depth"] []) (gS : mg "_law_same" = some (.ref f))
    (mi : mg "isinstance" = none) (mb : mg "bool" = none) (mint : mg "int" = none) (mst : mg "str" = none) (mt : mg "tuple" = none) (ml : mg "list" = none) (mn : mg "len" = none) (mr : mg "range" = none) :
    FnOk P w K mg base CX0 (lv + 1) f fd ["_law_told", "_law_due", "_law_depth"] (spSameS spR) := by
  refine funD_ok F scSame (fun vs H Q E h => ?_) (fun cdv A0 outer s H vs Q E hr h => ?_)
  · obtain ⟨x, y, d, rfl, _⟩ := h
    rfl
  · obtain ⟨x, y, d, rfl, hd, hd2, hxy, q⟩ := h
    have nd := scSame.nd
    refine ⟨_, pss_cons (ps_if (PW.pt (pw_or (pt_cmpR op_eq (pv 2) pe_int (nomark _)) (pw_or (pt_cmpR op_isN (pv 0) pe_non (nomark _)) (pw_or1 (pt_cmpR op_isN (pv 1) pe_non (nomark _))))))
        (pss_one (ps_ret (pe_and (pe_cmpR op_gt (pv 2) pe_int (nomark _)) (pe_and (pe_cmpR op_isN (pv 0) pe_non (nomark _)) (pe_one (pe_cmpR op_isN (pv 1) pe_non (nomark _))))))) pss_nil)
      (pss_cons (ps_if (PW.pt (pw_or (pt_val (pe_callB call_isi (by rfl) mi boot_isinstance (pa_cons (pv 0) (pa_cons (pe_bltn (v := .ty "bool") (by rfl) mb (by decide +kernel) rfl) pa_nil)))) (pw_or1 (pt_val (pe_callB call_isi (by rfl) mi boot_isinstance (pa_cons (pv 1) (pa_cons (pe_bltn (v := .ty "bool") (by rfl) mb (by decide +kernel) rfl) pa_nil)))))))
        (pss_one (ps_ret (pe_and (pe_callB call_isi (by rfl) mi boot_isinstance (pa_cons (pv 0) (pa_cons (pe_bltn (v := .ty "bool") (by rfl) mb (by decide +kernel) rfl) pa_nil))) (pe_and (pe_callB call_isi (by rfl) mi boot_isinstance (pa_cons (pv 1) (pa_cons (pe_bltn (v := .ty "bool") (by rfl) mb (by decide +kernel) rfl) pa_nil))) (pe_one (pe_cmpR op_eq (pv 0) (pv 1) (nomark _))))))) pss_nil)
      (pss_cons (ps_if (PW.pt (pw_or (pt_val (pe_callB call_isi (by rfl) mi boot_isinstance (pa_cons (pv 1) (pa_cons (pe_bltn (v := .ty "int") (by rfl) mint (by decide +kernel) rfl) pa_nil)))) (pw_or1 (pt_val (pe_callB call_isi (by rfl) mi boot_isinstance (pa_cons (pv 0) (pa_cons (pe_bltn (v := .ty "int") (by rfl) mint (by decide +kernel) rfl) pa_nil)))))))
        (pss_one (ps_ret (pe_and (pe_callB call_isi (by rfl) mi boot_isinstance (pa_cons (pv 1) (pa_cons (pe_bltn (v := .ty "int") (by rfl) mint (by decide +kernel) rfl) pa_nil))) (pe_and (pe_callB call_isi (by rfl) mi boot_isinstance (pa_cons (pv 0) (pa_cons (pe_bltn (v := .ty "int") (by rfl) mint (by decide +kernel) rfl) pa_nil))) (pe_one (pe_cmpR op_eq (pv 0) (pv 1) (nomark _))))))) pss_nil)
      (pss_cons (ps_if (PW.pt (pw_or (pt_val (pe_callB call_isi (by rfl) mi boot_isinstance (pa_cons (pv 1) (pa_cons (pe_bltn (v := .ty "str") (by rfl) mst (by decide +kernel) rfl) pa_nil)))) (pw_or1 (pt_val (pe_callB call_isi (by rfl) mi boot_isinstance (pa_cons (pv 0) (pa_cons (pe_bltn (v := .ty "str") (by rfl) mst (by decide +kernel) rfl) pa_nil)))))))
        (pss_one (ps_ret (pe_and (pe_callB call_isi (by rfl) mi boot_isinstance (pa_cons (pv 1) (pa_cons (pe_bltn (v := .ty "str") (by rfl) mst (by decide +kernel) rfl) pa_nil))) (pe_and (pe_callB call_isi (by rfl) mi boot_isinstance (pa_cons (pv 0) (pa_cons (pe_bltn (v := .ty "str") (by rfl) mst (by decide +kernel) rfl) pa_nil))) (pe_one (pe_cmpR op_eq (pv 0) (pv 1) (nomark _))))))) pss_nil)
      (pss_cons (ps_if (PW.pt (pw_or (pt_cmpR op_ne (pe_callB call_isi (by rfl) mi boot_isinstance (pa_cons (pv 1) (pa_cons (pe_bltn (v := .ty "tuple") (by rfl) mt (by decide +kernel) rfl) pa_nil))) (pe_callB call_isi (by rfl) mi boot_isinstance (pa_cons (pv 0) (pa_cons (pe_bltn (v := .ty "tuple") (by rfl) mt (by decide +kernel) rfl) pa_nil))) (nomark _))
            (pw_or1 (pt_cmpR op_ne (pe_callB call_isi (by rfl) mi boot_isinstance (pa_cons (pv 1) (pa_cons (pe_bltn (v := .ty "list") (by rfl) ml (by decide +kernel) rfl) pa_nil))) (pe_callB call_isi (by rfl) mi boot_isinstance (pa_cons (pv 0) (pa_cons (pe_bltn (v := .ty "list") (by rfl) ml (by decide +kernel) rfl) pa_nil))) (nomark _)))))
        (pss_one (ps_ret pe_bl)) pss_nil)
      (pss_cons (ps_if (PW.pt (pw_or (pt_not (pt_val (pe_callB call_isiT (by rfl) mi boot_isinstance (pa_cons (pv 0) (pa_cons (pe_tup (pa_cons (pe_bltn (v := .ty "tuple") (by rfl) mt (by decide +kernel) rfl) (pa_cons (pe_bltn (v := .ty "list") (by rfl) ml (by decide +kernel) rfl) pa_nil))) pa_nil)))))
            (pw_or1 (pt_cmpR op_ne (pe_callB call_len_seq (by rfl) mn PySem.boot_len (pa_cons (pv 0) pa_nil)) (pe_callB call_len_seq (by rfl) mn PySem.boot_len (pa_cons (pv 1) pa_nil)) (nomark _)))))
        (pss_one (ps_ret pe_bl)) pss_nil)
      (pss_cons (ps_for PassesOwn.never rfl (pi_range1 rfl mr (pa_cons (pe_callB call_len_seq (by rfl) mn PySem.boot_len (pa_cons (pv 1) pa_nil)) pa_nil)) (pg_name (i := 3) nd rfl (.inl rfl))
        (pss_one (ps_if (pt_not (pt_val (pe_call G hr (by rfl) gS F.kp b3 .nil pass0 (pa_cons (pe_ix ix_tup (pv 0) (pv 3) (fun _ _ => rfl)) (pa_cons (pe_ix ix_tup (pv 1) (pv 3) (fun _ _ => rfl)) (pa_cons (pe_op op_sub (pv 2) pe_int) pa_nil))))))
          (pss_one (ps_ret pe_bl)) pss_nil)))
      (pss_one (ps_ret pe_bl)))))))), ?_⟩
    have hd0 : ¬ ((d : Int) = 0) := by omega
    refine ⟨_, rfl, rfl, false, bl_f (fun e => hd0 (V.int.inj e)), iteF ?_⟩
    rcases hxy with ⟨rfl, rfl⟩ | ⟨z, rfl, rfl⟩ | ⟨t1, t2, xs, ys, rfl, rfl, h1, h2, hl, hl2, hrec⟩
    · -- None and None
      refine ⟨_, rfl, rfl, true, bl_t rfl, ?_⟩
      refine iteT ?_
      refine iteT ?_
      refine ⟨_, rfl, _, _, rfl, rfl, true, bl_t (by omega), iteT ?_⟩
      refine ⟨_, rfl, rfl, true, bl_t rfl, iteT ?_⟩
      refine ⟨_, rfl, rfl, ?_⟩
      exact q _ (Same.refl _)
    · -- whole numbers
      refine ⟨_, rfl, rfl, false, bl_f (fun e => nomatch e), iteF ?_⟩
      refine ⟨_, rfl, rfl, false, bl_f (fun e => nomatch e), iteF ?_⟩
      refine ⟨_, rfl, _, _, _, _, false, rfl, .ty _, .base (.int _), kit_ty (by decide +kernel), false, rfl, iteF ?_⟩
      refine ⟨_, rfl, _, _, _, _, false, rfl, .ty _, .base (.int _), kit_ty (by decide +kernel), false, rfl, iteF ?_⟩
      refine ⟨_, rfl, _, _, _, _, true, rfl, .ty _, .base (.int _), kit_ty (by decide +kernel), true, rfl, ?_⟩
      refine iteT ?_
      refine iteT ?_
      refine ⟨_, rfl, _, _, _, _, true, rfl, .ty _, .base (.int _), kit_ty (by decide +kernel), true, rfl, iteT ?_⟩
      refine ⟨_, rfl, _, _, _, _, true, rfl, .ty _, .base (.int _), kit_ty (by decide +kernel), true, rfl, iteT ?_⟩
      refine ⟨_, rfl, _, rfl, rfl, ?_⟩
      have e : decide (nv z = nv z) = true := decide_eq_true rfl
      show Q (.bl (decide (nv z = nv z))) H
      rw [e]
      exact q _ (Same.refl _)
    · -- tuples
      refine ⟨_, rfl, rfl, false, bl_f (fun e => nomatch e), iteF ?_⟩
      refine ⟨_, rfl, rfl, false, bl_f (fun e => nomatch e), iteF ?_⟩
      refine ⟨_, rfl, _, _, _, _, false, rfl, .ty _, .base (.tup h1), kit_ty (by decide +kernel), false, rfl, iteF ?_⟩
      refine ⟨_, rfl, _, _, _, _, false, rfl, .ty _, .base (.tup h2), kit_ty (by decide +kernel), false, rfl, iteF ?_⟩
      refine ⟨_, rfl, _, _, _, _, false, rfl, .ty _, .base (.tup h2), kit_ty (by decide +kernel), false, rfl, iteF ?_⟩
      refine ⟨_, rfl, _, _, _, _, false, rfl, .ty _, .base (.tup h1), kit_ty (by decide +kernel), false, rfl, iteF ?_⟩
      refine ⟨_, rfl, _, _, _, _, false, rfl, .ty _, .base (.tup h2), kit_ty (by decide +kernel), false, rfl, iteF ?_⟩
      refine ⟨_, rfl, _, _, _, _, false, rfl, .ty _, .base (.tup h1), kit_ty (by decide +kernel), false, rfl, iteF ?_⟩
      refine ⟨_, rfl, _, _, _, _, true, rfl, .ty _, .base (.tup h2), kit_ty (by decide +kernel), _, rfl, _, _, _, _, true, rfl, .ty _, .base (.tup h1), kit_ty (by decide +kernel), rfl, false, nbl_f rfl, iteF ?_⟩
      refine ⟨_, rfl, _, _, _, _, false, rfl, .ty _, .base (.tup h2), kit_ty (by decide +kernel), _, rfl, _, _, _, _, false, rfl, .ty _, .base (.tup h1), kit_ty (by decide +kernel), rfl, false, nbl_f rfl, iteF ?_⟩
      refine ⟨_, rfl, by show 2 ≤ sizeLine; decide, fun t nt => ?_⟩
      have s1 := same_new (o := .tup [.ty "tuple", .ty "list"]) nt
      refine ⟨_, t, _, _, [.type "tuple", .type "list"], true, rfl, upd_same, .cons (.ty _) (.cons (.ty _) .nil), .base (.tup (s1 _ _ h1)), kitAny_cons (b := true) (kit_ty (by decide +kernel)) (fun e => nomatch e) (fun _ => rfl), true, rfl, ?_⟩
      refine iteF ?_
      refine ⟨_, rfl, t1, _, rfl, .inr (SqT.of (s1 _ _ h1)), _, rfl, t2, _, rfl, .inr (SqT.of (s1 _ _ h2)), rfl, false, nbl_f (by rw [hl]), iteF ?_⟩
      refine ⟨_, rfl, t2, _, rfl, .inr (SqT.of (s1 _ _ h2)), _, rfl, by omega, by omega, for_range (lo := 0) (n := ys.length) (fun i σ H' => ∃ y3, σ = [some (.ref t1), some (.ref t2), some (nv d), y3] ∧ Same H H')
        ⟨none, rfl, s1⟩ ?_ ?_⟩
      · rintro i σ H2 hi ⟨y3, rfl, s2⟩
        have ei : ((0 : Int) + (i : Int)) = (i : Int) := Int.zero_add _
        rw [ei]
        obtain ⟨a, ha⟩ : ∃ a, xs[i]? = some a := ⟨_, List.getElem?_eq_getElem (by omega)⟩
        obtain ⟨b, hb⟩ : ∃ b, ys[i]? = some b := ⟨_, List.getElem?_eq_getElem hi⟩
        refine ⟨_, rfl, _, rfl, t1, _, _, a, rfl, rfl, SqT.of (s2 _ _ h1), atI_nat ha, _, rfl, _, rfl, t2, _, _, b, rfl, rfl, SqT.of (s2 _ _ h2), atI_nat hb, _, rfl, _, _, rfl, rfl, ?_⟩
        have ed : V.int ((d : Int) - 1) = nv (d - 1) := by
          show V.int _ = V.int _
          congr 1
          omega
        show spR [a, b, V.int ((d : Int) - 1)] H2 _ _
        rw [ed]
        refine hrec i a b ha hb H2 s2 _ _ fun H3 s3 => ?_
        refine ⟨true, rfl, iteF ?_⟩
        exact ⟨_, rfl, s2.trans s3⟩
      · rintro σ H2 ⟨y3, rfl, s2⟩
        exact q _ s2
def spSame : Sp := fun vs H Q _ => ∃ (x y : V), vs = [x, y, nv 9] ∧ ((x = .non ∧ y = .non) ∨ ∃ (n m : Nat) (L : List Nat), MatAt H x n m L ∧ MatAt H y n m L ∧ L.length ≤ 1000) ∧ ∀ H', Same H H' → Q (.bl true) H'
theorem ok_same {f : Addr} {fd : FuncData} (F : FunD K "_law_same" "_law_same" (defArgs sSame) (defBody sSame) (defScope sSame) [.int 9] [] f fd)
    (b3 : Binds K fd ["_law_told", "_law_due", "_law_depth"] []) (gS : mg "_law_same" = some (.ref f))
    (mi : mg "isinstance" = none) (mb : mg "bool" = none) (mint : mg "int" = none) (mst : mg "str" = none) (mt : mg "tuple" = none) (ml : mg "list" = none) (mn : mg "len" = none) (mr : mg "range" = none) :
    FnOk P w K mg base CX0 3 f fd ["_law_told", "_law_due", "_law_depth"] spSame := by
  have G1 := ok_same_step F (fn_never (P := P) (w := w) (K := K) (mg := mg) (base := base)) b3 gS mi mb mint mst mt ml mn mr
  have G2 := ok_same_step F G1 b3 gS mi mb mint mst mt ml mn mr
  have G3 := ok_same_step F G2 b3 gS mi mb mint mst mt ml mn mr
  refine G3.imp fun vs H Q E h => ?_
  obtain ⟨x, y, rfl, hxy, q⟩ := h
  refine ⟨x, y, 9, rfl, by decide, by decide, ?_, q⟩
  rcases hxy with e | ⟨n, m, L, ⟨a1, t1, rfl, h1, h2⟩, ⟨a2, t2, rfl, h3, h4⟩, hl⟩
  · exact .inl e
  · refine .inr (.inr ⟨a1, a2, _, _, rfl, rfl, h1, h3, rfl, by show 3 ≤ 1000; decide, fun i a b ha hb H' s Q' E' hq => ?_⟩)
    match i, ha, hb with
    | 0, ha, hb =>
      rw [← Option.some.inj ha, ← Option.some.inj hb]
      exact ⟨_, _, 8, rfl, by decide, by decide, .inr (.inl ⟨n, rfl, rfl⟩), hq⟩
    | 1, ha, hb =>
      rw [← Option.some.inj ha, ← Option.some.inj hb]
      exact ⟨_, _, 8, rfl, by decide, by decide, .inr (.inl ⟨m, rfl, rfl⟩), hq⟩
    | 2, ha, hb =>
      rw [← Option.some.inj ha, ← Option.some.inj hb]
      refine ⟨_, _, 8, rfl, by decide, by decide, .inr (.inr ⟨t1, t2, nvs L, nvs L, rfl, rfl, s _ _ h2, s _ _ h4, rfl, by rw [nvs_len]; exact hl, fun j a b ha hb H'' s' Q'' E'' hq' => ?_⟩), hq⟩
      obtain ⟨hj, e1⟩ := nvs_at ha
      obtain ⟨_, e2⟩ := nvs_at hb
      rw [e1, e2]
      exact ⟨_, _, 7, rfl, by decide, by decide, .inr (.inl ⟨_, rfl, rfl⟩), hq'⟩
    | j + 3, ha, hb => cases ha
end
end HM

/-! The law's three mats. -/
namespace HM
open PySem PySem.Spec PyProof.Rows L2
/-- three mats that fit, at a, drawn from the well at u -/
def ThreeAt (H : Hp) (a : Addr) : Prop := ∃ (vg va vb : V) (n k m j : Nat) (G A B : List Nat), H a = some (.tup [vg, va, vb]) ∧ MatAt H vg n k G ∧ IsMat n k G ∧ MatAt H va n m A ∧ IsMat n m A ∧ MatAt H vb j k B ∧ IsMat j k B ∧
  (1 ≤ n ∧ 1 ≤ k ∧ 1 ≤ m ∧ 1 ≤ j ∧ n ≤ 16 ∧ k ≤ 16 ∧ m + j ≤ 12 ∧ (m + j) % 2 = 0)
abbrev nmThree : List Str := ["_law_well_here", "_law_odd", "_law_most", "_law_above", "_law_below", "_law_far", "_law_n", "_law_room", "_law_k", "_law_ahead", "_law_behind_here", "_law_middle"]
theorem argD {u : Addr} {z : Int} {M : Nat} (h : z = M) : [V.ref u, V.int z] = [V.ref u, nv M] := by rw [h]; rfl
section
variable {P : Program} {w : World} {K : PySem.W.Frag} {mg : Str → Option Value} {base : Heap}
theorem scThree : FnScope nmThree ["_law_well_here"] (defScope sThree) := ⟨rfl, rfl, rfl, by decide +kernel, rfl, by decide +kernel, by decide +kernel⟩
theorem three_t4 {f fD fM fB : Addr} {fdD fdM fdB : FuncData}
    (GD : FnOk P w K mg base CX0 1 fD fdD ["_law_well_here", "_law_many"] spDip) (kD : PySem.W.keepIn K (.ref fD) = true) (bD : Binds K fdD ["_law_well_here", "_law_many"] []) (gD : mg "_law_dip" = some (.ref fD))
    (GM : FnOk P w K mg base CX0 2 fM fdM ["_law_well_here", "_law_n", "_law_m"] spLMat) (kM : PySem.W.keepIn K (.ref fM) = true) (bM : Binds K fdM ["_law_well_here", "_law_n", "_law_m"] []) (gM : mg "_law_mat" = some (.ref fM))
    (GB : FnOk P w K mg base CX0 1 fB fdB ["_law_one", "_law_other"] spLBehind) (kB : PySem.W.keepIn K (.ref fB) = true) (bB : Binds K fdB ["_law_one", "_law_other"] []) (gB : mg "_law_behind" = some (.ref fB))
    {cdv : Value} {A0 : Around} {outer : List Env} {s : Shared} {H0 : Hp} {E : XK} (hr : Room 2 (A0.deeper (envOfC "_law_three" (defScope sThree) s.heap.objs.size f cdv))) :
    ∃ t, PSs (cxOf CX0 P w K mg base nmThree "_law_three" (defScope sThree) f cdv A0 outer s H0 E).nox ((defBody sThree).drop 12) t ∧
      ∀ (u c : Addr) (n k m j : Nat) (A B : List Nat) (va vb : V) (y1 y2 y5 y7 y11 : Option V) (H : Hp) (Q : VK), WellAt H u c → MatAt H va n m A → IsMat n m A → MatAt H vb j k B → IsMat j k B →
        (1 ≤ n ∧ 1 ≤ k ∧ 1 ≤ m ∧ 1 ≤ j ∧ n ≤ 16 ∧ k ≤ 16 ∧ m + j ≤ 12 ∧ (m + j) % 2 = 0) → (n + m) % 2 = 0 → (j + k) % 2 = 0 →
        (∀ H' a, SameBut u H H' → WellAt H' u c → ThreeAt H' a → Q (.ref a) H') →
        t { nx := fun _ H' => Q .non H', rt := Q } [some (.ref u), y1, y2, some (nv m), some (nv j), y5, some (nv n), y7, some (nv k), some va, some vb, y11] H := by
  have nd := scThree.nd
  refine ⟨_, pss_cons (ps_if (pt_cmpR op_eq (pe_call GD (hr.mono (by decide)) (by rfl) gD kD bD .nil pass0 (pa_cons (pv 0) (pa_cons pe_int pa_nil))) pe_int (nomark _))
      (pss_one (ps_ret (pe_tup (pa_cons (pe_call GM hr (by rfl) gM kM bM .nil pass0 (pa_cons (pv 0) (pa_cons (pv 6) (pa_cons (pv 8) pa_nil)))) (pa_cons (pv 9) (pa_cons (pv 10) pa_nil)))))) pss_nil)
    (pss_cons (ps_set (i := 11) nd rfl (.inl rfl) (pe_ix ix_tup (pe_call GB (hr.mono (by decide)) (by rfl) gB kB bB .nil pass0 (pa_cons (pv 9) (pa_cons (pe_call GM hr (by rfl) gM kM bM .nil pass0 (pa_cons (pv 0) (pa_cons (pv 3) (pa_cons (pv 4) pa_nil)))) pa_nil))) pe_int (fun _ _ => rfl)))
    (pss_one (ps_ret (pe_tup (pa_cons (pe_ix ix_tup (pe_call GB (hr.mono (by decide)) (by rfl) gB kB bB .nil pass0 (pa_cons (pv 11) (pa_cons (pv 10) pa_nil))) pe_int (fun _ _ => rfl)) (pa_cons (pv 9) (pa_cons (pv 10) pa_nil))))))), ?_⟩
  rintro u c n k m j A B va vb y1 y2 y5 y7 y11 H Q hW ha hA hb hB hbd p1 p2 q
  refine ⟨_, rfl, u, c, 3, rfl, by omega, by omega, hW, fun H1 d sb1 hW1 hd => ?_⟩
  obtain ⟨lu, hu⟩ := hW.isU
  have ha1 := ha.tk (sb1.tk hu)
  have hb1 := hb.tk (sb1.tk hu)
  obtain ⟨lu1, hu1⟩ := hW1.isU
  by_cases c0 : d = 0
  · refine ⟨rfl, true, bl_t (by rw [c0]; rfl), iteT ?_⟩
    refine ⟨_, rfl, _, rfl, _, rfl, u, c, n, k, rfl, hW1, by omega, by omega, fun H2 v L sb2 hW2 hv hL => ?_⟩
    refine ⟨_, rfl, _, rfl, by show 3 ≤ sizeLine; decide, fun a na => ?_⟩
    have s3 := same_new (o := .tup [v, va, vb]) na
    exact q _ a (sb1.trans (sb2.trans (same_but s3))) (hW2.keep s3) ⟨v, va, vb, n, k, m, j, L, A, B, upd_same, hv.tk (tk_same s3), hL, (ha1.tk (sb2.tk hu1)).tk (tk_same s3), hA, (hb1.tk (sb2.tk hu1)).tk (tk_same s3), hB, hbd⟩
  · refine ⟨rfl, false, bl_f (fun e => c0 (by have := V.int.inj e; omega)), iteF ?_⟩
    refine ⟨_, rfl, _, rfl, _, rfl, _, rfl, u, c, m, j, rfl, hW1, by omega, by omega, fun H2 v L sb2 hW2 hv hL => ?_⟩
    have ha2 := ha1.tk (sb2.tk hu1)
    have hb2 := hb1.tk (sb2.tk hu1)
    refine ⟨va, v, n, m, j, A, L, rfl, by omega, by omega, by omega, ha2, hv, hA, hL, fun H3 a z vm s3 e3 hm => ?_⟩
    refine ⟨a, _, 1, vm, rfl, rfl, SqT.of e3, atI_nat (j := 1) rfl, ?_⟩
    have hC := comp_mat hA hL
    refine ⟨_, rfl, _, rfl, vm, vb, n, j, k, _, B, rfl, by omega, by omega, by omega, hm, hb2.tk (tk_same s3), hC, hB, fun H4 a4 z4 vg s4 e4 hg => ?_⟩
    refine ⟨a4, _, 1, vg, rfl, rfl, SqT.of e4, atI_nat (j := 1) rfl, ?_⟩
    refine ⟨_, rfl, _, rfl, by show 3 ≤ sizeLine; decide, fun b nb => ?_⟩
    have s5 := same_new (o := .tup [vg, va, vb]) nb
    have s35 := s3.trans (s4.trans s5)
    exact q _ b (sb1.trans (sb2.trans (same_but s35))) (hW2.keep s35) ⟨vg, va, vb, n, k, m, j, _, A, B, upd_same, hg.tk (tk_same s5), comp_mat hC hB, ha2.tk (tk_same s35), hA, hb2.tk (tk_same s35), hB, hbd⟩
theorem arg3 {u : Addr} {z y : Int} {M N : Nat} (h : z = M) (g : y = N) : [V.ref u, V.int z, V.int y] = [V.ref u, nv M, nv N] := by rw [h, g]; rfl
theorem three_t3 {f fD fM fB fU : Addr} {fdD fdM fdB fdU : FuncData}
    (GD : FnOk P w K mg base CX0 1 fD fdD ["_law_well_here", "_law_many"] spDip) (kD : PySem.W.keepIn K (.ref fD) = true) (bD : Binds K fdD ["_law_well_here", "_law_many"] []) (gD : mg "_law_dip" = some (.ref fD))
    (GM : FnOk P w K mg base CX0 2 fM fdM ["_law_well_here", "_law_n", "_law_m"] spLMat) (kM : PySem.W.keepIn K (.ref fM) = true) (bM : Binds K fdM ["_law_well_here", "_law_n", "_law_m"] []) (gM : mg "_law_mat" = some (.ref fM))
    (GB : FnOk P w K mg base CX0 1 fB fdB ["_law_one", "_law_other"] spLBehind) (kB : PySem.W.keepIn K (.ref fB) = true) (bB : Binds K fdB ["_law_one", "_law_other"] []) (gB : mg "_law_behind" = some (.ref fB))
    (GU : FnOk P w K mg base CX0 1 fU fdU ["_law_mat_here"] spUpside) (kU : PySem.W.keepIn K (.ref fU) = true) (bU : Binds K fdU ["_law_mat_here"] []) (gU : mg "_law_upside" = some (.ref fU))
    {cdv : Value} {A0 : Around} {outer : List Env} {s : Shared} {H0 : Hp} {E : XK} (hr : Room 2 (A0.deeper (envOfC "_law_three" (defScope sThree) s.heap.objs.size f cdv))) :
    ∃ t, PSs (cxOf CX0 P w K mg base nmThree "_law_three" (defScope sThree) f cdv A0 outer s H0 E).nox ((defBody sThree).drop 11) t ∧
      ∀ (u c : Addr) (n k m j : Nat) (N Z M J : Int) (A B : List Nat) (va vb : V) (y1 y2 y5 y7 y11 : Option V) (H : Hp) (Q : VK), N = n → Z = k → M = m → J = j → WellAt H u c → MatAt H va n m A → IsMat n m A → MatAt H vb j k B → IsMat j k B →
        (1 ≤ n ∧ 1 ≤ k ∧ 1 ≤ m ∧ 1 ≤ j ∧ n ≤ 16 ∧ k ≤ 16 ∧ m + j ≤ 12 ∧ (m + j) % 2 = 0) → (n + m) % 2 = 0 → (j + k) % 2 = 0 →
        (∀ H' a, SameBut u H H' → WellAt H' u c → ThreeAt H' a → Q (.ref a) H') →
        t { nx := fun _ H' => Q .non H', rt := Q } [some (.ref u), y1, y2, some (.int M), some (.int J), y5, some (.int N), y7, some (.int Z), some va, some vb, y11] H := by
  have nd := scThree.nd
  obtain ⟨t4, h4, q4⟩ := three_t4 (f := f) (cdv := cdv) (A0 := A0) (outer := outer) (s := s) (H0 := H0) (E := E) GD kD bD gD GM kM bM gM GB kB bB gB hr
  refine ⟨_, pss_cons (ps_if (PW.pt (pw_and (pt_cmpR op_eq (pe_call GD (hr.mono (by decide)) (by rfl) gD kD bD .nil pass0 (pa_cons (pv 0) (pa_cons pe_int pa_nil))) pe_int (nomark _)) (pw_and (pt_cmpR op_lt (pv 3) pe_int (nomark _)) (pw_and1 (pt_cmpR op_lt (pv 6) pe_int (nomark _))))))
      (pss_cons (ps_par (i := 4) (j := 8) rfl nd rfl rfl (by decide) rfl rfl (pa_cons (pv 3) (pa_cons (pv 6) pa_nil)) (by rfl))
      (pss_one (ps_set (i := 10) nd rfl (.inl rfl) (pe_call GU (hr.mono (by decide)) (by rfl) gU kU bU .nil pass0 (pa_cons (pv 9) pa_nil))))) pss_nil) h4, ?_⟩
  rintro u c n k m j N Z M J A B va vb y1 y2 y5 y7 y11 H Q rfl rfl rfl rfl hW ha hA hb hB hbd p1 p2 q
  refine ⟨_, rfl, u, c, 4, rfl, by omega, by omega, hW, fun H1 d sb1 hW1 hd => ?_⟩
  obtain ⟨lu, hu⟩ := hW.isU
  have ha1 := ha.tk (sb1.tk hu)
  have hb1 := hb.tk (sb1.tk hu)
  have keep := q4 u c n k m j A B va vb y1 y2 y5 y7 y11 H1 Q hW1 ha1 hA hb1 hB hbd p1 p2 (fun H' a sb hw h3 => q H' a (sb1.trans sb) hw h3)
  by_cases c0 : d = 0
  · refine ⟨rfl, true, bl_t (by rw [c0]; rfl), iteT ?_⟩
    by_cases c1 : m < 7
    · refine ⟨_, rfl, _, _, rfl, rfl, true, bl_t (by omega), iteT ?_⟩
      by_cases c2 : n < 9
      · refine ⟨_, rfl, _, _, rfl, rfl, true, bl_t (by omega), ?_⟩
        refine iteT ?_
        refine ⟨_, rfl, _, rfl, _, _, rfl, ?_⟩
        refine ⟨_, rfl, va, n, m, A, rfl, ha1, hA, by omega, fun H2 v2 s2 hv2 => ?_⟩
        exact q4 u c n n m m A (upN n m A) va v2 y1 y2 y5 y7 y11 H2 Q (hW1.keep s2) (ha1.tk (tk_same s2)) hA hv2 (up_mat hA) ⟨by omega, by omega, by omega, by omega, by omega, by omega, by omega, by omega⟩ p1 (by omega) (fun H' a sb hw h3 => q H' a (sb1.trans ((same_but s2).trans sb)) hw h3)
      · refine ⟨_, rfl, _, _, rfl, rfl, false, bl_f (by omega), ?_⟩
        refine iteF ?_
        exact keep
    · refine ⟨_, rfl, _, _, rfl, rfl, false, bl_f (by omega), iteF ?_⟩
      refine iteF ?_
      exact keep
  · refine ⟨rfl, false, bl_f (fun e => c0 (by have := V.int.inj e; omega)), iteF ?_⟩
    refine iteF ?_
    exact keep
theorem three_t2 {f fD fM fB fU : Addr} {fdD fdM fdB fdU : FuncData} (mm : mg "min" = none)
    (GD : FnOk P w K mg base CX0 1 fD fdD ["_law_well_here", "_law_many"] spDip) (kD : PySem.W.keepIn K (.ref fD) = true) (bD : Binds K fdD ["_law_well_here", "_law_many"] []) (gD : mg "_law_dip" = some (.ref fD))
    (GM : FnOk P w K mg base CX0 2 fM fdM ["_law_well_here", "_law_n", "_law_m"] spLMat) (kM : PySem.W.keepIn K (.ref fM) = true) (bM : Binds K fdM ["_law_well_here", "_law_n", "_law_m"] []) (gM : mg "_law_mat" = some (.ref fM))
    (GB : FnOk P w K mg base CX0 1 fB fdB ["_law_one", "_law_other"] spLBehind) (kB : PySem.W.keepIn K (.ref fB) = true) (bB : Binds K fdB ["_law_one", "_law_other"] []) (gB : mg "_law_behind" = some (.ref fB))
    (GU : FnOk P w K mg base CX0 1 fU fdU ["_law_mat_here"] spUpside) (kU : PySem.W.keepIn K (.ref fU) = true) (bU : Binds K fdU ["_law_mat_here"] []) (gU : mg "_law_upside" = some (.ref fU))
    {cdv : Value} {A0 : Around} {outer : List Env} {s : Shared} {H0 : Hp} {E : XK} (hr : Room 2 (A0.deeper (envOfC "_law_three" (defScope sThree) s.heap.objs.size f cdv))) :
    ∃ t, PSs (cxOf CX0 P w K mg base nmThree "_law_three" (defScope sThree) f cdv A0 outer s H0 E).nox ((defBody sThree).drop 6) t ∧
      ∀ (u c : Addr) (o m j : Nat) (O M J : Int) (y2 : Option V) (H : Hp) (Q : VK), O = o → M = m → J = j → WellAt H u c → (o < 2 ∧ 1 ≤ m ∧ 1 ≤ j ∧ m + j ≤ 12 ∧ m % 2 = o ∧ j % 2 = o) →
        (∀ H' a, SameBut u H H' → WellAt H' u c → ThreeAt H' a → Q (.ref a) H') →
        t { nx := fun _ H' => Q .non H', rt := Q } [some (.ref u), some (.int O), y2, some (.int M), some (.int J), none, none, none, none, none, none, none] H := by
  have nd := scThree.nd
  obtain ⟨t3, h3, q3⟩ := three_t3 (f := f) (cdv := cdv) (A0 := A0) (outer := outer) (s := s) (H0 := H0) (E := E) GD kD bD gD GM kM bM gM GB kB bB gB GU kU bU gU hr
  refine ⟨_, pss_cons (ps_set (i := 5) nd rfl (.inl rfl) (pe_ix ix_list (pe_lst (pa_cons pe_int (pa_cons pe_int pa_nil))) (pe_call GD (hr.mono (by decide)) (by rfl) gD kD bD .nil pass0 (pa_cons (pv 0) (pa_cons pe_int pa_nil))) (fun _ _ => rfl)))
    (pss_cons (ps_set (i := 6) nd rfl (.inl rfl) (pe_op op_add (pe_op op_sub pe_int (pv 1)) (pe_op op_mul pe_int (pe_call GD (hr.mono (by decide)) (by rfl) gD kD bD .nil pass0 (pa_cons (pv 0) (pa_cons (pe_callB (call_min2 rfl) (by rfl) mm boot_min (pa_cons (pv 5) (pa_cons (pe_op op_add (pe_op op_fdiv (pe_op op_add (pe_op op_sub pe_int (pv 3)) (pv 1)) pe_int) pe_int) pa_nil))) pa_nil))))))
    (pss_cons (ps_set (i := 7) nd rfl (.inl rfl) (pe_callB (call_min2 rfl) (by rfl) mm boot_min (pa_cons (pe_op op_sub pe_int (pv 4)) (pa_cons (pe_op op_sub pe_int (pv 6)) pa_nil))))
    (pss_cons (ps_set (i := 8) nd rfl (.inl rfl) (pe_op op_add (pe_op op_sub pe_int (pv 1)) (pe_op op_mul pe_int (pe_call GD (hr.mono (by decide)) (by rfl) gD kD bD .nil pass0 (pa_cons (pv 0) (pa_cons (pe_callB (call_min2 rfl) (by rfl) mm boot_min (pa_cons (pv 5) (pa_cons (pe_op op_add (pe_op op_fdiv (pe_op op_add (pe_op op_sub (pv 7) pe_int) (pv 1)) pe_int) pe_int) pa_nil))) pa_nil))))))
    (pss_cons (ps_par (i := 9) (j := 10) rfl nd rfl rfl (by decide) rfl rfl (pa_cons (pe_call GM hr (by rfl) gM kM bM .nil pass0 (pa_cons (pv 0) (pa_cons (pv 6) (pa_cons (pv 3) pa_nil)))) (pa_cons (pe_call GM hr (by rfl) gM kM bM .nil pass0 (pa_cons (pv 0) (pa_cons (pv 4) (pa_cons (pv 8) pa_nil)))) pa_nil)) (by rfl)) h3)))), ?_⟩
  rintro u c o m j O M J y2 H Q rfl rfl rfl hW ⟨ho, hm, hj, hmj, pm, pj⟩ q
  obtain ⟨lu, hu⟩ := hW.isU
  refine ⟨by show 2 ≤ sizeLine; decide, fun p np => ?_⟩
  have s0 := same_new (o := .lst [.int 3, .int 8]) np
  refine ⟨_, rfl, u, c, 2, rfl, by omega, by omega, hW.keep s0, fun H1 d1 sb1 hW1 hd1 => ?_⟩
  have npu : p ≠ u := (ne_of_none hu np).symm
  obtain ⟨F, hF, hF2⟩ : ∃ F : Nat, ([V.int 3, V.int 8] : List V)[d1]? = some (nv F) ∧ (F = 3 ∨ F = 8) := by
    match d1, hd1 with
    | 0, _ => exact ⟨3, rfl, .inl rfl⟩
    | 1, _ => exact ⟨8, rfl, .inr rfl⟩
  refine ⟨p, _, _, _, rfl, rfl, SqL.of (sb1 _ _ npu upd_same), atI_nat hF, ?_⟩
  -- n
  obtain ⟨M1, hM1⟩ : ∃ M1 : Nat, (if (14 - (m : Int) + (o : Int)) / 2 + 1 < (F : Int) then (14 - (m : Int) + (o : Int)) / 2 + 1 else (F : Int)) = M1 := ⟨_, (Int.toNat_of_nonneg (by split <;> omega)).symm⟩
  have b1 : 1 ≤ M1 ∧ M1 ≤ 8 ∧ 2 * (M1 - 1) ≤ 14 - m + o := by
    split at hM1 <;> omega
  refine ⟨_, rfl, _, _, rfl, rfl, _, rfl, _, rfl, _, rfl, _, _, rfl, rfl, _, rfl, _, _, rfl, rfl, _, _, rfl, rfl, ⟨by decide, by decide⟩, _, _, rfl, rfl, _, _, rfl, u, c, M1, argD hM1, b1.1, by omega, hW1, fun H2 d2 sb2 hW2 hd2 => ?_⟩
  refine ⟨_, _, rfl, rfl, .inl ⟨by decide, by decide⟩, _, _, rfl, rfl, ?_⟩
  -- room
  refine ⟨_, rfl, _, _, rfl, rfl, _, rfl, _, _, rfl, rfl, _, _, rfl, ?_⟩
  -- k
  obtain ⟨n, hn⟩ : ∃ n : Nat, (2 : Int) - (o : Int) + 2 * (d2 : Int) = n := ⟨(2 - (o : Int) + 2 * (d2 : Int)).toNat, by omega⟩
  have bn : 1 ≤ n ∧ n ≤ 16 ∧ n + m ≤ 16 ∧ n % 2 = o := by omega
  obtain ⟨R, hR⟩ : ∃ R : Int, R = (if 16 - ((2 : Int) - (o : Int) + 2 * (d2 : Int)) < 16 - (j : Int) then 16 - ((2 : Int) - (o : Int) + 2 * (d2 : Int)) else 16 - (j : Int)) := ⟨_, rfl⟩
  have bR : 2 - (o : Int) ≤ R ∧ R ≤ 16 - j ∧ R ≤ 16 - n := by
    split at hR <;> omega
  obtain ⟨M2, hM2⟩ : ∃ M2 : Nat, (if (R - 2 + (o : Int)) / 2 + 1 < (F : Int) then (R - 2 + (o : Int)) / 2 + 1 else (F : Int)) = M2 := ⟨_, (Int.toNat_of_nonneg (by split <;> omega)).symm⟩
  have b2 : 1 ≤ M2 ∧ M2 ≤ 8 ∧ 2 * ((M2 : Int) - 1) ≤ R - 2 + o := by
    split at hM2 <;> omega
  refine ⟨_, rfl, _, _, rfl, rfl, _, rfl, _, rfl, _, rfl, _, _, rfl, rfl, _, rfl, _, _, rfl, rfl, _, _, rfl, rfl, ⟨by decide, by decide⟩, _, _, rfl, rfl, _, _, rfl, u, c, M2, argD (by rw [← hR]; exact hM2), b2.1, by omega, hW2, fun H3 d3 sb3 hW3 hd3 => ?_⟩
  refine ⟨_, _, rfl, rfl, .inl ⟨by decide, by decide⟩, _, _, rfl, rfl, ?_⟩
  obtain ⟨k, hk⟩ : ∃ k : Nat, (2 : Int) - (o : Int) + 2 * (d3 : Int) = k := ⟨(2 - (o : Int) + 2 * (d3 : Int)).toNat, by omega⟩
  have bk : 1 ≤ k ∧ k ≤ 16 ∧ k + j ≤ 16 ∧ k % 2 = o := by omega
  -- the two mats
  refine ⟨_, rfl, _, rfl, _, rfl, u, c, n, m, arg3 hn rfl, hW3, by omega, by omega, fun H4 va A sb4 hW4 ha hA => ?_⟩
  obtain ⟨lu4, hu4⟩ := hW4.isU
  refine ⟨_, rfl, _, rfl, _, rfl, u, c, j, k, arg3 rfl hk, hW4, by omega, by omega, fun H5 vb B sb5 hW5 hb hB => ?_⟩
  refine ⟨_, _, rfl, ?_⟩
  have sb := (same_but s0).trans (sb1.trans (sb2.trans (sb3.trans (sb4.trans sb5))))
  exact q3 u c n k m j _ _ _ _ A B va vb _ _ _ _ _ H5 Q hn hk rfl rfl hW5 (ha.tk (sb5.tk hu4)) hA hb hB ⟨by omega, by omega, by omega, by omega, by omega, by omega, by omega, by omega⟩ (by omega) (by omega) (fun H' a sbx hw h3 => q H' a (sb.trans sbx) hw h3)
def spThree : Sp := fun vs H Q _ => ∃ (u c : Addr), vs = [.ref u] ∧ WellAt H u c ∧ ∀ H' a, SameBut u H H' → WellAt H' u c → ThreeAt H' a → Q (.ref a) H'
theorem ok_three {f fD fM fB fU : Addr} {fd fdD fdM fdB fdU : FuncData} (F : Fun K "_law_three" "_law_three" sThree f fd) (mm : mg "min" = none)
    (GD : FnOk P w K mg base CX0 1 fD fdD ["_law_well_here", "_law_many"] spDip) (kD : PySem.W.keepIn K (.ref fD) = true) (bD : Binds K fdD ["_law_well_here", "_law_many"] []) (gD : mg "_law_dip" = some (.ref fD))
    (GM : FnOk P w K mg base CX0 2 fM fdM ["_law_well_here", "_law_n", "_law_m"] spLMat) (kM : PySem.W.keepIn K (.ref fM) = true) (bM : Binds K fdM ["_law_well_here", "_law_n", "_law_m"] []) (gM : mg "_law_mat" = some (.ref fM))
    (GB : FnOk P w K mg base CX0 1 fB fdB ["_law_one", "_law_other"] spLBehind) (kB : PySem.W.keepIn K (.ref fB) = true) (bB : Binds K fdB ["_law_one", "_law_other"] []) (gB : mg "_law_behind" = some (.ref fB))
    (GU : FnOk P w K mg base CX0 1 fU fdU ["_law_mat_here"] spUpside) (kU : PySem.W.keepIn K (.ref fU) = true) (bU : Binds K fdU ["_law_mat_here"] []) (gU : mg "_law_upside" = some (.ref fU))
    : FnOk P w K mg base CX0 3 f fd ["_law_well_here"] spThree := by
  refine F.ok scThree (fun vs H Q E h => ?_) (fun cdv A0 outer s H vs Q E hr h => ?_)
  · obtain ⟨u, c, rfl, _⟩ := h
    rfl
  · obtain ⟨u, c, rfl, hW, q⟩ := h
    have nd := scThree.nd
    obtain ⟨t2, h2, q2⟩ := three_t2 (f := f) (cdv := cdv) (A0 := A0) (outer := outer) (s := s) (H0 := H) (E := E) mm GD kD bD gD GM kM bM gM GB kB bB gB GU kU bU gU hr
    refine ⟨_, pss_cons (ps_set (i := 1) nd rfl (.inl rfl) (pe_call GD (hr.mono (by decide)) (by rfl) gD kD bD .nil pass0 (pa_cons (pv 0) (pa_cons pe_int pa_nil))))
      (pss_cons (ps_set (i := 2) nd rfl (.inl rfl) (pe_ifExp (pt_cmpR op_eq (pe_call GD (hr.mono (by decide)) (by rfl) gD kD bD .nil pass0 (pa_cons (pv 0) (pa_cons pe_int pa_nil))) pe_int (nomark _)) pe_int pe_int))
      (pss_cons (ps_set (i := 3) nd rfl (.inl rfl) (pe_op op_add (pe_op op_sub pe_int (pv 1)) (pe_op op_mul pe_int (pe_call GD (hr.mono (by decide)) (by rfl) gD kD bD .nil pass0 (pa_cons (pv 0) (pa_cons (pv 2) pa_nil))))))
      (pss_cons (ps_set (i := 4) nd rfl (.inl rfl) (pe_op op_add (pe_op op_sub pe_int (pv 1)) (pe_op op_mul pe_int (pe_call GD (hr.mono (by decide)) (by rfl) gD kD bD .nil pass0 (pa_cons (pv 0) (pa_cons (pv 2) pa_nil))))))
      (pss_cons (ps_if (pt_cmpR op_eq (pe_call GD (hr.mono (by decide)) (by rfl) gD kD bD .nil pass0 (pa_cons (pv 0) (pa_cons pe_int pa_nil))) pe_int (nomark _))
        (pss_cons (ps_set (i := 3) nd rfl (.inl rfl) (pe_op op_add (pe_op op_sub pe_int (pv 1)) (pe_op op_mul pe_int (pe_call GD (hr.mono (by decide)) (by rfl) gD kD bD .nil pass0 (pa_cons (pv 0) (pa_cons (pe_op op_add pe_int (pv 1)) pa_nil))))))
        (pss_one (ps_set (i := 4) nd rfl (.inl rfl) (pe_op op_add (pe_op op_sub pe_int (pv 1)) (pe_op op_mul pe_int (pe_call GD (hr.mono (by decide)) (by rfl) gD kD bD .nil pass0 (pa_cons (pv 0) (pa_cons (pe_op op_add (pe_op op_fdiv (pe_op op_add (pe_op op_sub pe_int (pv 3)) (pv 1)) pe_int) pe_int) pa_nil)))))))) pss_nil)
      (pss_cons (ps_if (pt_cmpR op_eq (pe_call GD (hr.mono (by decide)) (by rfl) gD kD bD .nil pass0 (pa_cons (pv 0) (pa_cons pe_int pa_nil))) pe_int (nomark _))
        (pss_one (ps_par (i := 3) (j := 4) rfl nd rfl rfl (by decide) rfl rfl (pa_cons (pv 4) (pa_cons (pv 3) pa_nil)) (by rfl))) pss_nil) h2))))), ?_⟩
    -- odd
    refine ⟨_, rfl, u, c, 2, rfl, by omega, by omega, hW, fun H1 o sb1 hW1 ho => ?_⟩
    refine ⟨_, rfl, u, c, 6, rfl, by omega, by omega, hW1, fun H2 d2 sb2 hW2 hd2 => ?_⟩
    by_cases c0 : d2 = 0
    focus
      refine ⟨rfl, true, bl_t (by rw [c0]; rfl), iteT ?_⟩
      obtain ⟨M0, hM0, bM0⟩ : ∃ M0 : Nat, (3 : Int) = M0 ∧ 2 ≤ M0 ∧ M0 ≤ 3 := ⟨3, rfl, by decide, by decide⟩
    rotate_left
    focus
      refine ⟨rfl, false, bl_f (fun e => c0 (by have := V.int.inj e; omega)), iteF ?_⟩
      obtain ⟨M0, hM0, bM0⟩ : ∃ M0 : Nat, (2 : Int) = M0 ∧ 2 ≤ M0 ∧ M0 ≤ 3 := ⟨2, rfl, by decide, by decide⟩
    all_goals
      refine ⟨_, rfl, _, _, rfl, rfl, _, rfl, _, rfl, u, c, M0, argD hM0, by omega, by omega, hW2, fun H3 d3 sb3 hW3 hd3 => ?_⟩
      refine ⟨_, _, rfl, rfl, .inl ⟨by decide, by decide⟩, _, _, rfl, rfl, ?_⟩
      refine ⟨_, rfl, _, _, rfl, rfl, _, rfl, _, rfl, u, c, M0, argD hM0, by omega, by omega, hW3, fun H4 d4 sb4 hW4 hd4 => ?_⟩
      refine ⟨_, _, rfl, rfl, .inl ⟨by decide, by decide⟩, _, _, rfl, rfl, ?_⟩
      have sb := sb1.trans (sb2.trans (sb3.trans sb4))
      -- from here on: above M, below J
      have swap : ∀ (M J : Int) (y2 : Option V) (H5 : Hp), SameBut u H H5 → WellAt H5 u c → 1 ≤ M → 1 ≤ J → M + J ≤ 12 → M % 2 = o → J % 2 = o → ∀ (Hz : Hp) (d : Nat), SameBut u H5 Hz → WellAt Hz u c →
          (t2 { nx := fun _ H' => Q .non H', rt := Q } [some (.ref u), some (.int (o : Int)), y2, some (.int M), some (.int J), none, none, none, none, none, none, none] Hz ∧ t2 { nx := fun _ H' => Q .non H', rt := Q } [some (.ref u), some (.int (o : Int)), y2, some (.int J), some (.int M), none, none, none, none, none, none, none] Hz) := by
        intro M J y2 H5 sb5 hW5 b1 b2 b3 b4 b5 Hz d sbz hWz
        obtain ⟨m, rfl⟩ : ∃ m : Nat, M = m := ⟨M.toNat, by omega⟩
        obtain ⟨j, rfl⟩ : ∃ j : Nat, J = j := ⟨J.toNat, by omega⟩
        exact ⟨q2 u c o m j _ _ _ y2 Hz Q rfl rfl rfl hWz ⟨ho, by omega, by omega, by omega, by omega, by omega⟩ (fun H' a s' h' h3 => q H' a (sb5.trans (sbz.trans s')) h' h3),
          q2 u c o j m _ _ _ y2 Hz Q rfl rfl rfl hWz ⟨ho, by omega, by omega, by omega, by omega, by omega⟩ (fun H' a s' h' h3 => q H' a (sb5.trans (sbz.trans s')) h' h3)⟩
      refine ⟨_, rfl, u, c, 12, rfl, by omega, by omega, hW4, fun H5 d5 sb5 hW5 hd5 => ?_⟩
      by_cases c1 : d5 = 0
      · refine ⟨rfl, true, bl_t (by rw [c1]; rfl), iteT ?_⟩
        refine ⟨_, rfl, _, _, rfl, rfl, _, rfl, _, rfl, _, _, rfl, rfl, u, c, 5 + o, argD (by omega), by omega, by omega, hW5, fun H6 d6 sb6 hW6 hd6 => ?_⟩
        refine ⟨_, _, rfl, rfl, .inl ⟨by decide, by decide⟩, _, _, rfl, rfl, ?_⟩
        obtain ⟨M1, hM1⟩ : ∃ M1 : Nat, (10 - (2 - (o : Int) + 2 * (d6 : Int)) + (o : Int)) / 2 + 1 = M1 := ⟨_, (Int.toNat_of_nonneg (by omega)).symm⟩
        have b1 : 1 ≤ M1 ∧ M1 ≤ 12 ∧ 2 * ((M1 : Int) - 1) ≤ 10 - (2 - (o : Int) + 2 * (d6 : Int)) + (o : Int) := by omega
        refine ⟨_, rfl, _, _, rfl, rfl, _, rfl, _, rfl, _, _, rfl, rfl, _, rfl, _, _, rfl, rfl, _, _, rfl, rfl, ⟨by decide, by decide⟩, _, _, rfl, rfl, u, c, M1, argD hM1, b1.1, by omega, hW6, fun H7 d7 sb7 hW7 hd7 => ?_⟩
        refine ⟨_, _, rfl, rfl, .inl ⟨by decide, by decide⟩, _, _, rfl, rfl, ?_⟩
        refine ⟨_, rfl, u, c, 2, rfl, by omega, by omega, hW7, fun H8 d8 sb8 hW8 hd8 => ?_⟩
        have fin := fun y2 => swap (2 - (o : Int) + 2 * (d6 : Int)) (2 - (o : Int) + 2 * (d7 : Int)) y2 H7 (sb.trans (sb5.trans (sb6.trans sb7))) hW7 (by omega) (by omega) (by omega) (by omega) (by omega) H8 d8 sb8 hW8
        by_cases c2 : d8 = 0
        · refine ⟨rfl, true, bl_t (by rw [c2]; rfl), iteT ?_⟩
          refine ⟨_, rfl, _, rfl, _, _, rfl, ?_⟩
          exact (fin _).2
        · refine ⟨rfl, false, bl_f (fun e => c2 (by have := V.int.inj e; omega)), iteF ?_⟩
          exact (fin _).1
      · refine ⟨rfl, false, bl_f (fun e => c1 (by have := V.int.inj e; omega)), iteF ?_⟩
        refine ⟨_, rfl, u, c, 2, rfl, by omega, by omega, hW5, fun H8 d8 sb8 hW8 hd8 => ?_⟩
        have fin := fun y2 => swap (2 - (o : Int) + 2 * (d3 : Int)) (2 - (o : Int) + 2 * (d4 : Int)) y2 H5 (sb.trans sb5) hW5 (by omega) (by omega) (by omega) (by omega) (by omega) H8 d8 sb8 hW8
        by_cases c2 : d8 = 0
        · refine ⟨rfl, true, bl_t (by rw [c2]; rfl), iteT ?_⟩
          refine ⟨_, rfl, _, rfl, _, _, rfl, ?_⟩
          exact (fin _).2
        · refine ⟨rfl, false, bl_f (fun e => c2 (by have := V.int.inj e; omega)), iteF ?_⟩
          exact (fin _).1
end
end HM

/-! The law. -/
namespace HM
open PySem PySem.Spec PyProof.Rows L2
section
variable {P : Program} {w : World} {K : PySem.W.Frag} {mg : Str → Option Value} {base : Heap}
theorem same_b3 {f : Addr} {fd : FuncData} (F : FunD K "_law_same" "_law_same" (defArgs sSame) (defBody sSame) (defScope sSame) [.int 9] [] f fd) : Binds K fd ["_law_told", "_law_due", "_law_depth"] [] := by
  obtain ⟨ds, hv, hb⟩ := F.binds1 (ps := ["_law_told", "_law_due", "_law_depth"]) 3 1 (fun z => nomatch z) rfl (fun T kV doc pm an cdv ct us its hu hi =>
    match us, hu, its, hi with
    | [_, _, _], _, [_], _ => ⟨_, rfl, rfl⟩)
  cases hv
  exact hb
theorem same_b2 {f : Addr} {fd : FuncData} (F : FunD K "_law_same" "_law_same" (defArgs sSame) (defBody sSame) (defScope sSame) [.int 9] [] f fd) : ∃ ds, Vals [V.int 9] ds ∧ Binds K fd ["_law_told", "_law_due", "_law_depth"] ds :=
  F.binds1 (ps := ["_law_told", "_law_due", "_law_depth"]) 2 0 (fun z => nomatch z) rfl (fun T kV doc pm an cdv ct us its hu hi =>
    match us, hu, its, hi with
    | [_, _], _, [_], _ => ⟨_, rfl, rfl⟩)
def rot3 {α : Type} : List α → List α
  | [b, g, a] => [g, a, b]
  | _ => []
theorem fits_kbn {f : Addr} {fd : FuncData} (F : Fun K "fits_between" "fits_between" sFits f fd) : KBn K fd ["goal", "ahead", "behind"] 0 ["behind", "goal", "ahead"] (fun _ ws => rot3 ws) (fun _ zs => rot3 zs) := by
  obtain ⟨oc, od, kV, doc, pm, an, cdv, ct, osl, rfl, lk, hcd⟩ := F.ex
  refine ⟨fun s us ws X l1 l2 => ?_, fun {vs us zs ws} r1 r2 => ?_⟩
  · match us, l1, ws, l2 with
    | [], _, [b, g, a], _ => exact .of_eq rfl
  · match zs, ws, r2 with
    | [], _, .nil => exact .nil
    | [_], _, .cons a .nil => exact .nil
    | [_, _], _, .cons a (.cons b .nil) => exact .nil
    | [_, _, _], _, .cons a (.cons b (.cons c .nil)) => exact .cons b (.cons c (.cons a .nil))
    | _ :: _ :: _ :: _ :: _, _, .cons a (.cons b (.cons c (.cons d e))) => exact .nil
def spLaw (K : PySem.W.Frag) : Sp := fun vs H Q _ => ∃ (a : Addr) (ns : List Int), vs = [.ref a] ∧ SqL K H a (ns.map V.int) ∧ ns.length ≤ 63 ∧ ∀ H', Q (.bl true) H'
theorem scLaw : FnScope ["_law_script", "_law_well_here", "_law_turn", "_law_goal", "_law_ahead", "_law_behind_here", "_law_due", "_law_mat_here"] ["_law_script"] (defScope sLaw) := ⟨rfl, rfl, rfl, by decide +kernel, rfl, by decide +kernel, by decide +kernel⟩
/-- what stands for the due one -/
theorem Fits.tk {H H' : Hp} {v : V} {m j : Nat} {o : Option (List Nat)} (h : Fits H v m j o) (k : Tk H H') : Fits H' v m j o := by
  cases o with
  | none => exact h
  | some L => exact MatAt.tk (show MatAt H v m j L from h) k
theorem fits_same {H : Hp} {v vd : V} {m j : Nat} {o : Option (List Nat)} (h1 : Fits H v m j o) (h2 : Fits H vd m j o) (hl : ∀ L, o = some L → L.length ≤ 1000) : (v = .non ∧ vd = .non) ∨ ∃ (n m : Nat) (L : List Nat), MatAt H v n m L ∧ MatAt H vd n m L ∧ L.length ≤ 1000 := by
  cases o with
  | none => exact .inl ⟨h1, h2⟩
  | some L => exact .inr ⟨m, j, L, h1, h2, hl L rfl⟩
set_option maxHeartbeats 16000000 in
theorem ok_law {f fW fT fA fB fS fF : Addr} {fd fdW fdT fdA fdB fdS fdF : FuncData} {ds : List Value} (F : Fun K "law" "law" sLaw f fd) (mr : mg "range" = none)
    (GW : FnOk P w K mg base CX0 1 fW fdW ["_law_script"] (spWell K)) (kW : PySem.W.keepIn K (.ref fW) = true) (bW : Binds K fdW ["_law_script"] []) (gW : mg "_law_well" = some (.ref fW))
    (GT : FnOk P w K mg base CX0 3 fT fdT ["_law_well_here"] spThree) (kT : PySem.W.keepIn K (.ref fT) = true) (bT : Binds K fdT ["_law_well_here"] []) (gT : mg "_law_three" = some (.ref fT))
    (GA : FnOk P w K mg base CX0 1 fA fdA ["_law_n", "_law_m"] spLAll) (kA : PySem.W.keepIn K (.ref fA) = true) (bA : Binds K fdA ["_law_n", "_law_m"] []) (gA : mg "_law_all" = some (.ref fA))
    (GB : FnOk P w K mg base CX0 1 fB fdB ["_law_one", "_law_other"] spLBehind) (kB : PySem.W.keepIn K (.ref fB) = true) (bB : Binds K fdB ["_law_one", "_law_other"] []) (gB : mg "_law_behind" = some (.ref fB))
    (GS : FnOk P w K mg base CX0 3 fS fdS ["_law_told", "_law_due", "_law_depth"] spSame) (kS : PySem.W.keepIn K (.ref fS) = true) (dS : Vals [V.int 9] ds) (bS : Binds K fdS ["_law_told", "_law_due", "_law_depth"] ds) (gS : mg "_law_same" = some (.ref fS))
    (GF : FnOk P w K mg base CX0 4 fF fdF ["goal", "ahead", "behind"] spFits) (kF : PySem.W.keepIn K (.ref fF) = true) (bF : Binds K fdF ["goal", "ahead", "behind"] []) (nF : KBn K fdF ["goal", "ahead", "behind"] 0 ["behind", "goal", "ahead"] (fun _ ws => rot3 ws) (fun _ zs => rot3 zs)) (gF : mg "fits_between" = some (.ref fF)) :
    FnOk P w K mg base CX0 5 f fd ["_law_script"] (spLaw K) := by
  refine F.ok scLaw (fun vs H Q E h => ?_) (fun cdv A0 outer s H vs Q E hr h => ?_)
  · obtain ⟨a, ns, rfl, _⟩ := h
    rfl
  · obtain ⟨sc, ns, rfl, hsc, hns, q⟩ := h
    have nd := scLaw.nd
    refine ⟨_, pss_cons (ps_set (i := 1) nd rfl (.inl rfl) (pe_call GW (hr.mono (by decide)) (by rfl) gW kW bW .nil pass0 (pa_cons (pv 0) pa_nil)))
      (pss_cons (ps_for PassesOwn.never rfl (pi_range1 rfl mr (pa_cons pe_int pa_nil)) (pg_name (i := 2) nd rfl (.inl rfl))
        (pss_cons (ps_asg (pe_call GT (hr.mono (by decide)) (by rfl) gT kT bT .nil pass0 (pa_cons (pv 1) pa_nil)) (pg_tup rfl (pgs_cons (pg_name (i := 3) nd rfl (.inl rfl)) (pgs_cons (pg_name (i := 4) nd rfl (.inl rfl)) (pgs_cons (pg_name (i := 5) nd rfl (.inl rfl)) pgs_nil)))))
        (pss_cons (ps_set (i := 6) nd rfl (.inl rfl) pe_non)
        (pss_cons (ps_for PassesOwn.never rfl (pi_list (pe_call GA (hr.mono (by decide)) (by rfl) gA kA bA .nil pass0 (pa_cons (pe_ix ix_tup (pv 4) pe_int (fun _ _ => rfl)) (pa_cons (pe_ix ix_tup (pv 5) pe_int (fun _ _ => rfl)) pa_nil)))) (pg_name (i := 7) nd rfl (.inl rfl))
          (pss_one (ps_if (PW.pt (pw_and (pt_cmpR op_isN (pv 6) pe_non (nomark _)) (pw_and1 (pt_cmpR (op_eqD hr.units)
              (pe_ix ix_tup (pe_call GB (hr.mono (by decide)) (by rfl) gB kB bB .nil pass0 (pa_cons (pe_ix ix_tup (pe_call GB (hr.mono (by decide)) (by rfl) gB kB bB .nil pass0 (pa_cons (pv 4) (pa_cons (pv 7) pa_nil))) pe_int (fun _ _ => rfl)) (pa_cons (pv 5) pa_nil))) pe_int (fun _ _ => rfl)) (pv 3) (nomark _)))))
            (pss_one (ps_set (i := 6) nd rfl (.inl rfl) (pv 7))) pss_nil)))
        (pss_cons (ps_if (pt_not (pt_val (pe_call GS (hr.mono (by decide)) (by rfl) gS kS bS dS pass0 (pa_cons (pe_call GF hr (by rfl) gF kF bF .nil pass0 (pa_cons (pv 3) (pa_cons (pv 4) (pa_cons (pv 5) pa_nil)))) (pa_cons (pv 6) pa_nil)))))
          (pss_one (ps_ret pe_bl)) pss_nil)
        (pss_one (ps_if (pt_not (pt_val (pe_call GS (hr.mono (by decide)) (by rfl) gS kS bS dS pass0 (pa_cons (pe_callN0 GF hr (by rfl) gF kF nF pass0 (pk_cons (pv 5) (pk_cons (pv 3) (pk_cons (pv 4) pk_nil)))) (pa_cons (pv 6) pa_nil)))))
          (pss_one (ps_ret pe_bl)) pss_nil)))))))
      (pss_one (ps_ret pe_bl))), ?_⟩
    refine ⟨_, rfl, sc, ns, rfl, hsc, by omega, fun H1 u c s1 nu hW => ?_⟩
    refine ⟨_, rfl, by decide, by decide, for_range (lo := 0) (n := 2) (fun i σ H' => ∃ y2 y3 y4 y5 y6 y7, σ = [some (.ref sc), some (.ref u), y2, y3, y4, y5, y6, y7] ∧ WellAt H' u c)
      ⟨none, none, none, none, none, none, rfl, hW⟩ ?_ ?_⟩
    · rintro i σ H2 hi ⟨y2, y3, y4, y5, y6, y7, rfl, hW2⟩
      refine ⟨_, rfl, u, c, rfl, hW2, fun H3 t sb3 hW3 h3 => ?_⟩
      obtain ⟨vg, va, vb, n, k, m, j, G, A, B, ht, hg, mG, ha, mA, hb, mB, b1, b2, b3, b4, b5, b6, b7, b8⟩ := h3
      refine ⟨t, _, rfl, SqT.of ht, rfl, _, _, rfl, _, _, rfl, _, _, rfl, rfl, ?_⟩
      obtain ⟨a, ta, rfl, ha1, ha2⟩ := id ha
      obtain ⟨b, tb, rfl, hb1, hb2⟩ := id hb
      refine ⟨_, rfl, a, _, 1, nv m, rfl, rfl, SqT.of ha1, atI_nat (j := 1) rfl, _, rfl, b, _, 0, nv j, rfl, rfl, SqT.of hb1, atI_nat (j := 0) rfl, m, j, rfl, b7, fun H4 p xs s4 hxs exs => ?_⟩
      obtain ⟨hp, hms⟩ := hxs
      have memx : ∀ x, x ∈ (sortM xs).map (·.2) ↔ IsMat m j x := fun x => by
        rw [← mem_foundN, ← exs]
        constructor
        · intro h
          obtain ⟨z, hz, e⟩ := List.mem_map.mp h
          exact List.mem_map.mpr ⟨z, mem_sortM.mp hz, e⟩
        · intro h
          obtain ⟨z, hz, e⟩ := List.mem_map.mp h
          exact List.mem_map.mpr ⟨z, mem_sortM.mpr hz, e⟩
      have pwx : ((sortM xs).map (·.2)).Pairwise fun x y => ¬ castL y < castL x := List.pairwise_map.mpr (sortM_pw xs)
      have hW4 := hW3.keep s4
      refine ⟨p, rfl, ⟨_, SqL.of hp⟩, for_list (K := K) (a := p) (xs := (sortM xs).map (·.1)) (fun i σ H' => ∃ y2 vd y7, σ = [some (.ref sc), some (.ref u), y2, some vg, some (.ref a), some (.ref b), some vd, y7] ∧ Same H4 H' ∧
          ((vd = .non ∧ ∀ y ∈ ((sortM xs).map (·.2)).take i, fit n m j k G A B y = false) ∨ ∃ z, ((sortM xs).map (·.2)).find? (fit n m j k G A B) = some z ∧ MatAt H' vd m j z))
        ⟨_, _, _, rfl, Same.refl _, .inl ⟨rfl, fun y hy => by simp at hy⟩⟩ (fun i σ H' _ ⟨_, _, _, _, s, _⟩ => SqL.of (s _ _ hp)) ?_ ?_⟩
      · rintro i x σ H5 hx ⟨y2, vd, y7, rfl, s5, hno⟩
        obtain ⟨z, hz, ez⟩ : ∃ z, (sortM xs)[i]? = some z ∧ z.1 = x := by
          rw [List.getElem?_map] at hx
          cases e : (sortM xs)[i]? with
          | none => rw [e] at hx; cases hx
          | some z => rw [e] at hx; exact ⟨z, rfl, Option.some.inj hx⟩
        subst ez
        have hzm := hms z (mem_sortM.mp (List.mem_of_getElem? hz))
        have hz2 : ((sortM xs).map (·.2))[i]? = some z.2 := by rw [List.getElem?_map, hz]; rfl
        have mZ : IsMat m j z.2 := (memx z.2).mp (List.mem_of_getElem? hz2)
        have c1 := comp_mat mA mZ
        have c2 := comp_mat c1 mB
        rcases hno with ⟨rfl, hno⟩ | ⟨zz, hzz, hvd⟩
        · refine ⟨_, rfl, rfl, true, bl_t rfl, iteT ?_⟩
          have s45 := s4.trans s5
          refine ⟨_, rfl, _, rfl, .ref a, z.1, n, m, j, A, z.2, rfl, by omega, by omega, by omega, ha.tk (tk_same s45), hzm.tk (tk_same s5), mA, mZ, fun H6 a6 z6 v6 s6 e6 h6 => ?_⟩
          refine ⟨a6, _, 1, v6, rfl, rfl, SqT.of e6, atI_nat (j := 1) rfl, ?_⟩
          have s46 := s45.trans s6
          refine ⟨_, rfl, v6, .ref b, n, j, k, _, B, rfl, by omega, by omega, by omega, h6, hb.tk (tk_same s46), c1, mB, fun H7 a7 z7 v7 s7 e7 h7 => ?_⟩
          refine ⟨a7, _, 1, v7, rfl, rfl, SqT.of e7, atI_nat (j := 1) rfl, ?_⟩
          have s47 := s46.trans s7
          refine ⟨_, rfl, _, _, h7.dp, (hg.tk (tk_same s47)).dp, shaped_encM _ _ _, shaped_encM _ _ _, _, rfl, ?_⟩
          rw [eqv_encM]
          show if fit n m j k G A B z.2 = true then _ else _
          have s57 := s5.trans (s6.trans s7)
          cases hf : fit n m j k G A B z.2 with
          | true =>
            refine iteT ?_
            refine ⟨_, rfl, _, _, _, rfl, s57, .inr ⟨z.2, find_some_at hno hz2 hf, hzm.tk (tk_same s57)⟩⟩
          | false =>
            refine iteF ?_
            exact ⟨_, _, _, rfl, s57, .inl ⟨rfl, find_none_take hno hz2 hf⟩⟩
        · obtain ⟨ad, td, rfl, hd1, hd2⟩ := id hvd
          refine ⟨_, rfl, rfl, false, bl_f (fun e => nomatch e), iteF ?_⟩
          refine iteF ?_
          exact ⟨_, _, _, rfl, s5, .inr ⟨zz, hzz, hvd⟩⟩
      · rintro σ H5 ⟨y2, vd, y7, rfl, s5, hno⟩
        have due : Fits H5 vd m j (((sortM xs).map (·.2)).find? (fit n m j k G A B)) := by
          rcases hno with ⟨rfl, hno⟩ | ⟨zz, hzz, hvd⟩
          · have : ((sortM xs).map (·.2)).find? (fit n m j k G A B) = none := by
              rw [List.find?_eq_none]
              intro x hx
              rw [List.length_map] at hno
              rw [hno x (by rw [List.take_of_length_le (by rw [List.length_map]; exact Nat.le_refl _)]; exact hx)]
              decide
            rw [this]
            rfl
          · rw [hzz]; exact hvd
        have hlen : ∀ L, ((sortM xs).map (·.2)).find? (fit n m j k G A B) = some L → L.length ≤ 1000 := fun L e => by
          rw [((memx L).mp (List.mem_of_find?_eq_some e)).len]; omega
        have s45 := s4.trans s5
        have hg5 := hg.tk (tk_same s45)
        have ha5 := ha.tk (tk_same s45)
        have hb5 := hb.tk (tk_same s45)
        refine ⟨_, rfl, _, rfl, _, rfl, vg, .ref a, .ref b, n, m, j, k, G, A, B, rfl, by omega, by omega, by omega, by omega, by omega, by omega, b7, b8, hg5, ha5, hb5, mG, mA, mB, fun H6 v l s6 pw mem hv => ?_⟩
        rw [find_mats pw pwx (fun x => (mem x).trans (memx x).symm)] at hv
        refine ⟨_, rfl, v, vd, rfl, fits_same hv (due.tk (tk_same s6)) hlen, fun H7 s7 => ⟨true, rfl, iteF ?_⟩⟩
        have s57 := s6.trans s7
        have hg7 := hg5.tk (tk_same s57)
        have ha7 := ha5.tk (tk_same s57)
        have hb7 := hb5.tk (tk_same s57)
        refine ⟨_, rfl, _, rfl, _, rfl, rfl, rfl, vg, .ref a, .ref b, n, m, j, k, G, A, B, rfl, by omega, by omega, by omega, by omega, by omega, by omega, b7, b8, hg7, ha7, hb7, mG, mA, mB, fun H8 v2 l2 s8 pw2 mem2 hv2 => ?_⟩
        rw [find_mats pw2 pwx (fun x => (mem2 x).trans (memx x).symm)] at hv2
        refine ⟨_, rfl, v2, vd, rfl, fits_same hv2 ((due.tk (tk_same s57)).tk (tk_same s8)) hlen, fun H9 s9 => ⟨true, rfl, iteF ?_⟩⟩
        exact ⟨_, _, _, _, _, _, rfl, hW4.keep (s5.trans (s57.trans (s8.trans s9)))⟩
    · rintro σ H2 ⟨y2, y3, y4, y5, y6, y7, rfl, hW2⟩
      exact q _
end
end HM

/-! The end. -/
namespace HM
open PySem PySem.Spec PyProof.Rows L2
theorem all_mk {l : PySem.W.OpenLaw} {w : World} {K : PySem.W.Frag} {h : Heap} {mg : Str → Option Value} {fa f1 f2 f3 f4 f5 f6 f7 f8 f9 f10 f11 f12 f13 f14 f15 f16 f17 f18 f19 f20 f21 f22 : Addr} (X : K.In h) (G : h.Ns mainGlobals mg) (hfa : mg "law" = some (.ref fa))
    {od1 an1 od2 an2 od3 an3 od4 an4 od5 an5 od6 an6 od7 an7 od8 an8 od9 an9 od10 an10 od11 an11 od12 an12 od13 an13 od14 an14 od15 an15 od16 an16 od17 an17 od18 an18 od19 an19 od20 an20 od21 an21 od22 an22 : Option Addr} {sl1 sl2 sl3 sl4 sl5 sl6 sl7 sl8 sl9 sl10 sl11 sl12 sl13 sl14 sl15 sl16 sl17 sl18 sl19 sl20 sl21 sl22 : Array (Option Value)} {oc1 kV1 dc1 pm1 cd1 ct1 oc2 kV2 dc2 pm2 cd2 ct2 oc3 kV3 dc3 pm3 cd3 ct3 oc4 kV4 dc4 pm4 cd4 ct4 oc5 kV5 dc5 pm5 cd5 ct5 oc6 kV6 dc6 pm6 cd6 ct6 oc7 kV7 dc7 pm7 cd7 ct7 oc8 kV8 dc8 pm8 cd8 ct8 oc9 kV9 dc9 pm9 cd9 ct9 oc10 kV10 dc10 pm10 cd10 ct10 oc11 kV11 dc11 pm11 cd11 ct11 oc12 kV12 dc12 pm12 cd12 ct12 oc13 kV13 dc13 pm13 cd13 ct13 oc14 kV14 dc14 pm14 cd14 ct14 oc15 kV15 dc15 pm15 cd15 ct15 oc16 kV16 dc16 pm16 cd16 ct16 oc17 kV17 dc17 pm17 cd17 ct17 oc18 kV18 dc18 pm18 cd18 ct18 oc19 kV19 dc19 pm19 cd19 ct19 oc20 kV20 dc20 pm20 cd20 ct20 oc21 kV21 dc21 pm21 cd21 ct21 oc22 kV22 dc22 pm22 cd22 ct22 dV22 : Value}
    (a1 : PySem.W.nsIn K mainGlobals "round_of" = some (some (.ref f1))) (l1 : K.lookup f1 = some ⟨oc1, od1, .func (PySem.W.fnOf "round_of" "round_of" (defArgs sRound) (defBody sRound) (defScope sRound) .none kV1 dc1 pm1 an1 cd1 ct1), sl1⟩) (c1 : PySem.W.codeIn K cd1 "round_of" = true) (k1 : PySem.W.keepIn K (.ref f1) = true)
    (a2 : PySem.W.nsIn K mainGlobals "is_mat" = some (some (.ref f2))) (l2 : K.lookup f2 = some ⟨oc2, od2, .func (PySem.W.fnOf "is_mat" "is_mat" (defArgs sIsMat) (defBody sIsMat) (defScope sIsMat) .none kV2 dc2 pm2 an2 cd2 ct2), sl2⟩) (c2 : PySem.W.codeIn K cd2 "is_mat" = true) (k2 : PySem.W.keepIn K (.ref f2) = true)
    (a3 : PySem.W.nsIn K mainGlobals "checked_mat" = some (some (.ref f3))) (l3 : K.lookup f3 = some ⟨oc3, od3, .func (PySem.W.fnOf "checked_mat" "checked_mat" (defArgs sChecked) (defBody sChecked) (defScope sChecked) .none kV3 dc3 pm3 an3 cd3 ct3), sl3⟩) (c3 : PySem.W.codeIn K cd3 "checked_mat" = true) (k3 : PySem.W.keepIn K (.ref f3) = true)
    (a4 : PySem.W.nsIn K mainGlobals "check_counts" = some (some (.ref f4))) (l4 : K.lookup f4 = some ⟨oc4, od4, .func (PySem.W.fnOf "check_counts" "check_counts" (defArgs sCounts) (defBody sCounts) (defScope sCounts) .none kV4 dc4 pm4 an4 cd4 ct4), sl4⟩) (c4 : PySem.W.codeIn K cd4 "check_counts" = true) (k4 : PySem.W.keepIn K (.ref f4) = true)
    (a5 : PySem.W.nsIn K mainGlobals "remade" = some (some (.ref f5))) (l5 : K.lookup f5 = some ⟨oc5, od5, .func (PySem.W.fnOf "remade" "remade" (defArgs sRemade) (defBody sRemade) (defScope sRemade) .none kV5 dc5 pm5 an5 cd5 ct5), sl5⟩) (c5 : PySem.W.codeIn K cd5 "remade" = true) (k5 : PySem.W.keepIn K (.ref f5) = true)
    (a6 : PySem.W.nsIn K mainGlobals "patterns" = some (some (.ref f6))) (l6 : K.lookup f6 = some ⟨oc6, od6, .func (PySem.W.fnOf "patterns" "patterns" (defArgs sPatterns) (defBody sPatterns) (defScope sPatterns) .none kV6 dc6 pm6 an6 cd6 ct6), sl6⟩) (c6 : PySem.W.codeIn K cd6 "patterns" = true) (k6 : PySem.W.keepIn K (.ref f6) = true)
    (a7 : PySem.W.nsIn K mainGlobals "all_mats" = some (some (.ref f7))) (l7 : K.lookup f7 = some ⟨oc7, od7, .func (PySem.W.fnOf "all_mats" "all_mats" (defArgs sAllMats) (defBody sAllMats) (defScope sAllMats) .none kV7 dc7 pm7 an7 cd7 ct7), sl7⟩) (c7 : PySem.W.codeIn K cd7 "all_mats" = true) (k7 : PySem.W.keepIn K (.ref f7) = true)
    (a8 : PySem.W.nsIn K mainGlobals "far_end" = some (some (.ref f8))) (l8 : K.lookup f8 = some ⟨oc8, od8, .func (PySem.W.fnOf "far_end" "far_end" (defArgs sFarEnd) (defBody sFarEnd) (defScope sFarEnd) .none kV8 dc8 pm8 an8 cd8 ct8), sl8⟩) (c8 : PySem.W.codeIn K cd8 "far_end" = true) (k8 : PySem.W.keepIn K (.ref f8) = true)
    (a9 : PySem.W.nsIn K mainGlobals "loose_rings" = some (some (.ref f9))) (l9 : K.lookup f9 = some ⟨oc9, od9, .func (PySem.W.fnOf "loose_rings" "loose_rings" (defArgs sLoose) (defBody sLoose) (defScope sLoose) .none kV9 dc9 pm9 an9 cd9 ct9), sl9⟩) (c9 : PySem.W.codeIn K cd9 "loose_rings" = true) (k9 : PySem.W.keepIn K (.ref f9) = true)
    (a10 : PySem.W.nsIn K mainGlobals "put_behind" = some (some (.ref f10))) (l10 : K.lookup f10 = some ⟨oc10, od10, .func (PySem.W.fnOf "put_behind" "put_behind" (defArgs sPutBehind) (defBody sPutBehind) (defScope sPutBehind) .none kV10 dc10 pm10 an10 cd10 ct10), sl10⟩) (c10 : PySem.W.codeIn K cd10 "put_behind" = true) (k10 : PySem.W.keepIn K (.ref f10) = true)
    (a11 : PySem.W.nsIn K mainGlobals "mat_behind" = some (some (.ref f11))) (l11 : K.lookup f11 = some ⟨oc11, od11, .func (PySem.W.fnOf "mat_behind" "mat_behind" (defArgs sMatBehind) (defBody sMatBehind) (defScope sMatBehind) .none kV11 dc11 pm11 an11 cd11 ct11), sl11⟩) (c11 : PySem.W.codeIn K cd11 "mat_behind" = true) (k11 : PySem.W.keepIn K (.ref f11) = true)
    (a12 : PySem.W.nsIn K mainGlobals "check_pair" = some (some (.ref f12))) (l12 : K.lookup f12 = some ⟨oc12, od12, .func (PySem.W.fnOf "check_pair" "check_pair" (defArgs sCheckPair) (defBody sCheckPair) (defScope sCheckPair) .none kV12 dc12 pm12 an12 cd12 ct12), sl12⟩) (c12 : PySem.W.codeIn K cd12 "check_pair" = true) (k12 : PySem.W.keepIn K (.ref f12) = true)
    (a13 : PySem.W.nsIn K mainGlobals "fits_between" = some (some (.ref f13))) (l13 : K.lookup f13 = some ⟨oc13, od13, .func (PySem.W.fnOf "fits_between" "fits_between" (defArgs sFits) (defBody sFits) (defScope sFits) .none kV13 dc13 pm13 an13 cd13 ct13), sl13⟩) (c13 : PySem.W.codeIn K cd13 "fits_between" = true) (k13 : PySem.W.keepIn K (.ref f13) = true)
    (a14 : PySem.W.nsIn K mainGlobals "_law_well" = some (some (.ref f14))) (l14 : K.lookup f14 = some ⟨oc14, od14, .func (PySem.W.fnOf "_law_well" "_law_well" (defArgs sWell) (defBody sWell) (defScope sWell) .none kV14 dc14 pm14 an14 cd14 ct14), sl14⟩) (c14 : PySem.W.codeIn K cd14 "_law_well" = true) (k14 : PySem.W.keepIn K (.ref f14) = true)
    (a15 : PySem.W.nsIn K mainGlobals "_law_dip" = some (some (.ref f15))) (l15 : K.lookup f15 = some ⟨oc15, od15, .func (PySem.W.fnOf "_law_dip" "_law_dip" (defArgs sDip) (defBody sDip) (defScope sDip) .none kV15 dc15 pm15 an15 cd15 ct15), sl15⟩) (c15 : PySem.W.codeIn K cd15 "_law_dip" = true) (k15 : PySem.W.keepIn K (.ref f15) = true)
    (a16 : PySem.W.nsIn K mainGlobals "_law_mat" = some (some (.ref f16))) (l16 : K.lookup f16 = some ⟨oc16, od16, .func (PySem.W.fnOf "_law_mat" "_law_mat" (defArgs sLMat) (defBody sLMat) (defScope sLMat) .none kV16 dc16 pm16 an16 cd16 ct16), sl16⟩) (c16 : PySem.W.codeIn K cd16 "_law_mat" = true) (k16 : PySem.W.keepIn K (.ref f16) = true)
    (a17 : PySem.W.nsIn K mainGlobals "_law_behind" = some (some (.ref f17))) (l17 : K.lookup f17 = some ⟨oc17, od17, .func (PySem.W.fnOf "_law_behind" "_law_behind" (defArgs sLBehind) (defBody sLBehind) (defScope sLBehind) .none kV17 dc17 pm17 an17 cd17 ct17), sl17⟩) (c17 : PySem.W.codeIn K cd17 "_law_behind" = true) (k17 : PySem.W.keepIn K (.ref f17) = true)
    (a18 : PySem.W.nsIn K mainGlobals "_law_all" = some (some (.ref f18))) (l18 : K.lookup f18 = some ⟨oc18, od18, .func (PySem.W.fnOf "_law_all" "_law_all" (defArgs sLAll) (defBody sLAll) (defScope sLAll) .none kV18 dc18 pm18 an18 cd18 ct18), sl18⟩) (c18 : PySem.W.codeIn K cd18 "_law_all" = true) (k18 : PySem.W.keepIn K (.ref f18) = true)
    (a19 : PySem.W.nsIn K mainGlobals "_law_upside" = some (some (.ref f19))) (l19 : K.lookup f19 = some ⟨oc19, od19, .func (PySem.W.fnOf "_law_upside" "_law_upside" (defArgs sUpside) (defBody sUpside) (defScope sUpside) .none kV19 dc19 pm19 an19 cd19 ct19), sl19⟩) (c19 : PySem.W.codeIn K cd19 "_law_upside" = true) (k19 : PySem.W.keepIn K (.ref f19) = true)
    (a20 : PySem.W.nsIn K mainGlobals "_law_three" = some (some (.ref f20))) (l20 : K.lookup f20 = some ⟨oc20, od20, .func (PySem.W.fnOf "_law_three" "_law_three" (defArgs sThree) (defBody sThree) (defScope sThree) .none kV20 dc20 pm20 an20 cd20 ct20), sl20⟩) (c20 : PySem.W.codeIn K cd20 "_law_three" = true) (k20 : PySem.W.keepIn K (.ref f20) = true)
    (a21 : PySem.W.nsIn K mainGlobals "law" = some (some (.ref f21))) (l21 : K.lookup f21 = some ⟨oc21, od21, .func (PySem.W.fnOf "law" "law" (defArgs sLaw) (defBody sLaw) (defScope sLaw) .none kV21 dc21 pm21 an21 cd21 ct21), sl21⟩) (c21 : PySem.W.codeIn K cd21 "law" = true) (k21 : PySem.W.keepIn K (.ref f21) = true)
    (a22 : PySem.W.nsIn K mainGlobals "_law_same" = some (some (.ref f22))) (l22 : K.lookup f22 = some ⟨oc22, od22, .func (PySem.W.fnOf "_law_same" "_law_same" (defArgs sSame) (defBody sSame) (defScope sSame) dV22 kV22 dc22 pm22 an22 cd22 ct22), sl22⟩) (c22 : PySem.W.codeIn K cd22 "_law_same" = true) (k22 : PySem.W.keepIn K (.ref f22) = true)
    {T : Addr} {cT : Value} {dT : Option Addr} {uT : Tok} {nT : Nat} {slT : Array (Option Value)} (d22 : dV22 = .ref T) (lT : K.lookup T = some ⟨cT, dT, .seq #[.int 9 uT] nT, slT⟩)
    (z_list : PySem.W.nsIn K mainGlobals "list" = some none) (z_range : PySem.W.nsIn K mainGlobals "range" = some none) (z_len : PySem.W.nsIn K mainGlobals "len" = some none) (z_enumerate : PySem.W.nsIn K mainGlobals "enumerate" = some none) (z_tuple : PySem.W.nsIn K mainGlobals "tuple" = some none) (z_sorted : PySem.W.nsIn K mainGlobals "sorted" = some none) (z_int : PySem.W.nsIn K mainGlobals "int" = some none) (z_min : PySem.W.nsIn K mainGlobals "min" = some none) (z_isinstance : PySem.W.nsIn K mainGlobals "isinstance" = some none) (z_bool : PySem.W.nsIn K mainGlobals "bool" = some none) (z_str : PySem.W.nsIn K mainGlobals "str" = some none) :
    ∃ fd : FuncData, (∀ (s : Shared) (v : Value), BindsTo s fd ⟨[v], []⟩ [("_law_script", v)]) ∧ ∀ base : Heap, K.In base → base.Ns mainGlobals mg → FnOk l.prog w K mg base CX0 5 fa fd ["_law_script"] (spLaw K) := by
  have e := hfa.symm.trans (PySem.W.mg_of X G a21)
  cases e
  subst d22
  have F1 := fun_mk (st := sRound) l1 c1 k1
  have b1 := F1.binds (ps := ["n", "m"]) fun _ _ _ _ _ _ us hl => match us, hl with | [_, _], _ => rfl
  have g1 := PySem.W.mg_of X G a1
  have F2 := fun_mk (st := sIsMat) l2 c2 k2
  have b2 := F2.binds (ps := ["told"]) fun _ _ _ _ _ _ us hl => match us, hl with | [_], _ => rfl
  have g2 := PySem.W.mg_of X G a2
  have F3 := fun_mk (st := sChecked) l3 c3 k3
  have b3 := F3.binds (ps := ["mat"]) fun _ _ _ _ _ _ us hl => match us, hl with | [_], _ => rfl
  have g3 := PySem.W.mg_of X G a3
  have F4 := fun_mk (st := sCounts) l4 c4 k4
  have b4 := F4.binds (ps := ["n", "m"]) fun _ _ _ _ _ _ us hl => match us, hl with | [_, _], _ => rfl
  have g4 := PySem.W.mg_of X G a4
  have F5 := fun_mk (st := sRemade) l5 c5 k5
  have b5 := F5.binds (ps := ["n", "m", "mates", "place"]) fun _ _ _ _ _ _ us hl => match us, hl with | [_, _, _, _], _ => rfl
  have g5 := PySem.W.mg_of X G a5
  have F6 := fun_mk (st := sPatterns) l6 c6 k6
  have b6 := F6.binds (ps := ["half"]) fun _ _ _ _ _ _ us hl => match us, hl with | [_], _ => rfl
  have g6 := PySem.W.mg_of X G a6
  have F7 := fun_mk (st := sAllMats) l7 c7 k7
  have b7 := F7.binds (ps := ["n", "m"]) fun _ _ _ _ _ _ us hl => match us, hl with | [_, _], _ => rfl
  have g7 := PySem.W.mg_of X G a7
  have F8 := fun_mk (st := sFarEnd) l8 c8 k8
  have b8 := F8.binds (ps := ["one", "other", "peg", "passed"]) fun _ _ _ _ _ _ us hl => match us, hl with | [_, _, _, _], _ => rfl
  have g8 := PySem.W.mg_of X G a8
  have F9 := fun_mk (st := sLoose) l9 c9 k9
  have b9 := F9.binds (ps := ["one", "other", "passed"]) fun _ _ _ _ _ _ us hl => match us, hl with | [_, _, _], _ => rfl
  have g9 := PySem.W.mg_of X G a9
  have F10 := fun_mk (st := sPutBehind) l10 c10 k10
  have b10 := F10.binds (ps := ["one", "other"]) fun _ _ _ _ _ _ us hl => match us, hl with | [_, _], _ => rfl
  have g10 := PySem.W.mg_of X G a10
  have F11 := fun_mk (st := sMatBehind) l11 c11 k11
  have b11 := F11.binds (ps := ["one", "other"]) fun _ _ _ _ _ _ us hl => match us, hl with | [_, _], _ => rfl
  have g11 := PySem.W.mg_of X G a11
  have F12 := fun_mk (st := sCheckPair) l12 c12 k12
  have b12 := F12.binds (ps := ["above", "below"]) fun _ _ _ _ _ _ us hl => match us, hl with | [_, _], _ => rfl
  have g12 := PySem.W.mg_of X G a12
  have F13 := fun_mk (st := sFits) l13 c13 k13
  have b13 := F13.binds (ps := ["goal", "ahead", "behind"]) fun _ _ _ _ _ _ us hl => match us, hl with | [_, _, _], _ => rfl
  have g13 := PySem.W.mg_of X G a13
  have F14 := fun_mk (st := sWell) l14 c14 k14
  have b14 := F14.binds (ps := ["_law_script"]) fun _ _ _ _ _ _ us hl => match us, hl with | [_], _ => rfl
  have g14 := PySem.W.mg_of X G a14
  have F15 := fun_mk (st := sDip) l15 c15 k15
  have b15 := F15.binds (ps := ["_law_well_here", "_law_many"]) fun _ _ _ _ _ _ us hl => match us, hl with | [_, _], _ => rfl
  have g15 := PySem.W.mg_of X G a15
  have F16 := fun_mk (st := sLMat) l16 c16 k16
  have b16 := F16.binds (ps := ["_law_well_here", "_law_n", "_law_m"]) fun _ _ _ _ _ _ us hl => match us, hl with | [_, _, _], _ => rfl
  have g16 := PySem.W.mg_of X G a16
  have F17 := fun_mk (st := sLBehind) l17 c17 k17
  have b17 := F17.binds (ps := ["_law_one", "_law_other"]) fun _ _ _ _ _ _ us hl => match us, hl with | [_, _], _ => rfl
  have g17 := PySem.W.mg_of X G a17
  have F18 := fun_mk (st := sLAll) l18 c18 k18
  have b18 := F18.binds (ps := ["_law_n", "_law_m"]) fun _ _ _ _ _ _ us hl => match us, hl with | [_, _], _ => rfl
  have g18 := PySem.W.mg_of X G a18
  have F19 := fun_mk (st := sUpside) l19 c19 k19
  have b19 := F19.binds (ps := ["_law_mat_here"]) fun _ _ _ _ _ _ us hl => match us, hl with | [_], _ => rfl
  have g19 := PySem.W.mg_of X G a19
  have F20 := fun_mk (st := sThree) l20 c20 k20
  have b20 := F20.binds (ps := ["_law_well_here"]) fun _ _ _ _ _ _ us hl => match us, hl with | [_], _ => rfl
  have g20 := PySem.W.mg_of X G a20
  have F21 := fun_mk (st := sLaw) l21 c21 k21
  have F22 : FunD K "_law_same" "_law_same" (defArgs sSame) (defBody sSame) (defScope sSame) [.int 9] [] f22 _ := ⟨⟨_, _, _, _, _, _, _, _, _, _, rfl, l22, c22, .inr ⟨(fun z => nomatch z), T, _, [.int 9 uT], nT, rfl, lT, rfl, .cons ⟨uT, rfl⟩ .nil⟩, .inl rfl⟩, k22⟩
  have g22 := PySem.W.mg_of X G a22
  have y_list := PySem.W.mg_none_of X G z_list
  have y_range := PySem.W.mg_none_of X G z_range
  have y_len := PySem.W.mg_none_of X G z_len
  have y_enumerate := PySem.W.mg_none_of X G z_enumerate
  have y_tuple := PySem.W.mg_none_of X G z_tuple
  have y_sorted := PySem.W.mg_none_of X G z_sorted
  have y_int := PySem.W.mg_none_of X G z_int
  have y_min := PySem.W.mg_none_of X G z_min
  have y_isinstance := PySem.W.mg_none_of X G z_isinstance
  have y_bool := PySem.W.mg_none_of X G z_bool
  have y_str := PySem.W.mg_none_of X G z_str
  obtain ⟨ds, vS, b2S⟩ := same_b2 F22
  refine ⟨PySem.W.fnOf "law" "law" (defArgs sLaw) (defBody sLaw) (defScope sLaw) .none kV21 dc21 pm21 an21 cd21 ct21, fun s v => .of_eq rfl, fun base _ _ => ?_⟩
  have O_round := ok_round (P := l.prog) (w := w) (mg := mg) (base := base) F1 y_list y_range
  have O_isMat := ok_isMat (P := l.prog) (w := w) (mg := mg) (base := base) F2 O_round k1 b1 g1 y_enumerate y_len
  have O_checked := ok_checked (P := l.prog) (w := w) (mg := mg) (base := base) F3 O_isMat k2 b2 g2
  have O_counts := ok_counts (P := l.prog) (w := w) (mg := mg) (base := base) F4
  have O_pair := ok_pair (P := l.prog) (w := w) (mg := mg) (base := base) F12
  have O_remade := ok_remade (P := l.prog) (w := w) (mg := mg) (base := base) F5 y_enumerate y_tuple
  have O_patterns := ok_patterns (P := l.prog) (w := w) (mg := mg) (base := base) F6 y_len y_range y_tuple
  have O_allMats := ok_allMats (P := l.prog) (w := w) (mg := mg) (base := base) F7 O_counts k4 b4 g4 O_round k1 b1 g1 O_patterns k6 b6 g6 O_remade k5 b5 g5 y_sorted
  have O_farEnd := ok_farEnd (P := l.prog) (w := w) (mg := mg) (base := base) F8
  have O_loose := ok_loose (P := l.prog) (w := w) (mg := mg) (base := base) F9 y_range
  have O_put := ok_putBehind (P := l.prog) (w := w) (mg := mg) (base := base) F10 O_farEnd k8 b8 g8 O_loose k9 b9 g9 y_range y_tuple
  have O_matB := ok_matBehind (P := l.prog) (w := w) (mg := mg) (base := base) F11 O_put k10 b10 g10
  have O_fits := ok_fits (P := l.prog) (w := w) (mg := mg) (base := base) F13 O_checked k3 b3 g3 O_pair k12 b12 g12 O_allMats k7 b7 g7 O_matB k11 b11 g11
  have O_well := ok_well (P := l.prog) (w := w) (mg := mg) (base := base) F14 y_list
  have O_dip := ok_dip (P := l.prog) (w := w) (mg := mg) (base := base) F15 y_len y_int
  have O_lmat := ok_lmat (P := l.prog) (w := w) (mg := mg) (base := base) F16 O_dip k15 b15 g15 y_list y_range y_len y_tuple
  have O_lbehind := ok_lbehind (P := l.prog) (w := w) (mg := mg) (base := base) F17 y_range y_tuple
  have O_lall := ok_lall (P := l.prog) (w := w) (mg := mg) (base := base) F18 y_list y_range y_len y_tuple y_sorted
  have O_upside := ok_upside (P := l.prog) (w := w) (mg := mg) (base := base) F19 y_tuple
  have O_same := ok_same (P := l.prog) (w := w) (mg := mg) (base := base) F22 (same_b3 F22) g22 y_isinstance y_bool y_int y_str y_tuple y_list y_len y_range
  have O_three := ok_three (P := l.prog) (w := w) (mg := mg) (base := base) F20 y_min O_dip k15 b15 g15 O_lmat k16 b16 g16 O_lbehind k17 b17 g17 O_upside k19 b19 g19
  exact ok_law F21 y_range O_well k14 b14 g14 O_three k20 b20 g20 O_lall k18 b18 g18 O_lbehind k17 b17 g17 O_same k22 vS b2S g22 O_fits k13 b13 (fits_kbn F13) g13
end HM
open PySem PySem.W PyProof.Rows
set_option maxHeartbeats 0 in
open_top hd for PySem.Challenge.rw_hookmats_k16_whole_fits_between
set_option maxRecDepth 100000 in
set_option maxHeartbeats 0 in
theorem PySem.Challenge.cw_hookmats_k16_whole_fits_between_holds : PySem.Challenge.rw_hookmats_k16_whole_fits_between.Holds := by
  refine hd ?_
  refine L2.walk_of (l := PySem.Challenge.rw_hookmats_k16_whole_fits_between) (n := 63) (k := 5) (x := "_law_script") (CX := fun _ => L2.CX0) (sp := fun w => HM.spLaw _) rfl (by decide) rfl ⟨rfl, by decide, by decide⟩ (fun w h Y => PySem.W.kIn_of Y) ?F (fun _ _ a ns hl _ hS => ⟨a, ns, rfl, hS, hl, fun _ => rfl⟩) (fun _ _ _ _ _ h => h)
  case F =>
    intro w mg fa h KX G hmg
    refine' HM.all_mk KX G hmg ?a1 ?l1 ?c1 ?k1 ?a2 ?l2 ?c2 ?k2 ?a3 ?l3 ?c3 ?k3 ?a4 ?l4 ?c4 ?k4 ?a5 ?l5 ?c5 ?k5 ?a6 ?l6 ?c6 ?k6 ?a7 ?l7 ?c7 ?k7 ?a8 ?l8 ?c8 ?k8 ?a9 ?l9 ?c9 ?k9 ?a10 ?l10 ?c10 ?k10 ?a11 ?l11 ?c11 ?k11 ?a12 ?l12 ?c12 ?k12 ?a13 ?l13 ?c13 ?k13 ?a14 ?l14 ?c14 ?k14 ?a15 ?l15 ?c15 ?k15 ?a16 ?l16 ?c16 ?k16 ?a17 ?l17 ?c17 ?k17 ?a18 ?l18 ?c18 ?k18 ?a19 ?l19 ?c19 ?k19 ?a20 ?l20 ?c20 ?k20 ?a21 ?l21 ?c21 ?k21 ?a22 ?l22 ?c22 ?k22 ?d22 ?lT ?z_list ?z_range ?z_len ?z_enumerate ?z_tuple ?z_sorted ?z_int ?z_min ?z_isinstance ?z_bool ?z_str
    (case a1 => k_is)
    (case l1 => k_is)
    (case c1 => k_is)
    (case k1 => k_is)
    (case a2 => k_is)
    (case l2 => k_is)
    (case c2 => k_is)
    (case k2 => k_is)
    (case a3 => k_is)
    (case l3 => k_is)
    (case c3 => k_is)
    (case k3 => k_is)
    (case a4 => k_is)
    (case l4 => k_is)
    (case c4 => k_is)
    (case k4 => k_is)
    (case a5 => k_is)
    (case l5 => k_is)
    (case c5 => k_is)
    (case k5 => k_is)
    (case a6 => k_is)
    (case l6 => k_is)
    (case c6 => k_is)
    (case k6 => k_is)
    (case a7 => k_is)
    (case l7 => k_is)
    (case c7 => k_is)
    (case k7 => k_is)
    (case a8 => k_is)
    (case l8 => k_is)
    (case c8 => k_is)
    (case k8 => k_is)
    (case a9 => k_is)
    (case l9 => k_is)
    (case c9 => k_is)
    (case k9 => k_is)
    (case a10 => k_is)
    (case l10 => k_is)
    (case c10 => k_is)
    (case k10 => k_is)
    (case a11 => k_is)
    (case l11 => k_is)
    (case c11 => k_is)
    (case k11 => k_is)
    (case a12 => k_is)
    (case l12 => k_is)
    (case c12 => k_is)
    (case k12 => k_is)
    (case a13 => k_is)
    (case l13 => k_is)
    (case c13 => k_is)
    (case k13 => k_is)
    (case a14 => k_is)
    (case l14 => k_is)
    (case c14 => k_is)
    (case k14 => k_is)
    (case a15 => k_is)
    (case l15 => k_is)
    (case c15 => k_is)
    (case k15 => k_is)
    (case a16 => k_is)
    (case l16 => k_is)
    (case c16 => k_is)
    (case k16 => k_is)
    (case a17 => k_is)
    (case l17 => k_is)
    (case c17 => k_is)
    (case k17 => k_is)
    (case a18 => k_is)
    (case l18 => k_is)
    (case c18 => k_is)
    (case k18 => k_is)
    (case a19 => k_is)
    (case l19 => k_is)
    (case c19 => k_is)
    (case k19 => k_is)
    (case a20 => k_is)
    (case l20 => k_is)
    (case c20 => k_is)
    (case k20 => k_is)
    (case a21 => k_is)
    (case l21 => k_is)
    (case c21 => k_is)
    (case k21 => k_is)
    (case a22 => k_is)
    (case l22 => k_is)
    (case c22 => k_is)
    (case k22 => k_is)
    (case d22 => rfl)
    (case lT => k_is)
    (case z_list => k_is)
    (case z_range => k_is)
    (case z_len => k_is)
    (case z_enumerate => k_is)
    (case z_tuple => k_is)
    (case z_sorted => k_is)
    (case z_int => k_is)
    (case z_min => k_is)
    (case z_isinstance => k_is)
    (case z_bool => k_is)
    (case z_str => k_is)
