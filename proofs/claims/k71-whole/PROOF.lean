import PyProof.Rows.All
import Wide.All
import OpenK.AllK
import Wide.FinOn
import HandS.ForMost
import HandS.EndTab
import HandS.Walk
import HandS.Style
import KE.DataMinMax
import KE.SortKeyHeap
import PySem.Challenge.RW_mergetree_k71_whole_near_and_free
set_option Elab.async false
set_option maxRecDepth 100000
namespace FN
open List

/-! ### sums over items (size, depth) -/
def cost (it : List (Int × Nat)) : Int := (it.map fun p => p.1 * (p.2 : Int)).sum
def krd (w L : Nat) (ds : List Nat) : Nat := (ds.map fun d => w ^ (L - d)).sum
def kr (w L : Nat) (it : List (Int × Nat)) : Nat := krd w L (it.map (·.2))
theorem isum_perm {l l' : List Int} (h : l.Perm l') : l.sum = l'.sum := by
  induction h with
  | nil => rfl
  | cons x _ ih => simp only [List.sum_cons, ih]
  | swap x y l => simp only [List.sum_cons]; omega
  | trans _ _ a b => exact a.trans b
theorem nsum_perm {l l' : List Nat} (h : l.Perm l') : l.sum = l'.sum := h.sum_nat
theorem cost_cons (p : Int × Nat) (it : List (Int × Nat)) : cost (p :: it) = p.1 * (p.2 : Int) + cost it := by simp [cost]
theorem cost_nil : cost [] = 0 := rfl
theorem cost_append (a b : List (Int × Nat)) : cost (a ++ b) = cost a + cost b := by simp [cost, List.sum_append]
theorem cost_perm {a b : List (Int × Nat)} (h : a.Perm b) : cost a = cost b := isum_perm (h.map _)
theorem krd_cons (w L d : Nat) (ds : List Nat) : krd w L (d :: ds) = w ^ (L - d) + krd w L ds := by simp [krd]
theorem krd_nil (w L : Nat) : krd w L [] = 0 := rfl
theorem krd_append (w L : Nat) (a b : List Nat) : krd w L (a ++ b) = krd w L a + krd w L b := by simp [krd, List.sum_append]
theorem krd_perm {w L : Nat} {a b : List Nat} (h : a.Perm b) : krd w L a = krd w L b := nsum_perm (h.map _)
theorem kr_cons (w L : Nat) (p : Int × Nat) (it : List (Int × Nat)) : kr w L (p :: it) = w ^ (L - p.2) + kr w L it := by simp [kr, krd_cons]
theorem kr_append (w L : Nat) (a b : List (Int × Nat)) : kr w L (a ++ b) = kr w L a + kr w L b := by simp [kr, krd_append]
theorem kr_perm {w L : Nat} {a b : List (Int × Nat)} (h : a.Perm b) : kr w L a = kr w L b := krd_perm (h.map _)
theorem krd_up {w L : Nat} : ∀ {ds : List Nat}, (∀ d ∈ ds, d ≤ L) → ∀ j, krd w (L + j) ds = w ^ j * krd w L ds
  | [], _, j => by simp [krd]
  | d :: ds, h, j => by
    have h1 := krd_up (w := w) (L := L) (ds := ds) (fun x hx => h x (List.mem_cons_of_mem _ hx)) j
    have h2 : d ≤ L := h d List.mem_cons_self
    rw [krd_cons, krd_cons, h1, Nat.mul_add, ← Nat.pow_add, show j + (L - d) = L + j - d by omega]
theorem kr_up {w L : Nat} {it : List (Int × Nat)} (h : ∀ p ∈ it, p.2 ≤ L) (j : Nat) : kr w (L + j) it = w ^ j * kr w L it :=
  krd_up (fun d hd => by obtain ⟨p, hp, e⟩ := List.exists_of_mem_map hd; exact e ▸ h p hp) j

/-- a code tree's depths for the sizes l, by w ways, of the cost c -/
def Real (w : Nat) (l : List Int) (c : Int) : Prop :=
  ∃ (it : List (Int × Nat)) (L : Nat), (it.map (·.1)).Perm l ∧ (∀ p ∈ it, p.2 ≤ L) ∧ kr w L it ≤ w ^ L ∧ cost it = c
theorem Real.perm {w : Nat} {l l' : List Int} {c : Int} (h : Real w l c) (p : l.Perm l') : Real w l' c := by
  obtain ⟨it, L, h1, h2, h3, h4⟩ := h
  exact ⟨it, L, h1.trans p, h2, h3, h4⟩
/-- more ways: the same depths -/
theorem Real.more {w : Nat} {l : List Int} {c : Int} (h : Real w l c) (hw : 1 ≤ w) : Real (w + 1) l c := by
  obtain ⟨it, L, h1, h2, h3, h4⟩ := h
  refine ⟨it, L, h1, h2, ?_, h4⟩
  have key : ∀ ds : List Nat, (∀ d ∈ ds, d ≤ L) → krd (w + 1) L ds * w ^ L ≤ (w + 1) ^ L * krd w L ds := by
    intro ds hds
    induction ds with
    | nil => simp [krd]
    | cons d ds ih =>
      have hd : d ≤ L := hds d List.mem_cons_self
      have ih := ih fun x hx => hds x (List.mem_cons_of_mem _ hx)
      rw [krd_cons, krd_cons, Nat.add_mul, Nat.mul_add]
      refine Nat.add_le_add ?_ ih
      have e1 : w ^ L = w ^ (L - d) * w ^ d := by rw [← Nat.pow_add]; congr 1; omega
      have e2 : (w + 1) ^ L = (w + 1) ^ (L - d) * (w + 1) ^ d := by rw [← Nat.pow_add]; congr 1; omega
      have e3 : w ^ d ≤ (w + 1) ^ d := Nat.pow_le_pow_left (Nat.le_succ w) d
      rw [e1, e2]
      calc (w + 1) ^ (L - d) * (w ^ (L - d) * w ^ d) = (w + 1) ^ (L - d) * w ^ d * w ^ (L - d) := by rw [Nat.mul_assoc, Nat.mul_comm (w ^ (L - d))]
        _ ≤ (w + 1) ^ (L - d) * (w + 1) ^ d * w ^ (L - d) := Nat.mul_le_mul_right _ (Nat.mul_le_mul_left _ e3)
  have k := key (it.map (·.2)) fun d hd => by
    obtain ⟨p, hp, e⟩ := List.exists_of_mem_map hd
    exact e ▸ h2 p hp
  have hpos : 0 < w ^ L := Nat.pow_pos hw
  exact Nat.le_of_mul_le_mul_right (Nat.le_trans k (Nat.mul_le_mul_left _ h3)) hpos

/-- the least -/
def IsMin (w : Nat) (l : List Int) (c : Int) : Prop := Real w l c ∧ ∀ c', Real w l c' → c ≤ c'
theorem IsMin.perm {w : Nat} {l l' : List Int} {c : Int} (h : IsMin w l c) (p : l.Perm l') : IsMin w l' c := ⟨h.1.perm p, fun c' h' => h.2 c' (h'.perm p.symm)⟩
theorem IsMin.unique {w : Nat} {l : List Int} {c c' : Int} (h : IsMin w l c) (h' : IsMin w l c') : c = c' := Int.le_antisymm (h.2 _ h'.1) (h'.2 _ h.1)
theorem IsMin.more {w : Nat} {l : List Int} {c c' : Int} (h : IsMin w l c) (h' : IsMin (w + 1) l c') (hw : 1 ≤ w) : c' ≤ c := h'.2 _ (h.1.more hw)

/-! ### the rearrangement: the deepest to the least -/
theorem deepest : ∀ {it : List (Int × Nat)}, it ≠ [] → ∃ p ∈ it, ∀ q ∈ it, q.2 ≤ p.2
  | [p], _ => ⟨p, List.mem_singleton.mpr rfl, fun q hq => by rw [List.mem_singleton.mp hq]; exact Nat.le_refl _⟩
  | p :: q :: r, _ => by
    obtain ⟨x, hx, h⟩ := deepest (it := q :: r) (by simp)
    by_cases c : p.2 ≤ x.2
    · exact ⟨x, List.mem_cons_of_mem _ hx, fun y hy => by
        rcases List.mem_cons.mp hy with e | e
        · rw [e]; exact c
        · exact h y e⟩
    · exact ⟨p, List.mem_cons_self, fun y hy => by
        rcases List.mem_cons.mp hy with e | e
        · rw [e]; exact Nat.le_refl _
        · have := h y e; omega⟩
theorem perm_of_mem {α : Type} {x : α} {l : List α} (h : x ∈ l) : ∃ r, l.Perm (x :: r) := by
  obtain ⟨a, b, e⟩ := List.append_of_mem h
  exact ⟨a ++ b, e ▸ List.perm_middle⟩
theorem rearr : ∀ (s : List Int) (it : List (Int × Nat)), s.Pairwise (· ≤ ·) → (it.map (·.1)).Perm s →
    ∃ ds : List Nat, ds.length = s.length ∧ ds.Pairwise (· ≥ ·) ∧ ds.Perm (it.map (·.2)) ∧ cost (s.zip ds) ≤ cost it
  | [], it, _, h => by
    have e : it = [] := by
      have := h.length_eq
      simpa using this
    subst e
    exact ⟨[], rfl, List.Pairwise.nil, List.Perm.refl _, Int.le_refl _⟩
  | x :: s, it, hs, h => by
    have hs2 := List.pairwise_cons.mp hs
    obtain ⟨⟨x', d⟩, hq, e⟩ := List.exists_of_mem_map (h.mem_iff.mpr (List.mem_cons_self (a := x) (l := s)))
    have e : x' = x := e
    subst e
    obtain ⟨r, hr⟩ := perm_of_mem hq
    have hrs : (r.map (·.1)).Perm s := by
      have h1 := (hr.map (·.1)).symm.trans h
      simp only [List.map_cons] at h1
      exact List.Perm.cons_inv h1
    obtain ⟨p, hp, hmax⟩ := deepest (it := it) (by rintro rfl; simp at hq)
    obtain ⟨y, L⟩ := p
    have hmax : ∀ q ∈ it, q.2 ≤ L := hmax
    have hdL : d ≤ L := hmax _ hq
    by_cases c : d = L
    · subst c
      obtain ⟨ds, l1, l2, l3, l4⟩ := rearr s r hs2.2 hrs
      refine ⟨d :: ds, by simp [l1], List.pairwise_cons.mpr ⟨fun z hz => ?_, l2⟩, ?_, ?_⟩
      · obtain ⟨q, hq', e⟩ := List.exists_of_mem_map (l3.mem_iff.mp hz)
        exact e ▸ hmax q (hr.mem_iff.mpr (List.mem_cons_of_mem _ hq'))
      · have h5 : (it.map (·.2)).Perm (d :: r.map (·.2)) := hr.map (·.2)
        exact (l3.cons d).trans h5.symm
      · rw [List.zip_cons_cons, cost_cons, cost_perm hr, cost_cons]
        show x' * (d : Int) + _ ≤ x' * (d : Int) + _
        omega
    · have hpr : (y, L) ∈ r := by
        rcases List.mem_cons.mp (hr.mem_iff.mp hp) with e | e
        · exact absurd (congrArg Prod.snd e).symm c
        · exact e
      obtain ⟨r', hr'⟩ := perm_of_mem hpr
      have hrs' : (((y, d) :: r').map (·.1)).Perm s := by
        have := (hr'.map (·.1)).symm.trans hrs
        simpa using this
      obtain ⟨ds, l1, l2, l3, l4⟩ := rearr s ((y, d) :: r') hs2.2 hrs'
      have hxy : x' ≤ y := hs2.1 y (hrs'.mem_iff.mp (by simp))
      have hall : it.Perm ((x', d) :: (y, L) :: r') := hr.trans (hr'.cons _)
      refine ⟨L :: ds, by simp [l1], List.pairwise_cons.mpr ⟨fun z hz => ?_, l2⟩, ?_, ?_⟩
      · obtain ⟨q, hq', e⟩ := List.exists_of_mem_map (l3.mem_iff.mp hz)
        rcases List.mem_cons.mp hq' with e' | e'
        · subst e'; rw [← e]; exact hdL
        · exact e ▸ hmax q (hall.mem_iff.mpr (List.mem_cons_of_mem _ (List.mem_cons_of_mem _ e')))
      · have h5 : (it.map (·.2)).Perm (d :: L :: r'.map (·.2)) := hall.map (·.2)
        refine List.Perm.trans (l3.cons L) (List.Perm.trans ?_ h5.symm)
        exact List.Perm.swap _ _ _
      · rw [List.zip_cons_cons, cost_cons, cost_perm hall, cost_cons, cost_cons]
        rw [cost_cons] at l4
        have k := Int.mul_nonneg (Int.sub_nonneg_of_le hxy) (Int.sub_nonneg_of_le (Int.ofNat_le.mpr hdL))
        show x' * (L : Int) + _ ≤ x' * (d : Int) + (y * (L : Int) + _)
        have l4 : cost (s.zip ds) ≤ y * (d : Int) + cost r' := l4
        grind

/-! ### the tight case: no slack of w - 1 -/
theorem kr_drop {w L : Nat} (hL : 1 ≤ L) (a b : List (Int × Nat)) (x : Int) : kr w L (a ++ (x, L - 1) :: b) + 1 = kr w L (a ++ (x, L) :: b) + w := by
  have e1 : L - (L - 1) = 1 := by omega
  rw [kr_append, kr_append, kr_cons, kr_cons]
  simp only [e1, Nat.sub_self, Nat.pow_zero, Nat.pow_one]
  omega
theorem kr_zero {w : Nat} : ∀ {it : List (Int × Nat)}, (∀ p ∈ it, p.2 ≤ 0) → kr w 0 it = it.length
  | [], _ => rfl
  | p :: it, h => by
    have h1 := kr_zero (w := w) (it := it) fun q hq => h q (List.mem_cons_of_mem _ hq)
    rw [kr_cons, h1, List.length_cons]
    simp
    omega
theorem le_nsum : ∀ {l : List Nat} {x : Nat}, x ∈ l → x ≤ l.sum
  | y :: l, x, h => by
    rw [List.sum_cons]
    rcases List.mem_cons.mp h with e | e
    · omega
    · have := le_nsum e; omega
theorem tight {w : Nat} (hw : 2 ≤ w) : ∀ (D : Nat) (it : List (Int × Nat)) (L : Nat), (it.map (·.2)).sum ≤ D → (∀ p ∈ it, p.2 ≤ L) → kr w L it ≤ w ^ L → 2 ≤ it.length → (∀ p ∈ it, 0 ≤ p.1) →
    ∃ (it2 : List (Int × Nat)) (L2 : Nat), it2.map (·.1) = it.map (·.1) ∧ (∀ p ∈ it2, p.2 ≤ L2) ∧ (∃ p ∈ it2, p.2 = L2) ∧ 1 ≤ L2 ∧ kr w L2 it2 ≤ w ^ L2 ∧ w ^ L2 < kr w L2 it2 + (w - 1) ∧ cost it2 ≤ cost it := by
  intro D
  induction D with
  | zero =>
    intro it L hD hb hk hn _
    exfalso
    have h0 : ∀ p ∈ it, p.2 ≤ 0 := fun p hp => by
      have : p.2 ≤ (it.map (·.2)).sum := le_nsum (List.mem_map_of_mem hp)
      omega
    have e := kr_up (w := w) h0 L
    rw [Nat.zero_add] at e
    rw [e, kr_zero h0] at hk
    have hpos : 0 < w ^ L := Nat.pow_pos (by omega)
    have : w ^ L * 2 ≤ w ^ L * it.length := Nat.mul_le_mul_left _ hn
    omega
  | succ D ih =>
    intro it L hD hb hk hn hp
    obtain ⟨p, hpm, hmax⟩ := deepest (it := it) (by rintro rfl; simp at hn)
    obtain ⟨x, M⟩ := p
    have hmax : ∀ q ∈ it, q.2 ≤ M := hmax
    have hML : M ≤ L := hb _ hpm
    have hpos : ∀ j, 0 < w ^ j := fun j => Nat.pow_pos (by omega)
    have hk2 : kr w M it ≤ w ^ M := by
      have e := kr_up (w := w) hmax (L - M)
      rw [show M + (L - M) = L by omega] at e
      rw [e] at hk
      have e2 : w ^ L = w ^ (L - M) * w ^ M := by rw [← Nat.pow_add]; congr 1; omega
      rw [e2] at hk
      exact Nat.le_of_mul_le_mul_left hk (hpos _)
    have hM : 1 ≤ M := by
      rcases Nat.eq_zero_or_pos M with e | e
      · subst e
        rw [kr_zero hmax] at hk2
        simp at hk2
        omega
      · exact e
    by_cases c : w ^ M < kr w M it + (w - 1)
    · exact ⟨it, M, rfl, hmax, ⟨_, hpm, rfl⟩, hM, hk2, c, Int.le_refl _⟩
    · obtain ⟨a, b, e⟩ := List.append_of_mem hpm
      have e3 := kr_drop (w := w) hM a b x
      have hx : 0 ≤ x := hp _ hpm
      obtain ⟨it2, L2, g1, g2, g3, g4, g5, g6, g7⟩ := ih (a ++ (x, M - 1) :: b) M
        (by
          rw [e] at hD
          simp only [List.map_append, List.map_cons, List.sum_append, List.sum_cons] at hD ⊢
          omega)
        (fun q hq => by
          rcases List.mem_append.mp hq with z | z
          · exact hmax q (e ▸ List.mem_append_left _ z)
          · rcases List.mem_cons.mp z with z | z
            · subst z; show M - 1 ≤ M; omega
            · exact hmax q (e ▸ List.mem_append_right _ (List.mem_cons_of_mem _ z)))
        (by rw [e] at c; omega)
        (by rw [e] at hn; simpa using hn)
        (fun q hq => by
          rcases List.mem_append.mp hq with z | z
          · exact hp q (e ▸ List.mem_append_left _ z)
          · rcases List.mem_cons.mp z with z | z
            · subst z; exact hx
            · exact hp q (e ▸ List.mem_append_right _ (List.mem_cons_of_mem _ z)))
      refine ⟨it2, L2, by rw [g1, e]; simp, g2, g3, g4, g5, g6, Int.le_trans g7 ?_⟩
      rw [e, cost_append, cost_append, cost_cons, cost_cons]
      have : x * ((M - 1 : Nat) : Int) ≤ x * (M : Int) := Int.mul_le_mul_of_nonneg_left (by omega) hx
      show _ + (x * ((M - 1 : Nat) : Int) + _) ≤ _ + (x * (M : Int) + _)
      omega

/-! ### counting -/
theorem pow_one_mod (w : Nat) (hw : 2 ≤ w) : ∀ j, ∃ k, w ^ j = 1 + k * (w - 1)
  | 0 => ⟨0, by simp⟩
  | j + 1 => by
    obtain ⟨k, e⟩ := pow_one_mod w hw j
    refine ⟨1 + k * w, ?_⟩
    rw [Nat.pow_succ, e, Nat.add_mul, Nat.add_mul]
    obtain ⟨v, rfl⟩ : ∃ v, w = v + 1 := ⟨w - 1, by omega⟩
    simp only [Nat.add_sub_cancel]
    grind
theorem krd_len {w L : Nat} (hw : 2 ≤ w) : ∀ ds : List Nat, ∃ k, krd w L ds = ds.length + k * (w - 1)
  | [] => ⟨0, by simp [krd]⟩
  | d :: ds => by
    obtain ⟨k, e⟩ := krd_len (w := w) (L := L) hw ds
    obtain ⟨k2, e2⟩ := pow_one_mod w hw (L - d)
    refine ⟨k2 + k, ?_⟩
    rw [krd_cons, e, e2, List.length_cons, Nat.add_mul]
    omega
theorem krd_count {w L : Nat} : ∀ ds : List Nat, (∀ d ∈ ds, d ≤ L) → ∃ k, krd w L ds = ds.count L + w * k
  | [], _ => ⟨0, by simp [krd]⟩
  | d :: ds, h => by
    obtain ⟨k, e⟩ := krd_count (w := w) (L := L) ds fun x hx => h x (List.mem_cons_of_mem _ hx)
    have hd : d ≤ L := h d List.mem_cons_self
    by_cases c : d = L
    · subst c
      exact ⟨k, by rw [krd_cons, e, List.count_cons_self, Nat.sub_self, Nat.pow_zero]; omega⟩
    · refine ⟨w ^ (L - d - 1) + k, ?_⟩
      rw [krd_cons, e, List.count_cons_of_ne c, Nat.mul_add]
      have e3 : w ^ (L - d) = w * w ^ (L - d - 1) := by
        conv => lhs; rw [show L - d = (L - d - 1) + 1 by omega, Nat.pow_succ, Nat.mul_comm]
      omega
theorem take_deep {L : Nat} : ∀ (m : Nat) (ds : List Nat), ds.Pairwise (· ≥ ·) → (∀ d ∈ ds, d ≤ L) → m ≤ ds.count L → ds.take m = List.replicate m L
  | 0, _, _, _, _ => rfl
  | m + 1, [], _, _, h => by simp at h
  | m + 1, d :: ds, hp, hb, h => by
    have hp2 := List.pairwise_cons.mp hp
    have hm : 0 < (d :: ds).count L := by omega
    have hd : d = L := by
      have hmem := List.count_pos_iff.mp hm
      have h1 := hb d List.mem_cons_self
      rcases List.mem_cons.mp hmem with z | z
      · exact z.symm
      · have := hp2.1 L z; omega
    subst hd
    rw [List.count_cons_self] at h
    rw [List.take_succ_cons, take_deep m ds hp2.2 (fun x hx => hb x (List.mem_cons_of_mem _ hx)) (by omega), List.replicate_succ]

/-- how many ways the next merge has: it fits what is left -/
def Fit (w m n : Nat) : Prop := 2 ≤ m ∧ m ≤ w ∧ ∃ q, n + w = m + 1 + q * (w - 1)
theorem cost_rep (L : Nat) : ∀ (s : List Int), cost (s.zip (List.replicate s.length L)) = s.sum * (L : Int)
  | [] => by simp [cost]
  | x :: s => by
    rw [List.length_cons, List.replicate_succ, List.zip_cons_cons, cost_cons, cost_rep L s, List.sum_cons, Int.add_mul]
theorem zip_fst {s : List Int} {ds : List Nat} (h : ds.length = s.length) : (s.zip ds).map (·.1) = s := by
  have := List.map_fst_zip (l₁ := s) (l₂ := ds) (by omega)
  simpa using this
theorem zip_snd {s : List Int} {ds : List Nat} (h : ds.length = s.length) : (s.zip ds).map (·.2) = ds := by
  have := List.map_snd_zip (l₁ := s) (l₂ := ds) (by omega)
  simpa using this
/-- the exchange: the m least are merged, no cost is lost -/
theorem low_step {w m : Nat} {s : List Int} {it : List (Int × Nat)} {L : Nat} (hw : 2 ≤ w) (hn : 2 ≤ s.length) (hf : Fit w m s.length) (hs : s.Pairwise (· ≤ ·)) (h0 : ∀ x ∈ s, 0 ≤ x) (hp : (it.map (·.1)).Perm s)
    (hb : ∀ p ∈ it, p.2 ≤ L) (hk : kr w L it ≤ w ^ L) : ∃ c', Real w (s.drop m ++ [(s.take m).sum]) c' ∧ c' + (s.take m).sum ≤ cost it := by
  have hlen : it.length = s.length := by simpa using hp.length_eq
  obtain ⟨it2, L2, g1, g2, ⟨p, hpm, hpL⟩, g4, g5, g6, g7⟩ := tight hw _ it L (Nat.le_refl _) hb hk (by omega) fun p hp' => h0 _ (hp.mem_iff.mp (List.mem_map_of_mem hp'))
  obtain ⟨ds, l1, l2, l3, l4⟩ := rearr s it2 hs (by rw [g1]; exact hp)
  obtain ⟨hm2, hmw, q, hq⟩ := hf
  have hdL : ∀ d ∈ ds, d ≤ L2 := fun d hd => by
    obtain ⟨q, hq', e⟩ := List.exists_of_mem_map (l3.mem_iff.mp hd)
    exact e ▸ g2 q hq'
  have hkd : krd w L2 ds = kr w L2 it2 := krd_perm l3
  rw [← hkd] at g5 g6
  -- the slack is w - m
  have hslack : krd w L2 ds + (w - m) = w ^ L2 := by
    obtain ⟨k, e1⟩ := krd_len (w := w) (L := L2) hw ds
    obtain ⟨k2, e2⟩ := pow_one_mod w hw L2
    rw [l1] at e1
    have hz : ∃ t : Int, ((w ^ L2 : Nat) : Int) - (krd w L2 ds : Nat) = ((w : Int) - m) + t * ((w : Int) - 1) := by
      refine ⟨(k2 : Int) - k - q, ?_⟩
      rw [e1, e2]
      have c1 : ((w - 1 : Nat) : Int) = (w : Int) - 1 := by omega
      have hq' : (s.length : Int) + w = m + 1 + q * ((w : Int) - 1) := by
        have := congrArg (Nat.cast : Nat → Int) hq
        simp only [Int.natCast_add, Int.natCast_mul, c1] at this
        omega
      simp only [Int.natCast_add, Int.natCast_mul, c1]
      grind
    obtain ⟨t, ht⟩ := hz
    have ht0 : t = 0 := by
      have u1 : (0 : Int) ≤ ((w ^ L2 : Nat) : Int) - (krd w L2 ds : Nat) := by omega
      have u2 : ((w ^ L2 : Nat) : Int) - (krd w L2 ds : Nat) < (w : Int) - 1 := by omega
      have hw1 : (1 : Int) ≤ (w : Int) - 1 := by omega
      rcases Int.lt_trichotomy t 0 with z | z | z
      · exfalso
        have := Int.mul_le_mul_of_nonneg_right (show t ≤ -1 by omega) (show (0 : Int) ≤ (w : Int) - 1 by omega)
        omega
      · exact z
      · exfalso
        have := Int.mul_le_mul_of_nonneg_right (show 1 ≤ t by omega) (show (0 : Int) ≤ (w : Int) - 1 by omega)
        omega
    rw [ht0, Int.zero_mul, Int.add_zero] at ht
    omega
  -- at least m of the depth L2
  have hcount : m ≤ ds.count L2 := by
    obtain ⟨k, e⟩ := krd_count (w := w) ds hdL
    have h1 : 0 < ds.count L2 := List.count_pos_iff.mpr (l3.mem_iff.mpr (hpL ▸ List.mem_map_of_mem hpm))
    have e2 : w ^ L2 = w * w ^ (L2 - 1) := by
      rw [show L2 = (L2 - 1) + 1 by omega, Nat.pow_succ, Nat.mul_comm]
      simp
    rw [e, e2] at hslack
    rcases Nat.lt_or_ge k (w ^ (L2 - 1)) with z | z
    · have : w * (k + 1) ≤ w * w ^ (L2 - 1) := Nat.mul_le_mul_left _ z
      rw [Nat.mul_add] at this
      omega
    · have : w * w ^ (L2 - 1) ≤ w * k := Nat.mul_le_mul_left _ z
      omega
  have htake := take_deep m ds l2 hdL hcount
  have hmn : m ≤ s.length := by
    have := List.count_le_length (a := L2) (l := ds)
    omega
  have hdsplit : ds = List.replicate m L2 ++ ds.drop m := by rw [← htake, List.take_append_drop]
  have hssplit : s = s.take m ++ s.drop m := (List.take_append_drop m s).symm
  have hzip : s.zip ds = (s.take m).zip (List.replicate m L2) ++ (s.drop m).zip (ds.drop m) := by
    rw [← htake, ← List.zip_append (by simp [List.length_take]; omega), List.take_append_drop, List.take_append_drop]
  have hzc : cost (s.zip ds) = (s.take m).sum * (L2 : Int) + cost ((s.drop m).zip (ds.drop m)) := by
    rw [hzip, cost_append]
    have e := cost_rep L2 (s.take m)
    rw [List.length_take, Nat.min_eq_left hmn] at e
    rw [e]
  have hld : (ds.drop m).length = (s.drop m).length := by rw [List.length_drop, List.length_drop, l1]
  refine ⟨cost ((s.drop m).zip (ds.drop m) ++ [((s.take m).sum, L2 - 1)]), ⟨_, L2, ?_, ?_, ?_, rfl⟩, ?_⟩
  · rw [List.map_append, zip_fst hld]
    exact List.Perm.refl _
  · intro p hp'
    rcases List.mem_append.mp hp' with z | z
    · have : p.2 ∈ ((s.drop m).zip (ds.drop m)).map (·.2) := List.mem_map_of_mem z
      rw [zip_snd hld] at this
      exact hdL _ (List.mem_of_mem_drop this)
    · rw [List.mem_singleton.mp z]; show L2 - 1 ≤ L2; omega
  · have e1 : kr w L2 ((s.drop m).zip (ds.drop m)) = krd w L2 (ds.drop m) := by unfold kr; rw [zip_snd hld]
    have e2 : krd w L2 ds = m + krd w L2 (ds.drop m) := by
      conv => lhs; rw [hdsplit]
      rw [krd_append]
      congr 1
      simp [krd]
    rw [kr_append, e1, kr_cons, show L2 - (L2 - 1) = 1 by omega, Nat.pow_one]
    have e3 : kr w L2 [] = 0 := rfl
    omega
  · rw [cost_append, cost_cons, cost_nil]
    show _ + ((s.take m).sum * ((L2 - 1 : Nat) : Int) + 0) + _ ≤ _
    rw [hzc] at l4
    have e4 : ((L2 - 1 : Nat) : Int) = (L2 : Int) - 1 := by omega
    rw [e4, Int.mul_sub]
    omega

/-! ### merging the least again and again -/
inductive Huff (w : Nat) : Nat → List Int → Int → Prop
  | one {m : Nat} {l : List Int} : l.length ≤ 1 → Huff w m l 0
  | step {m : Nat} {l s : List Int} {c : Int} : 2 ≤ l.length → s.Perm l → s.Pairwise (· ≤ ·) → Huff w w (s.drop m ++ [(s.take m).sum]) c → Huff w m l (c + (s.take m).sum)
theorem Fit.next {w m n : Nat} (hw : 2 ≤ w) (h : Fit w m n) (hn : 2 ≤ n) : m ≤ n ∧ Fit w w (n - m + 1) := by
  obtain ⟨h1, h2, q, hq⟩ := h
  cases q with
  | zero => omega
  | succ q =>
    rw [Nat.add_mul, Nat.one_mul] at hq
    exact ⟨by omega, hw, Nat.le_refl _, q, by omega⟩
theorem sum_nonneg : ∀ {l : List Int}, (∀ x ∈ l, 0 ≤ x) → 0 ≤ l.sum
  | [], _ => Int.le_refl _
  | x :: l, h => by
    rw [List.sum_cons]
    have := h x List.mem_cons_self
    have := sum_nonneg (l := l) fun y hy => h y (List.mem_cons_of_mem _ hy)
    omega
theorem cost_nonneg : ∀ {it : List (Int × Nat)}, (∀ p ∈ it, 0 ≤ p.1) → 0 ≤ cost it
  | [], _ => Int.le_refl _
  | p :: it, h => by
    rw [cost_cons]
    have h1 := Int.mul_nonneg (h p List.mem_cons_self) (Int.natCast_nonneg p.2)
    have := cost_nonneg (it := it) fun y hy => h y (List.mem_cons_of_mem _ hy)
    omega
theorem Real.nonneg {w : Nat} {l : List Int} {c : Int} (h : Real w l c) (h0 : ∀ x ∈ l, 0 ≤ x) : 0 ≤ c := by
  obtain ⟨it, L, h1, _, _, rfl⟩ := h
  exact cost_nonneg fun p hp => h0 _ (h1.mem_iff.mp (List.mem_map_of_mem hp))
theorem merged_ok {m : Nat} {l s : List Int} (h0 : ∀ x ∈ l, 0 ≤ x) (hp : s.Perm l) : ∀ x ∈ s.drop m ++ [(s.take m).sum], 0 ≤ x := fun x hx => by
  rcases List.mem_append.mp hx with z | z
  · exact h0 x (hp.mem_iff.mp (List.mem_of_mem_drop z))
  · rw [List.mem_singleton.mp z]
    exact sum_nonneg fun y hy => h0 y (hp.mem_iff.mp (List.mem_of_mem_take hy))
theorem Huff.low {w m : Nat} {l : List Int} {c : Int} (hw : 2 ≤ w) (h : Huff w m l c) : (l.length ≤ 1 ∨ Fit w m l.length) → (∀ x ∈ l, 0 ≤ x) → ∀ c', Real w l c' → c ≤ c' := by
  induction h with
  | one h => intro _ h0 c' h'; exact h'.nonneg h0
  | @step m l s c hn hp hs _ ih =>
    intro hf h0 c' h'
    have hf : Fit w m l.length := hf.resolve_left (by omega)
    obtain ⟨hmn, hf2⟩ := hf.next hw hn
    obtain ⟨it, L, h1, h2, h3, rfl⟩ := h'
    have hl : s.length = l.length := hp.length_eq
    obtain ⟨c2, r, hc⟩ := low_step hw (by omega) (by rw [hl]; exact hf) hs (fun x hx => h0 x (hp.mem_iff.mp hx)) (h1.trans hp.symm) h2 h3
    have := ih (.inr (by rw [List.length_append, List.length_drop, List.length_singleton, hl]; exact hf2)) (merged_ok h0 hp) c2 r
    omega
theorem Huff.real {w m : Nat} {l : List Int} {c : Int} (hw : 2 ≤ w) (h : Huff w m l c) : (l.length ≤ 1 ∨ Fit w m l.length) → Real w l c := by
  induction h with
  | @one m l h =>
    intro _
    refine ⟨l.map fun x => (x, 0), 0, by rw [List.map_map]; show (l.map fun x => x).Perm l; rw [List.map_id']; , fun p hp => ?_, ?_, ?_⟩
    · obtain ⟨x, _, e⟩ := List.exists_of_mem_map hp
      rw [← e]; exact Nat.le_refl _
    · match l, h with
      | [], _ => simp [kr, krd]
      | [x], _ => simp [kr, krd]
    · match l, h with
      | [], _ => simp [cost]
      | [x], _ => simp [cost]
  | @step m l s c hn hp hs _ ih =>
    intro hf
    have hf : Fit w m l.length := hf.resolve_left (by omega)
    obtain ⟨hmn, hf2⟩ := hf.next hw hn
    have hl : s.length = l.length := hp.length_eq
    obtain ⟨it, L, h1, h2, h3, h4⟩ := ih (.inr (by rw [List.length_append, List.length_drop, List.length_singleton, hl]; exact hf2))
    obtain ⟨⟨X, d⟩, hq, e⟩ := List.exists_of_mem_map (h1.mem_iff.mpr (List.mem_append_right (s.drop m) (List.mem_singleton.mpr rfl)))
    have e : X = (s.take m).sum := e
    obtain ⟨r, hr⟩ := perm_of_mem hq
    have hrs : (r.map (·.1)).Perm (s.drop m) := by
      have a1 : (it.map (·.1)).Perm (X :: r.map (·.1)) := hr.map (·.1)
      have a2 : (s.drop m ++ [(s.take m).sum]).Perm (X :: s.drop m) := by rw [e]; exact List.perm_append_singleton _ _
      exact List.Perm.cons_inv ((a1.symm.trans h1).trans a2)
    have hdL : d ≤ L := h2 _ hq
    have hrL : ∀ p ∈ r, p.2 ≤ L := fun p hp' => h2 p (hr.mem_iff.mpr (List.mem_cons_of_mem _ hp'))
    have hlt : (s.take m).length = m := by rw [List.length_take]; omega
    have hlz : (List.replicate m (d + 1)).length = (s.take m).length := by simp [hlt]
    refine ⟨(s.take m).zip (List.replicate m (d + 1)) ++ r, L + 1, ?_, ?_, ?_, ?_⟩
    · rw [List.map_append, zip_fst hlz]
      exact (List.Perm.append_left _ hrs).trans (by rw [List.take_append_drop]; exact hp)
    · intro p hp'
      rcases List.mem_append.mp hp' with z | z
      · have : p.2 ∈ ((s.take m).zip (List.replicate m (d + 1))).map (·.2) := List.mem_map_of_mem z
        rw [zip_snd hlz] at this
        have := List.eq_of_mem_replicate this
        omega
      · have := hrL p z; omega
    · have e1 : kr w (L + 1) ((s.take m).zip (List.replicate m (d + 1))) = m * w ^ (L - d) := by
        unfold kr
        rw [zip_snd hlz]
        simp [krd, show L + 1 - (d + 1) = L - d by omega]
      have e2 : kr w (L + 1) r = w * kr w L r := by
        have := kr_up (w := w) hrL 1
        rw [this, Nat.pow_one]
      have e3 : kr w L it = w ^ (L - d) + kr w L r := by rw [kr_perm hr, kr_cons]
      rw [kr_append, e1, e2, Nat.pow_succ, Nat.mul_comm (w ^ L)]
      have k1 : m * w ^ (L - d) ≤ w * w ^ (L - d) := Nat.mul_le_mul_right _ hf.2.1
      have k2 : w * kr w L it ≤ w * w ^ L := Nat.mul_le_mul_left _ h3
      rw [e3, Nat.mul_add] at k2
      omega
    · rw [cost_append]
      have e5 := cost_rep (d + 1) (s.take m)
      rw [hlt] at e5
      rw [e5, ← h4, cost_perm hr, cost_cons, ← e]
      show X * ((d + 1 : Nat) : Int) + _ = X * (d : Int) + _ + X
      rw [show ((d + 1 : Nat) : Int) = (d : Int) + 1 by omega, Int.mul_add]
      omega
theorem Huff.isMin {w m : Nat} {l : List Int} {c : Int} (hw : 2 ≤ w) (h : Huff w m l c) (hf : l.length ≤ 1 ∨ Fit w m l.length) (h0 : ∀ x ∈ l, 0 ≤ x) : IsMin w l c := ⟨h.real hw hf, h.low hw hf h0⟩
/-- the first merge's ways fit -/
theorem fit_first {w n : Nat} (hw : 2 ≤ w) (hn : 2 ≤ n) : Fit w (2 + (n - 2) % (w - 1)) n := by
  have h1 : (n - 2) % (w - 1) < w - 1 := Nat.mod_lt _ (by omega)
  have h2 := Nat.div_add_mod (n - 2) (w - 1)
  refine ⟨by omega, by omega, (n - 2) / (w - 1) + 1, ?_⟩
  rw [Nat.add_mul, Nat.mul_comm ((n - 2) / (w - 1))]
  omega


/-! ### near trees and forests: none: one tree; some k: k trees side by side -/
inductive NX (w : Nat) : Option Nat → List Int → Int → Prop
  | leaf (x : Int) : NX w none [x] 0
  | node {k : Nat} {l : List Int} {c : Int} : 2 ≤ k → k ≤ w → NX w (some k) l c → NX w none l (l.sum + c)
  | nil : NX w (some 0) [] 0
  | cons {k : Nat} {l1 l2 : List Int} {c1 c2 : Int} : NX w none l1 c1 → NX w (some k) l2 c2 → NX w (some (k + 1)) (l1 ++ l2) (c1 + c2)
def trees : Option Nat → Nat
  | none => 1
  | some k => k
theorem NX.one {w : Nat} {l : List Int} {c : Int} (h : NX w none l c) : NX w (some 1) l c := by
  have := NX.cons h (NX.nil (w := w))
  simpa using this
theorem NX.one' {w : Nat} {l : List Int} {c : Int} (h : NX w (some 1) l c) : NX w none l c := by
  cases h with
  | cons h1 h2 =>
    cases h2 with
    | nil => simpa using h1
theorem NX.more {w : Nat} {o : Option Nat} {l : List Int} {c : Int} (h : NX w o l c) : NX (w + 1) o l c := by
  induction h with
  | leaf x => exact .leaf x
  | node h1 h2 _ ih => exact .node h1 (Nat.le_succ_of_le h2) ih
  | nil => exact .nil
  | cons _ _ ih1 ih2 => exact .cons ih1 ih2
theorem NX.app {w : Nat} {l : List Int} {c : Int} {o : Option Nat} (h : NX w o l c) : ∀ k, o = some k → ∀ {j : Nat} {l2 : List Int} {c2 : Int}, NX w (some j) l2 c2 → NX w (some (k + j)) (l ++ l2) (c + c2) := by
  induction h with
  | leaf x => intro k e; cases e
  | node => intro k e; cases e
  | nil => intro k e j l2 c2 h2; cases e; simpa using h2
  | @cons k' l1 l2 c1 c2 h1 _ _ ih =>
    intro k e j l3 c3 h3
    cases e
    have h4 := NX.cons h1 (ih k' rfl h3)
    rw [List.append_assoc, Int.add_assoc, show k' + 1 + j = k' + j + 1 by omega]
    exact h4
theorem sum_rev : ∀ l : List Int, l.reverse.sum = l.sum := fun l => isum_perm (List.reverse_perm l)
theorem NX.rev {w : Nat} {o : Option Nat} {l : List Int} {c : Int} (h : NX w o l c) : NX w o l.reverse c := by
  induction h with
  | leaf x => exact .leaf x
  | node h1 h2 _ ih =>
    rw [← sum_rev]
    exact .node h1 h2 ih
  | nil => exact .nil
  | @cons k l1 l2 c1 c2 _ _ ih1 ih2 =>
    rw [List.reverse_append, Int.add_comm]
    exact NX.app ih2 k rfl ih1.one
theorem NX.ne {w : Nat} {o : Option Nat} {l : List Int} {c : Int} (h : NX w o l c) : trees o ≤ l.length := by
  induction h with
  | leaf x => exact Nat.le_refl _
  | node h1 _ _ ih =>
    have ih : _ ≤ _ := ih
    simp only [trees] at ih ⊢
    omega
  | nil => exact Nat.le_refl _
  | cons _ _ ih1 ih2 =>
    rw [List.length_append]
    simp only [trees] at ih1 ih2 ⊢
    omega
theorem NX.len1 {w : Nat} {l : List Int} {c : Int} (h : NX w none l c) : 1 ≤ l.length := h.ne

/-- a near tree's depths -/
theorem kr_up1 {w L : Nat} {it : List (Int × Nat)} (h : ∀ p ∈ it, p.2 ≤ L) : kr w (L + 1) it = w * kr w L it := by
  rw [kr_up h 1, Nat.pow_one]
theorem cost_deeper : ∀ it : List (Int × Nat), cost (it.map fun p => (p.1, p.2 + 1)) = cost it + (it.map (·.1)).sum
  | [] => rfl
  | p :: it => by
    rw [List.map_cons, cost_cons, cost_cons, cost_deeper it, List.map_cons, List.sum_cons]
    show p.1 * ((p.2 + 1 : Nat) : Int) + _ = _
    rw [show ((p.2 + 1 : Nat) : Int) = (p.2 : Int) + 1 by omega, Int.mul_add]
    omega
theorem NX.real0 {w : Nat} {o : Option Nat} {l : List Int} {c : Int} (h : NX w o l c) :
    ∃ (it : List (Int × Nat)) (L : Nat), it.map (·.1) = l ∧ (∀ p ∈ it, p.2 ≤ L) ∧ kr w L it ≤ trees o * w ^ L ∧ cost it = c := by
  induction h with
  | leaf x => exact ⟨[(x, 0)], 0, rfl, fun p hp => by rw [List.mem_singleton.mp hp]; exact Nat.le_refl _, by simp [kr, krd, trees], by simp [cost]⟩
  | @node k l c h1 h2 _ ih =>
    obtain ⟨it, L, e1, e2, e3, e4⟩ := ih
    have e3 : kr w L it ≤ k * w ^ L := e3
    refine ⟨it.map fun p => (p.1, p.2 + 1), L + 1, ?_, fun p hp => ?_, ?_, ?_⟩
    · rw [List.map_map, ← e1]; rfl
    · obtain ⟨q, hq, e⟩ := List.exists_of_mem_map hp
      rw [← e]
      exact Nat.succ_le_succ (e2 q hq)
    · have e5 : kr w (L + 1) (it.map fun p => (p.1, p.2 + 1)) = kr w L it := by
        unfold kr krd
        rw [List.map_map, List.map_map, List.map_map]
        congr 1
        apply List.map_congr_left
        intro p _
        show w ^ (L + 1 - (p.2 + 1)) = w ^ (L - p.2)
        rw [Nat.add_sub_add_right]
      rw [e5]
      show _ ≤ 1 * w ^ (L + 1)
      rw [Nat.one_mul, Nat.pow_succ, Nat.mul_comm (w ^ L)]
      exact Nat.le_trans e3 (Nat.mul_le_mul_right _ h2)
    · rw [cost_deeper, e4, e1]; omega
  | nil => exact ⟨[], 0, rfl, fun p hp => (by simp at hp), by simp [kr, krd, trees], rfl⟩
  | @cons k l1 l2 c1 c2 _ _ ih1 ih2 =>
    obtain ⟨i1, L1, a1, a2, a3, a4⟩ := ih1
    obtain ⟨i2, L2, b1, b2, b3, b4⟩ := ih2
    have a3 : kr w L1 i1 ≤ 1 * w ^ L1 := a3
    have b3 : kr w L2 i2 ≤ k * w ^ L2 := b3
    refine ⟨i1 ++ i2, L1 + L2, by rw [List.map_append, a1, b1], fun p hp => ?_, ?_, by rw [cost_append, a4, b4]⟩
    · rcases List.mem_append.mp hp with z | z
      · have := a2 p z; omega
      · have := b2 p z; omega
    · have u1 := kr_up (w := w) a2 L2
      have u2 := kr_up (w := w) b2 L1
      rw [kr_append, u1, Nat.add_comm L1 L2, u2]
      show _ ≤ (k + 1) * w ^ (L2 + L1)
      rw [Nat.add_mul, Nat.pow_add, Nat.one_mul]
      have v1 : w ^ L2 * kr w L1 i1 ≤ w ^ L2 * w ^ L1 := Nat.mul_le_mul_left _ (by omega)
      have v2 : w ^ L1 * kr w L2 i2 ≤ w ^ L1 * (k * w ^ L2) := Nat.mul_le_mul_left _ b3
      have v3 : w ^ L1 * (k * w ^ L2) = k * (w ^ L2 * w ^ L1) := by grind
      omega
theorem NX.real {w : Nat} {l : List Int} {c : Int} (h : NX w none l c) : Real w l c := by
  obtain ⟨it, L, e1, e2, e3, e4⟩ := h.real0
  have e3 : kr w L it ≤ 1 * w ^ L := e3
  exact ⟨it, L, by rw [e1], e2, by omega, e4⟩
theorem NX.nonneg {w : Nat} {o : Option Nat} {l : List Int} {c : Int} (h : NX w o l c) (h0 : ∀ x ∈ l, 0 ≤ x) : 0 ≤ c := by
  obtain ⟨it, L, e1, _, _, rfl⟩ := h.real0
  exact cost_nonneg fun p hp => h0 _ (e1 ▸ List.mem_map_of_mem hp)

/-! ### rows in order: a near tree for each list of depths -/
theorem NX.split {w : Nat} {o : Option Nat} {l : List Int} {c : Int} (h : NX w o l c) : ∀ k, o = some k → ∀ j, j ≤ k → ∃ l1 l2 c1 c2, l = l1 ++ l2 ∧ c = c1 + c2 ∧ NX w (some j) l1 c1 ∧ NX w (some (k - j)) l2 c2 := by
  induction h with
  | leaf x => intro k e; cases e
  | node => intro k e; cases e
  | nil =>
    intro k e j hj
    cases e
    obtain rfl : j = 0 := by omega
    exact ⟨[], [], 0, 0, rfl, rfl, .nil, .nil⟩
  | @cons k' l1 l2 c1 c2 h1 h2 _ ih =>
    intro k e j hj
    cases e
    cases j with
    | zero => exact ⟨[], l1 ++ l2, 0, c1 + c2, rfl, by omega, .nil, .cons h1 h2⟩
    | succ j =>
      obtain ⟨m1, m2, d1, d2, e1, e2, g1, g2⟩ := ih k' rfl j (by omega)
      refine ⟨l1 ++ m1, m2, c1 + d1, d2, by rw [e1, List.append_assoc], by omega, .cons h1 g1, ?_⟩
      rw [show k' + 1 - (j + 1) = k' - j by omega]
      exact g2
/-- trees are put together by w: ceil(a / w) trees, one level up -/
theorem chunk {w : Nat} (hw : 2 ≤ w) : ∀ (N a : Nat) (l : List Int) (c : Int), a ≤ N → NX w (some a) l c → (∀ x ∈ l, 0 ≤ x) → ∃ a' c', NX w (some a') l c' ∧ c' ≤ c + l.sum ∧ w * a' < a + w := by
  intro N
  induction N with
  | zero =>
    intro a l c ha h h0
    obtain rfl : a = 0 := by omega
    exact ⟨0, c, h, by have := sum_nonneg h0; omega, by omega⟩
  | succ N ih =>
    intro a l c ha h h0
    have hs := sum_nonneg h0
    by_cases c0 : a = 0
    · subst c0; exact ⟨0, c, h, by omega, by omega⟩
    by_cases c1 : a = 1
    · subst c1; exact ⟨1, c, h, by omega, by omega⟩
    by_cases c2 : a ≤ w
    · exact ⟨1, l.sum + c, (NX.node (by omega) c2 h).one, by omega, by omega⟩
    · obtain ⟨l1, l2, d1, d2, rfl, rfl, g1, g2⟩ := h.split a rfl w (by omega)
      obtain ⟨a', c', k1, k2, k3⟩ := ih (a - w) l2 d2 (by omega) g2 fun x hx => h0 x (List.mem_append_right _ hx)
      refine ⟨a' + 1, l1.sum + d1 + c', .cons (.node hw (Nat.le_refl _) g1) k1, ?_, ?_⟩
      · rw [List.sum_append]; omega
      · rw [Nat.mul_add]; omega
theorem krd_mul {w L : Nat} : ∀ (ds : List Nat), (∀ d ∈ ds, d ≤ L) → krd w (L + 1) ds = w * krd w L ds := fun ds h => by
  have := krd_up (w := w) h 1
  rw [this, Nat.pow_one]
theorem canon {w : Nat} (hw : 2 ≤ w) : ∀ (L a : Nat) (lf : List Int) (cf : Int) (it : List (Int × Nat)), NX w (some a) lf cf → (∀ x ∈ lf, 0 ≤ x) → (∀ p ∈ it, 0 ≤ p.1) → (it.map (·.2)).Pairwise (· ≥ ·) → (∀ p ∈ it, p.2 ≤ L) → a + kr w L it ≤ w ^ L → 1 ≤ a + it.length →
    ∃ c, NX w none (lf ++ it.map (·.1)) c ∧ c ≤ cf + lf.sum * (L : Int) + cost it := by
  intro L
  induction L with
  | zero =>
    intro a lf cf it
    induction it generalizing a lf with
    | nil =>
      intro h _ _ _ _ hk hn
      have hk : a + 0 ≤ 1 := hk
      have hn : 1 ≤ a + 0 := hn
      obtain rfl : a = 1 := by omega
      refine ⟨cf, by simpa using h.one', ?_⟩
      rw [cost_nil]; simp
    | cons p it ih =>
      intro h h1 h2 h3 h4 hk hn
      have hp : p.2 = 0 := by have := h4 p List.mem_cons_self; omega
      have e : kr w 0 (p :: it) = 1 + kr w 0 it := by rw [kr_cons, hp]; simp
      rw [e] at hk
      have hz := kr_zero (w := w) (it := it) fun q hq => h4 q (List.mem_cons_of_mem _ hq)
      simp only [Nat.pow_zero] at hk
      have ha : a = 0 := by omega
      subst ha
      have hz2 : it = [] := List.eq_nil_of_length_eq_zero (by omega)
      subst hz2
      cases h
      refine ⟨0, by simpa using NX.leaf (w := w) p.1, ?_⟩
      rw [cost_cons, hp, cost_nil]
      simp
  | succ L ihL =>
    intro a lf cf it
    induction it generalizing a lf with
    | nil =>
      intro h h1 _ _ _ hk hn
      obtain ⟨a', c', k1, k2, k3⟩ := chunk hw a a lf cf (Nat.le_refl _) h h1
      have hk : a + 0 ≤ w ^ (L + 1) := hk
      have hn : 1 ≤ a + 0 := hn
      have e2 : w ^ (L + 1) = w * w ^ L := by rw [Nat.pow_succ, Nat.mul_comm]
      have ha' : a' ≤ w ^ L := by
        rw [e2] at hk
        have : w * a' < w * (w ^ L + 1) := by rw [Nat.mul_add]; omega
        have := Nat.lt_of_mul_lt_mul_left this
        omega
      have hne : 1 ≤ a' := by
        rcases Nat.eq_zero_or_pos a' with z | z
        · subst z
          have e := h.ne
          have e : a ≤ lf.length := e
          cases k1
          simp at e
          omega
        · exact z
      obtain ⟨c, g1, g2⟩ := ihL a' lf c' [] k1 h1 (fun _ hp => nomatch hp) List.Pairwise.nil (fun _ hp => nomatch hp) (by show a' + 0 ≤ _; omega) (by show 1 ≤ a' + 0; omega)
      refine ⟨c, g1, ?_⟩
      rw [show ((L + 1 : Nat) : Int) = (L : Int) + 1 by omega, Int.mul_add]
      omega
    | cons p it ih =>
      intro h h1 h2 h3 h4 hk hn
      by_cases hp : p.2 = L + 1
      · have h5 : NX w (some (a + 1)) (lf ++ [p.1]) (cf + 0) := NX.app h a rfl (NX.leaf (w := w) p.1).one
        have e : kr w (L + 1) (p :: it) = 1 + kr w (L + 1) it := by rw [kr_cons, hp]; simp
        rw [e] at hk
        rw [List.map_cons] at h3
        rw [Int.add_zero] at h5
        obtain ⟨c, g1, g2⟩ := ih (a + 1) (lf ++ [p.1]) h5 (fun x hx => by
            rcases List.mem_append.mp hx with z | z
            · exact h1 x z
            · rw [List.mem_singleton.mp z]; exact h2 p List.mem_cons_self)
          (fun q hq => h2 q (List.mem_cons_of_mem _ hq)) (List.pairwise_cons.mp h3).2 (fun q hq => h4 q (List.mem_cons_of_mem _ hq)) (by omega) (by omega)
        refine ⟨c, by rw [List.append_assoc] at g1; exact g1, ?_⟩
        rw [List.sum_append, List.sum_singleton, Int.add_mul] at g2
        rw [cost_cons, hp]
        omega
      · have hall : ∀ q ∈ p :: it, q.2 ≤ L := by
          rw [List.map_cons] at h3
          have h6 := (List.pairwise_cons.mp h3).1
          have h7 := h4 p List.mem_cons_self
          intro q hq
          rcases List.mem_cons.mp hq with e | e
          · rw [e]; omega
          · have := h6 q.2 (List.mem_map_of_mem e)
            omega
        obtain ⟨a', c', k1, k2, k3⟩ := chunk hw a a lf cf (Nat.le_refl _) h h1
        have e2 : w ^ (L + 1) = w * w ^ L := by rw [Nat.pow_succ, Nat.mul_comm]
        rw [kr_up1 hall, e2] at hk
        have hk' : a' + kr w L (p :: it) ≤ w ^ L := by
          have : w * (a' + kr w L (p :: it)) < w * (w ^ L + 1) := by rw [Nat.mul_add, Nat.mul_add]; omega
          have := Nat.lt_of_mul_lt_mul_left this
          omega
        obtain ⟨c, g1, g2⟩ := ihL a' lf c' (p :: it) k1 h1 h2 h3 hall hk' (by rw [List.length_cons]; omega)
        refine ⟨c, g1, ?_⟩
        rw [show ((L + 1 : Nat) : Int) = (L : Int) + 1 by omega, Int.mul_add]
        omega
/-- for rising sizes each list of depths has a near tree -/
theorem near_of_real {w : Nat} {l : List Int} {c : Int} (hw : 2 ≤ w) (h0 : ∀ x ∈ l, 0 ≤ x) (hn : 1 ≤ l.length) (hs : l.Pairwise (· ≤ ·)) (h : Real w l c) : ∃ c', NX w none l c' ∧ c' ≤ c := by
  obtain ⟨it, L, e1, e2, e3, rfl⟩ := h
  obtain ⟨ds, l1, l2, l3, l4⟩ := rearr l it hs e1
  have hk : kr w L (l.zip ds) ≤ w ^ L := by
    have : kr w L (l.zip ds) = kr w L it := by
      unfold kr
      rw [zip_snd l1]
      exact krd_perm l3
    omega
  obtain ⟨c, g1, g2⟩ := canon hw L 0 [] 0 (l.zip ds) .nil (fun _ hx => nomatch hx)
    (fun p hp => h0 _ (by have := List.mem_map_of_mem (f := (·.1)) hp; rw [zip_fst l1] at this; exact this))
    (by rw [zip_snd l1]; exact l2)
    (fun p hp => by
      have := List.mem_map_of_mem (f := (·.2)) hp
      rw [zip_snd l1] at this
      obtain ⟨q, hq, e⟩ := List.exists_of_mem_map (l3.mem_iff.mp this)
      have := e2 q hq
      omega)
    (by omega) (by
      have : (l.zip ds).length = l.length := by rw [List.length_zip]; omega
      omega)
  rw [List.nil_append, zip_fst l1] at g1
  refine ⟨c, g1, ?_⟩
  simp at g2
  omega

/-! ### the least near trees -/
def IsP (w : Nat) (l : List Int) (c : Int) : Prop := NX w none l c ∧ ∀ c', NX w none l c' → c ≤ c'
def IsB (w p : Nat) (l : List Int) (c : Int) : Prop := (∃ k, 1 ≤ k ∧ k ≤ p ∧ NX w (some k) l c) ∧ ∀ k c', 1 ≤ k → k ≤ p → NX w (some k) l c' → c ≤ c'
theorem IsP.unique {w : Nat} {l : List Int} {c c' : Int} (h : IsP w l c) (h' : IsP w l c') : c = c' := Int.le_antisymm (h.2 _ h'.1) (h'.2 _ h.1)
theorem IsP.leaf (w : Nat) (x : Int) : IsP w [x] 0 := ⟨.leaf x, fun c' h => by
  cases h with
  | leaf => exact Int.le_refl _
  | node h1 _ h2 =>
    exfalso
    have := h2.ne
    simp [trees] at this
    omega⟩
theorem IsB.one {w : Nat} {l : List Int} {c : Int} (h : IsP w l c) : IsB w 1 l c := ⟨⟨1, Nat.le_refl _, Nat.le_refl _, h.1.one⟩, fun k c' h1 h2 h3 => by
  obtain rfl : k = 1 := by omega
  exact h.2 _ h3.one'⟩
/-- a cut of a forest of two trees at least -/
theorem NX.cut {w k : Nat} {l : List Int} {c : Int} (h : NX w (some (k + 1)) l c) (hk : 1 ≤ k) : ∃ i c1 c2, 1 ≤ i ∧ i < l.length ∧ c = c1 + c2 ∧ NX w none (l.take i) c1 ∧ NX w (some k) (l.drop i) c2 := by
  cases h with
  | @cons _ l1 l2 c1 c2 h1 h2 =>
    have e1 := h1.len1
    have e2 : k ≤ l2.length := h2.ne
    refine ⟨l1.length, c1, c2, e1, by rw [List.length_append]; omega, rfl, ?_, ?_⟩
    · rw [List.take_left]; exact h1
    · rw [List.drop_left]; exact h2
theorem NX.join {w k i : Nat} {l : List Int} {c1 c2 : Int} (h1 : NX w none (l.take i) c1) (h2 : NX w (some k) (l.drop i) c2) : NX w (some (k + 1)) l (c1 + c2) := by
  have := NX.cons h1 h2
  rw [List.take_append_drop] at this
  exact this
/-- a stretch's price by all its cuts -/
theorem IsP.cut {w : Nat} {l : List Int} {m : Int} {p q : Nat → Int} (hw : 2 ≤ w) (hl : 2 ≤ l.length) (hp : ∀ i, 1 ≤ i → i < l.length → IsP w (l.take i) (p i)) (hq : ∀ i, 1 ≤ i → i < l.length → IsB w (w - 1) (l.drop i) (q i))
    (hm : ∃ i, 1 ≤ i ∧ i < l.length ∧ m = p i + q i) (hle : ∀ i, 1 ≤ i → i < l.length → m ≤ p i + q i) : IsP w l (l.sum + m) := by
  refine ⟨?_, fun c' h => ?_⟩
  · obtain ⟨i, h1, h2, rfl⟩ := hm
    obtain ⟨⟨k, k1, k2, k3⟩, _⟩ := hq i h1 h2
    exact .node (by omega) (by omega) ((hp i h1 h2).1.join k3)
  · cases h with
    | leaf x => simp at hl
    | @node k _ c h1 h2 h3 =>
      obtain ⟨k, rfl⟩ : ∃ j, k = j + 1 := ⟨k - 1, by omega⟩
      obtain ⟨i, c1, c2, i1, i2, rfl, g1, g2⟩ := h3.cut (by omega)
      have a1 := (hp i i1 i2).2 _ g1
      have a2 := (hq i i1 i2).2 k _ (by omega) (by omega) g2
      have a3 := hle i i1 i2
      omega
/-- at most pp + 1 trees side by side, by all cuts -/
theorem IsB.cut {w pp : Nat} {l : List Int} {m p0 : Int} {p q : Nat → Int} (hpp : 1 ≤ pp) (h0 : IsP w l p0) (hp : ∀ i, 1 ≤ i → i < l.length → IsP w (l.take i) (p i)) (hq : ∀ i, 1 ≤ i → i < l.length → IsB w pp (l.drop i) (q i))
    (hm : m = p0 ∨ ∃ i, 1 ≤ i ∧ i < l.length ∧ m = p i + q i) (hle0 : m ≤ p0) (hle : ∀ i, 1 ≤ i → i < l.length → m ≤ p i + q i) : IsB w (pp + 1) l m := by
  refine ⟨?_, fun k c' k1 k2 h => ?_⟩
  · rcases hm with rfl | ⟨i, h1, h2, rfl⟩
    · exact ⟨1, Nat.le_refl _, by omega, h0.1.one⟩
    · obtain ⟨⟨k, k1, k2, k3⟩, _⟩ := hq i h1 h2
      exact ⟨k + 1, by omega, by omega, (hp i h1 h2).1.join k3⟩
  · by_cases c : k = 1
    · subst c
      exact Int.le_trans hle0 (h0.2 _ h.one')
    · obtain ⟨k, rfl⟩ : ∃ j, k = j + 1 := ⟨k - 1, by omega⟩
      obtain ⟨i, c1, c2, i1, i2, rfl, g1, g2⟩ := h.cut (by omega)
      have a1 := (hp i i1 i2).2 _ g1
      have a2 := (hq i i1 i2).2 k _ (by omega) (by omega) g2
      have a3 := hle i i1 i2
      omega

/-! ### what the law asks -/
theorem near_ge_free {w : Nat} {l : List Int} {f c : Int} (hf : IsMin w l f) (hc : IsP w l c) : f ≤ c := hf.2 _ hc.1.real
theorem near_more {w : Nat} {l : List Int} {c c' : Int} (h : IsP w l c) (h' : IsP (w + 1) l c') : c' ≤ c := h'.2 _ h.1.more
theorem near_eq_rising {w : Nat} {l : List Int} {f c : Int} (hw : 2 ≤ w) (h0 : ∀ x ∈ l, 0 ≤ x) (hn : 1 ≤ l.length) (hs : l.Pairwise (· ≤ ·)) (hf : IsMin w l f) (hc : IsP w l c) : c = f := by
  obtain ⟨c', g1, g2⟩ := near_of_real hw h0 hn hs hf.1
  exact Int.le_antisymm (Int.le_trans (hc.2 _ g1) g2) (near_ge_free hf hc)
theorem near_eq_falling {w : Nat} {l : List Int} {f c : Int} (hw : 2 ≤ w) (h0 : ∀ x ∈ l, 0 ≤ x) (hn : 1 ≤ l.length) (hs : l.reverse.Pairwise (· ≤ ·)) (hf : IsMin w l f) (hc : IsP w l c) : c = f := by
  obtain ⟨c', g1, g2⟩ := near_of_real (l := l.reverse) hw (fun x hx => h0 x (List.mem_reverse.mp hx)) (by rw [List.length_reverse]; exact hn) hs (hf.1.perm (List.reverse_perm l).symm)
  have g3 := g1.rev
  rw [List.reverse_reverse] at g3
  exact Int.le_antisymm (Int.le_trans (hc.2 _ g3) g2) (near_ge_free hf hc)
theorem real_sum {w : Nat} {l : List Int} {c : Int} (hw : 2 ≤ w) (h0 : ∀ x ∈ l, 0 ≤ x) (hn : 2 ≤ l.length) (h : Real w l c) : l.sum ≤ c := by
  obtain ⟨it, L, e1, e2, e3, rfl⟩ := h
  have hlen : it.length = l.length := by simpa using e1.length_eq
  have hpos : ∀ j, 0 < w ^ j := fun j => Nat.pow_pos (by omega)
  have hd : ∀ p ∈ it, 1 ≤ p.2 := fun p hp => by
    rcases Nat.eq_zero_or_pos p.2 with z | z
    · exfalso
      obtain ⟨r, hr⟩ := perm_of_mem hp
      rw [kr_perm hr, kr_cons, z, Nat.sub_zero] at e3
      have hrl : r ≠ [] := by
        rintro rfl
        have := hr.length_eq
        simp at this
        omega
      obtain ⟨q, hq⟩ := List.exists_mem_of_ne_nil r hrl
      obtain ⟨r2, hr2⟩ := perm_of_mem hq
      rw [kr_perm hr2, kr_cons] at e3
      have := hpos (L - q.2)
      omega
    · exact z
  have key : ∀ it : List (Int × Nat), (∀ p ∈ it, 1 ≤ p.2) → (∀ p ∈ it, 0 ≤ p.1) → (it.map (·.1)).sum ≤ cost it := by
    intro it
    induction it with
    | nil => intro _ _; exact Int.le_refl _
    | cons p it ih =>
      intro h1 h2
      have := ih (fun q hq => h1 q (List.mem_cons_of_mem _ hq)) (fun q hq => h2 q (List.mem_cons_of_mem _ hq))
      rw [cost_cons, List.map_cons, List.sum_cons]
      have k1 := h1 p List.mem_cons_self
      have k2 := h2 p List.mem_cons_self
      have k3 := Int.mul_le_mul_of_nonneg_left (show (1 : Int) ≤ (p.2 : Int) by omega) k2
      omega
  rw [← isum_perm e1]
  exact key it hd fun p hp => h0 _ (e1.mem_iff.mp (List.mem_map_of_mem hp))
theorem leaves (w : Nat) : ∀ l : List Int, NX w (some l.length) l 0
  | [] => .nil
  | x :: l => by
    have := NX.cons (NX.leaf (w := w) x) (leaves w l)
    simpa using this
theorem all_at_once {w : Nat} {l : List Int} (hn : 2 ≤ l.length) (hw : l.length ≤ w) : NX w none l l.sum := by
  have := NX.node hn hw (leaves w l)
  simpa using this
theorem whole_eq {w : Nat} {l : List Int} {f c : Int} (hw : 2 ≤ w) (h0 : ∀ x ∈ l, 0 ≤ x) (hn : 2 ≤ l.length) (hlw : l.length ≤ w) (hf : IsMin w l f) (hc : IsP w l c) : f = l.sum ∧ c = l.sum := by
  have h1 := all_at_once hn hlw
  have h2 := real_sum hw h0 hn hf.1
  have h3 := hc.2 _ h1
  have h4 := near_ge_free hf hc
  omega
theorem single_eq {w : Nat} {l : List Int} {f c : Int} (h1 : l.length = 1) (hf : IsMin w l f) (hc : IsP w l c) (h0 : ∀ x ∈ l, 0 ≤ x) : f = 0 ∧ c = 0 := by
  obtain ⟨x, rfl⟩ : ∃ x, l = [x] := by
    match l, h1 with
    | [x], _ => exact ⟨x, rfl⟩
  have e := (IsP.leaf w x).unique hc
  have e2 := near_ge_free hf hc
  have e3 := hf.1.nonneg h0
  omega

end FN

/-! Rules that the layer lacks: min of a list of pairs of ints, min of a tuple of ints, sorted(xs, key=lambda one: one[:2]). -/
namespace R1
open PySem PySem.Spec PyProof.Rows L2
/-! ### pairs as data -/
def encP (p : Int × Int) : PyData := .tuple [.int p.1, .int p.2]
theorem encP_inj {p q : Int × Int} (h : encP p = encP q) : p = q := by
  unfold encP at h
  injection h with h
  injection h with h1 h2
  injection h2 with h2 _
  injection h1 with h1
  injection h2 with h2
  exact Prod.ext h1 h2
theorem encP_alike (p q : Int × Int) : PySem.W.alike (encP p) (encP q) = true := by simp [encP, PySem.W.alike, PySem.W.alikeAll]
theorem encP_depth (p : Int × Int) : (encP p).depth ≤ 4 := by simp [encP, PyData.depth, PyData.depthAll]
theorem encP_lt (p q : Int × Int) : PySem.W.dataLt (encP p) (encP q) = decide (p.1 < q.1 ∨ (p.1 = q.1 ∧ p.2 < q.2)) := PySem.W.dataLt_ii _ _ _ _
/-- the least of pairs -/
theorem minD_pairs : ∀ (ps : List (Int × Int)) (p : Int × Int), ∃ q, q ∈ p :: ps ∧ PySem.W.minD (encP p) (ps.map encP) = encP q ∧ ∀ r, r ∈ p :: ps → q.1 ≤ r.1
  | [], p => ⟨p, List.mem_cons_self, rfl, fun r hr => by rw [List.mem_singleton.mp hr]; exact Int.le_refl _⟩
  | x :: ps, p => by
    by_cases c : x.1 < p.1 ∨ (x.1 = p.1 ∧ x.2 < p.2)
    · obtain ⟨q, h1, h2, h3⟩ := minD_pairs ps x
      refine ⟨q, List.mem_cons_of_mem _ h1, ?_, fun r hr => ?_⟩
      · have e : PySem.W.minD (encP p) ((x :: ps).map encP) = PySem.W.minD (encP x) (ps.map encP) := by
          unfold PySem.W.minD
          rw [List.map_cons, List.foldl_cons, if_pos (by rw [encP_lt]; exact decide_eq_true c)]
        rw [e, h2]
      · rcases List.mem_cons.mp hr with e | e
        · have := h3 x List.mem_cons_self
          rw [e]
          omega
        · exact h3 r e
    · obtain ⟨q, h1, h2, h3⟩ := minD_pairs ps p
      refine ⟨q, ?_, ?_, fun r hr => ?_⟩
      · rcases List.mem_cons.mp h1 with e | e
        · rw [e]; exact List.mem_cons_self
        · exact List.mem_cons_of_mem _ (List.mem_cons_of_mem _ e)
      · have e : PySem.W.minD (encP p) ((x :: ps).map encP) = PySem.W.minD (encP p) (ps.map encP) := by
          unfold PySem.W.minD
          rw [List.map_cons, List.foldl_cons, if_neg (by rw [encP_lt, decide_eq_true_eq]; exact c)]
        rw [e, h2]
      · rcases List.mem_cons.mp hr with e | e
        · exact h3 r (by rw [e]; exact List.mem_cons_self)
        · rcases List.mem_cons.mp e with e | e
          · have := h3 p List.mem_cons_self
            rw [e]
            omega
          · exact h3 r (List.mem_cons_of_mem _ e)
/-- a list of refs to pairs of ints -/
def PairsAt (H : Hp) (xs : List V) (k : V → Int × Int) : Prop := ∀ y ∈ xs, ∃ t, y = V.ref t ∧ H t = some (.tup [.int (k y).1, .int (k y).2])
section
variable {X : Cx} {pins : List (Addr × Obj)} {σ : L2.St} {H : Hp} {s : Shared}
theorem reads_ints2 {h : Heap} {u1 u2 : Value} {i j : Int} (r1 : RelV (.int i) u1) (r2 : RelV (.int j) u2) : ReadsAll h [u1, u2] [.int i, .int j] [] := by
  obtain ⟨t1, rfl⟩ := r1
  obtain ⟨t2, rfl⟩ := r2
  exact .cons (.int i t1) (.cons (.int j t2) .nil)
theorem reads_pair (I : Inv X pins σ H s) {t : Addr} {p : Int × Int} (h : H t = some (.tup [.int p.1, .int p.2])) : Reads s.heap (.ref t) (encP p) [] := by
  obtain ⟨_, its, r, o, ho, hc, n, hd⟩ := I.hok t _ h
  obtain ⟨u1, u2, rfl, r1, r2⟩ := vals2 r
  exact .tuple ho hc hd (reads_ints2 r1 r2)
theorem reads_pairs (I : Inv X pins σ H s) {k : V → Int × Int} : ∀ {xs : List V} {its : List Value}, Vals xs its → PairsAt H xs k → ReadsAll s.heap its (xs.map fun y => encP (k y)) []
  | [], _, .nil, _ => .nil
  | y :: xs, _, .cons r t, h => by
    obtain ⟨a, e, ha⟩ := h y List.mem_cons_self
    have rest := reads_pairs I t fun z hz => h z (List.mem_cons_of_mem _ hz)
    have hd := reads_pair I ha
    subst e
    cases r
    exact .cons (as := []) (bs := []) hd rest
def rMinP (K : PySem.W.Frag) : List V → Hp → VK → Prop := fun vs H Q => ∃ (a : Addr) (xs : List V) (k : V → Int × Int), vs = [V.ref a] ∧ SqL K H a xs ∧ xs ≠ [] ∧ PairsAt H xs k ∧ ∀ m, m ∈ xs → (∀ y, y ∈ xs → (k m).1 ≤ (k y).1) → Q m H
theorem depthAll_le {ds : List PyData} {n : Nat} (h : ∀ d ∈ ds, d.depth ≤ n) : PyData.depthAll ds ≤ n := by
  induction ds with
  | nil => simp [PyData.depthAll]
  | cons d ds ih =>
    have h1 := h d List.mem_cons_self
    have h2 := ih fun x hx => h x (List.mem_cons_of_mem _ hx)
    simp only [PyData.depthAll]
    omega
theorem cr_minP (hc : X.calm = true) (hu : X.A.units + 10 < cLine) : CallR X (.builtin "min") (rMinP X.K) := by
  intro pins s σ H vs us Q I r h
  obtain ⟨a, xs, k, rfl, hs, hne, hp, q⟩ := h
  obtain ⟨its, rv, hl, _⟩ := I.list hs
  rw [Vals.ref1 r]
  have hr := reads_pairs I rv hp
  obtain ⟨x, xr, rfl⟩ : ∃ x xr, xs = x :: xr := by
    cases xs with
    | nil => exact absurd rfl hne
    | cons x xr => exact ⟨x, xr, rfl⟩
  have hmap : (x :: xr).map (fun y => encP (k y)) = encP (k x) :: (xr.map k).map encP := by rw [List.map_cons, List.map_map]; rfl
  rw [hmap] at hr
  have hal : PySem.W.AlikeAll (encP (k x) :: (xr.map k).map encP) := by
    have hin : ∀ d ∈ encP (k x) :: (xr.map k).map encP, ∃ p, d = encP p := fun d hd => by
      rcases List.mem_cons.mp hd with e | e
      · exact ⟨_, e⟩
      · obtain ⟨p, _, e⟩ := List.exists_of_mem_map e
        exact ⟨p, e.symm⟩
    refine ⟨fun d hd d' hd' => ?_, fun d hd => ?_⟩
    · obtain ⟨p, rfl⟩ := hin d hd
      obtain ⟨p', rfl⟩ := hin d' hd'
      exact encP_alike _ _
    · obtain ⟨p, rfl⟩ := hin d hd
      intro e
      unfold encP at e
      cases e
  have hdep : PyData.depthAll (encP (k x) :: (xr.map k).map encP) ≤ 4 := depthAll_le fun d hd => by
    rcases List.mem_cons.mp hd with e | e
    · rw [e]; exact encP_depth _
    · obtain ⟨p, _, e⟩ := List.exists_of_mem_map e
      rw [← e]; exact encP_depth _
  refine PySem.W.min_list_data (vs := its.toArray) (I.ok.hd hc) hl.isList (by simpa using hr) hal (by omega) fun i v h' tk bs hi hv hk => ?_
  have hi' : its[i]? = some v := by simpa using hi
  have hil : i < its.length := (List.getElem?_eq_some_iff.mp hi').1
  have hix : i < (x :: xr).length := by rw [rv.length]; exact hil
  obtain ⟨u, hu', ru⟩ := Vals.get rv (List.getElem?_eq_getElem hix)
  rw [hi'] at hu'
  cases hu'
  have hmem : (x :: xr)[i] ∈ x :: xr := List.getElem_mem hix
  obtain ⟨t, et, ht⟩ := hp _ hmem
  obtain ⟨p, hpm, hmin, hle⟩ := minD_pairs (xr.map k) (k x)
  rw [hmin] at hv
  have rd : Reads h' v (encP (k (x :: xr)[i])) [] := by
    have := reads_pair I ht
    rw [et] at ru
    cases ru
    exact PySem.W.reads_keeps hk this
  have ekp : k (x :: xr)[i] = p := encP_inj (PySem.W.alike_unique _ _ _ _ _ (encP_alike _ _) rd hv)
  refine ⟨(x :: xr)[i], H, I.kept hk, ru, q _ hmem fun y hy => ?_⟩
  rw [ekp]
  refine hle _ ?_
  rcases List.mem_cons.mp hy with e | e
  · rw [e]; exact List.mem_cons_self
  · exact List.mem_cons_of_mem _ (List.mem_map_of_mem e)

/-! ### min of a tuple of ints -/
def rMinT (K : PySem.W.Frag) : List V → Hp → VK → Prop := fun vs H Q => ∃ (a : Addr) (ns : List Int), vs = [V.ref a] ∧ SqT K H a (ns.map V.int) ∧ 0 < ns.length ∧ ∀ m, m ∈ ns → (∀ y, y ∈ ns → m ≤ y) → Q (.int m) H
theorem fold_min : ∀ (ns : List Int) (n : Int), ns.foldl min n ∈ n :: ns ∧ ∀ y ∈ n :: ns, ns.foldl min n ≤ y
  | [], n => ⟨List.mem_cons_self, fun y hy => by rw [List.mem_singleton.mp hy]; exact Int.le_refl _⟩
  | k :: ns, n => by
    obtain ⟨h1, h2⟩ := fold_min ns (min n k)
    rw [List.foldl_cons]
    have h3 := h2 (min n k) List.mem_cons_self
    refine ⟨?_, fun y hy => ?_⟩
    · rcases List.mem_cons.mp h1 with e | e
      · rw [e]
        by_cases c : n ≤ k
        · rw [show min n k = n by omega]; exact List.mem_cons_self
        · rw [show min n k = k by omega]; exact List.mem_cons_of_mem _ List.mem_cons_self
      · exact List.mem_cons_of_mem _ (List.mem_cons_of_mem _ e)
    · rcases List.mem_cons.mp hy with e | e
      · omega
      · rcases List.mem_cons.mp e with e | e
        · omega
        · exact h2 y (List.mem_cons_of_mem _ e)
theorem reads_ints {h : Heap} : ∀ {ns : List Int} {its : List Value}, Vals (ns.map V.int) its → ReadsAll h its (ns.map .int) []
  | [], _, .nil => .nil
  | n :: ns, _, .cons r t => by
    obtain ⟨tk, rfl⟩ := r
    exact .cons (as := []) (bs := []) (.int n tk) (reads_ints t)
theorem cr_minT (hc : X.calm = true) (hu : X.A.units + 10 < cLine) : CallR X (.builtin "min") (rMinT X.K) := by
  intro pins s σ H vs us Q I r h
  obtain ⟨a, ns, rfl, hs, hne, q⟩ := h
  obtain ⟨its, rv, hl, _⟩ := I.tuple hs
  rw [Vals.ref1 r]
  have hr := reads_ints (h := s.heap) rv
  obtain ⟨x, xr, rfl⟩ : ∃ x xr, ns = x :: xr := by
    cases ns with
    | nil => exact absurd hne (by simp)
    | cons x xr => exact ⟨x, xr, rfl⟩
  have hin : ∀ d ∈ (x :: xr).map PyData.int, ∃ p, d = PyData.int p := fun d hd => by
    obtain ⟨p, _, e⟩ := List.exists_of_mem_map hd
    exact ⟨p, e.symm⟩
  have hal : PySem.W.AlikeAll ((x :: xr).map PyData.int) := by
    refine ⟨fun d hd d' hd' => ?_, fun d hd => ?_⟩
    · obtain ⟨p, rfl⟩ := hin d hd
      obtain ⟨p', rfl⟩ := hin d' hd'
      simp [PySem.W.alike]
    · obtain ⟨p, rfl⟩ := hin d hd
      intro e
      cases e
  have hdep : PyData.depthAll ((x :: xr).map PyData.int) ≤ 4 := depthAll_le fun d hd => by
    obtain ⟨p, rfl⟩ := hin d hd
    simp [PyData.depth]
  obtain ⟨o, ho, hcl, n, hdt⟩ := hl
  have hit : s.heap.IsTuple a its.toArray := ⟨o, ho, hcl, n, hdt⟩
  refine PySem.W.min_tuple_data (vs := its.toArray) (I.ok.hd hc) hit (by simpa using hr) hal (by rw [List.map_cons] at hdep; omega) fun i v h' tk bs hi hv hk => ?_
  rw [PySem.W.minD_ints] at hv
  obtain ⟨f1, f2⟩ := fold_min xr x
  cases hv with
  | int _ t => exact ⟨.int _, H, I.kept hk, ⟨_, rfl⟩, q _ f1 f2⟩
end
end R1

/-! sorted(xs, key=lambda one: one[:2]) -/
namespace R1
open PySem PySem.Spec PyProof.Rows L2
abbrev lamParams (p : Pos) : Arguments := { posonlyargs := [], args := [{ arg := "one", annotation := none, pos := p : Arg }], vararg := none, kwonlyargs := [], kw_defaults := [], kwarg := none, defaults := [] : Arguments }
abbrev lamScope : Scope := { kind := .function, names := [("one", .local)], isGenerator := false, isCoroutine := false, more := [] : Scope }
abbrev lamBody (p1 p2 p3 p4 : Pos) : Expr := .Subscript (.Name "one" p1) (.Slice none (some (.Constant (.int 2) 0 p2)) none p3) p4
section
variable {prog : Program} {w : World} {A : Around} {s : Shared}
theorem lam_bind {qual : Str} {p0 p1 p2 p3 p4 : Pos} {cl : List (Str × Addr)} {pm cdv ctv v : Value} : bindArgs (PySem.W.kla_fn "<lambda>" qual (lamParams p0) (lamBody p1 p2 p3 p4) lamScope cl pm cdv ctv) ⟨[v], []⟩ = (pure [(("one" : Str), v)] : Sem (List (Str × Value))) := by rfl
theorem ep_none {M : Model} {E : Value → Shared → Prop} {env : Env} {Q : Value → Shared → Prop} (h : Q .none s) : wpAny M A (evalPart none env) Q E s := wpAny_pure h
theorem ep_some {M : Model} {E : Value → Shared → Prop} {env : Env} {e : Expr} {Q : Value → Shared → Prop} (h : wpAny M A (eval e env) Q E s) : wpAny M A (evalPart (some e) env) Q E s := h
/-- the key's call: a new tuple of the first two -/
theorem lam_call {f c' t : Addr} {qual : Str} {p0 p1 p2 p3 p4 : Pos} {cl : List (Str × Addr)} {pm ctv z : Value} {i j : Int} {ti tj : Tok} (hroom : A.depth < recursionLimit) (hlim : s.heap.NoLimit)
    (of : s.heap.get? f = some (PySem.W.kla_obj "<lambda>" qual (lamParams p0) (lamBody p1 p2 p3 p4) lamScope cl pm c' ctv)) (hcode : s.heap.CodeRec (.ref c') qual) (ht : IsTup s.heap t #[.int i ti, .int j tj, z]) :
    wpAny (model prog w) A (call (.ref f) [.ref t]) (PySem.W.KeyPure (encP (i, j)) s) (fun _ _ => False) s := by
  refine wpAny_call (PySem.W.kla_callFunE hroom of rfl rfl rfl rfl hcode ?_)
  rw [lam_bind]
  refine wpAny_pure (wpAny_newFunctionEnv (fun y hy => ?_) (fun y hy => ?_) (fun h₁ hns hsb => ⟨hlim.fresh _ hsb, ?_⟩) rfl)
  · simp only [List.mem_singleton] at hy
    rw [hy]
    simp
  · simp only [List.mem_singleton] at hy
    rw [hy]
    rfl
  have kp : ∀ b o, s.heap.get? b = some o → h₁.get? b = some o := fun b o e => hsb.extBut b o (Nat.ne_of_lt (Heap.lt_size e)) (Heap.get?_push_of_some _ e)
  refine PySem.W.kla_codeExpr ?_
  refine Subscript_ (wpAny_Name (wpAny_loadName_local rfl rfl hns (v := .ref t) (by rfl) ?_) (by decide))
  refine wpAny_Slice (ep_none (ep_some (wpAny_Constant_int (ep_none ?_))))
  have kp2 : ∀ (q : Obj) b o, s.heap.get? b = some o → (h₁.push q).get? b = some o := fun q b o e => Heap.get?_push_of_some _ (kp b o e)
  have ht2 : ∀ q : Obj, IsTup (h₁.push q) t #[.int i ti, .int j tj, z] := fun q => by
    obtain ⟨o, ho, hc, n, hd⟩ := ht
    exact ⟨o, kp2 q _ _ ho, hc, n, hd⟩
  refine tail_any (T := "tuple") (ops := [.ref h₁.objs.size, .ref t]) (ht2 _).typeIs PyProof.Rows.slot_tuple_getitem.lookup ?_ (by with_unfolding_all rfl)
  refine HT.getItem_tuple_cut (items := #[.int i ti, .int j tj, z]) (lo := none) (hi := some 2) (ht2 _) (Heap.IsSliceOf.new ..) .none (.int 2 _) (by show ¬ (HT.sIx 3 0 none = 0 ∧ HT.sIx 3 3 (some 2) = 3); decide) ?_ (by show 3 ≤ sizeLine; decide)
  refine ⟨_, _, rfl, fun b o e => Heap.get?_push_of_some _ (kp2 _ b o e), ?_⟩
  refine .tuple (Heap.get?_push_size _ rfl) rfl rfl ?_
  exact .cons (as := []) (bs := []) (.int i ti) (.cons (as := []) (bs := []) (.int j tj) .nil)
end

/-- refs to triples that begin with two ints -/
def Trip (H : Hp) (xs : List V) (k : V → Int × Int) : Prop := ∀ y ∈ xs, ∃ t z, y = V.ref t ∧ H t = some (.tup [.int (k y).1, .int (k y).2, z])
theorem extN_seq {K : PySem.W.Frag} {H H' : Hp} {a : Addr} {xs : List V} (e : LamX.ExtN H H') (h : SqL K H a xs) : SqL K H' a xs := by
  rcases h with (h | ⟨o, h⟩) | h
  · exact .inl (.inl (e _ _ h fun ps z => by cases z))
  · exact .inl (.inr ⟨o, e _ _ h fun ps z => by cases z⟩)
  · exact .inr h
theorem extN_tup {H H' : Hp} {a : Addr} {xs : List V} (e : LamX.ExtN H H') (h : H a = some (.tup xs)) : H' a = some (.tup xs) := e _ _ h fun ps z => by cases z
theorem each_of_vals {xs0 : List V} : ∀ {xs : List V} {us : List Value}, Vals xs us → (∀ x ∈ xs, x ∈ xs0) → PySem.W.EachIs (fun (v : Value) (x : V) => RelV x v ∧ x ∈ xs0) us xs
  | _, _, .nil, _ => .nil
  | _, _, .cons r t, h => .cons ⟨r, h _ List.mem_cons_self⟩ (each_of_vals t fun x hx => h x (List.mem_cons_of_mem _ hx))
theorem vals_of_each {xs0 : List V} : ∀ {us : List Value} {xs : List V}, PySem.W.EachIs (fun (v : Value) (x : V) => RelV x v ∧ x ∈ xs0) us xs → Vals xs us
  | _, _, .nil => .nil
  | _, _, .cons r t => .cons r.1 (vals_of_each t)
theorem vals3' {x y z : V} {us : List Value} (r : Vals [x, y, z] us) : ∃ u1 u2 u3, us = [u1, u2, u3] ∧ RelV x u1 ∧ RelV y u2 := by
  cases r with
  | cons r1 r =>
    cases r with
    | cons r2 r =>
      cases r with
      | cons r3 r =>
        cases r
        exact ⟨_, _, _, rfl, r1, r2⟩
def tSortL (K : PySem.W.Frag) (P : Addr) (q : Str) (te : TA) : TE := fun σ H Q => te σ H fun vs H1 => ∃ (a : Addr) (xs : List V) (k : V → Int × Int), vs = [V.ref a] ∧ SqL K H1 a xs ∧ Trip H1 xs k ∧ LamX.TabS H1 P q ∧
  ∀ (ys : List V) (p : Addr) (H2 : Hp), ys.Perm xs → ys.Pairwise (fun y z => (k y).1 ≤ (k z).1) → LamX.ExtN H1 H2 → LamX.TabS H2 P q → H2 p = some (.lst ys) → Q (.ref p) H2
section
variable {X : Cx}
theorem pe_sortL {c P : Addr} {e : Expr} {te : TA} {p0 p1 p2 p3 p4 p5 pos lpos kpos : Pos} (ha : PA X [e] te) (hg : Gl X "sorted") (hm : X.mg "sorted" = none) (TB : LamX.TabB X.base X.mg c P) (hcode : X.env.code = .ref c) (hr : Room 1 X.A)
    (he : backTo pos (starEach [e] X.env) = (false, eval e X.env) :: backTo pos (starEach [] X.env) := by rfl) (hpl : (backTo pos (starEach [e] X.env)).any (·.1) = false := by rfl) :
    PE X (.Call (.Name "sorted" p5) [e] [⟨some "key", .Lambda (lamParams p0) (lamBody p1 p2 p3 p4) lamScope lpos, kpos⟩] pos) (tSortL X.K P (X.env.qual ++ "<lambda>") te) := by
  refine ⟨fun pins s σ H Q I h => ?_⟩
  refine wpAny_Call_Name_kw (ld_blt I hg hm (by decide +kernel : bootBuiltins "sorted" = some (.builtin "sorted")) ?_ (by decide) (by decide))
  refine callWith_kw (thn (ha.run pos pins s σ H _ I h) fun us s1 ⟨vs, H1, I1, r1, q1⟩ => ?_) he hpl (by rfl) (by rfl)
  obtain ⟨a, xs, k, rfl, hS, hT, hTab, hq⟩ := q1
  obtain rfl := Vals.ref1 r1
  show wpAny _ _ (evalAll ((do let v ← eval (.Lambda (lamParams p0) (lamBody p1 p2 p3 p4) lamScope lpos) X.env; standAt pos; pure v) :: [])) _ _ s1
  refine wpAny_evalAll_cons (wpAny_bind (LamX.lam_make2 (T := [(P, X.env.qual ++ "<lambda>")]) I1 TB hcode List.mem_cons_self (fun p hp _ => by rw [List.mem_singleton.mp hp]) (fun p hp => by rw [List.mem_singleton.mp hp]; exact hTab) rfl (fun y hy hf => ?_)
    fun f c' pm ctv H2 s2 I2 e2 T2 of hn hnf hc' => wpAny_bind (wpAny_standAt (wpAny_pure (wpAny_evalAll_nil ?_)))))
  · simp only [List.mem_singleton] at hy
    rw [hy] at hf
    cases hf
  show wpAny _ _ (call (.builtin "sorted") [.ref a] [(Str.ofString "key", .ref f)]) _ _ s2
  obtain ⟨its, rv, hl, hz⟩ := I2.list (extN_seq e2 hS)
  have hT2 : Trip H2 xs k := fun y hy => by
    obtain ⟨t, z, e, ht⟩ := hT y hy
    exact ⟨t, z, e, extN_tup e2 ht⟩
  have hun := hr.un
  have hdp := hr.dp
  refine PySem.W.sorted_key_data (β := V) (R := fun v x => RelV x v ∧ x ∈ xs) (bs := xs) (b := false) (fun y => encP (k y)) hl.isList (each_of_vals rv fun _ h => h) ?_ ?_ hz (fun y _ => ?_) (PyProof.Rows.ksk_s1 _ _) (fun _ => PyProof.Rows.ksk_l1 _ _) (fun x => PyProof.Rows.ksk_t1 f x) ?_ ?_
  · intro d hd d' hd'
    obtain ⟨y, _, rfl⟩ := List.exists_of_mem_map hd
    obtain ⟨y', _, rfl⟩ := List.exists_of_mem_map hd'
    exact encP_alike _ _
  · refine .inl fun d hd => ?_
    obtain ⟨y, _, rfl⟩ := List.exists_of_mem_map hd
    exact ⟨_, _, rfl⟩
  · have := encP_depth (k y)
    omega
  · rintro v y ⟨rvy, hy⟩ _ h tk hk
    obtain ⟨t, z, rfl, ht⟩ := hT2 y hy
    cases rvy
    obtain ⟨_, its2, r2, hob⟩ := I2.hok t _ ht
    obtain ⟨u1, u2, u3, rfl, ⟨ti, rfl⟩, ⟨tj, rfl⟩⟩ := vals3' r2
    obtain ⟨⟨oc, vs, tq, hoc, hdc, hvc⟩, _, _⟩ := I2.hok c' _ hc'
    refine lam_call (ti := ti) (tj := tj) (z := u3) (s := { s2 with heap := h, toks := tk }) (by show X.A.depth < _; omega) (I2.nolimit.keeps hk) (hk _ _ of) ⟨c', oc, vs, tq, rfl, hk _ _ hoc, hdc, hvc⟩ ?_
    obtain ⟨o, ho, hcl, n, hd⟩ := hob
    exact ⟨o, hk _ _ ho, hcl, n, hd⟩
  · intro out c h' tk hk _ hget hlen heach
    have hv := vals_of_each heach
    have hperm : (xs.mergeSort (PySem.W.dataLe false fun y => encP (k y))).Perm xs := List.mergeSort_perm _ _
    have hsrt := PySem.W.sort_pairwise (PySem.W.sortLe_total (PyProof.Rows.listOrd itemOrd) false fun y => PySem.W.keyToks (encP (k y))) xs
    have hle : PySem.W.dataLe false (fun y => encP (k y)) = fun p q => decide ((k p).1 < (k q).1 ∨ ((k p).1 = (k q).1 ∧ (k p).2 ≤ (k q).2)) := PySem.W.dataLe_ii (fun y => (k y).1) (fun y => (k y).2)
    have hnew : H2 (s2.heap.objs.size + 1) = none := I2.hok.fresh (Nat.le_succ _)
    have hext : LamX.ExtN H1 (upd H2 (s2.heap.objs.size + 1) (.lst (xs.mergeSort (PySem.W.dataLe false fun y => encP (k y))))) := e2.trans (LamX.ExtN.of fun b o e => by rw [upd_ne (ne_of_none e hnew)]; exact e)
    refine ⟨.ref _, upd H2 (s2.heap.objs.size + 1) (.lst (xs.mergeSort (PySem.W.dataLe false fun y => encP (k y)))), I2.laid (t' := tk) hk (Nat.le_succ _) ⟨by rw [hperm.length_eq]; exact hz, out, c, hv, hget⟩, rfl, ?_⟩
    refine hq _ _ _ hperm ?_ hext ((T2 _ List.mem_cons_self).ext fun b o e => by rw [upd_ne (ne_of_none e hnew)]; exact e) upd_same
    refine hsrt.imp fun {y z} hyz => ?_
    have hyz : PySem.W.dataLe false (fun y => encP (k y)) y z = true := hyz
    rw [hle] at hyz
    have := of_decide_eq_true hyz
    omega
end
end R1

/-! The class Prices: its object, what its methods promise, the small ones. -/
namespace K71
open PySem PySem.Spec PyProof.Rows L2 R1
/-! ### the text by places -/
def top (i : Nat) : Stmt := PySem.Challenge.pw_mergetree_k71_whole_near_and_free.main.body.getD i (.Pass ⟨0, 0, 0, 0⟩)
abbrev sInit : Stmt := inClass (top 1) 0
abbrev sSize : Stmt := inClass (top 1) 1
abbrev sCuts : Stmt := inClass (top 1) 2
abbrev sPut : Stmt := inClass (top 1) 3
abbrev sPrice : Stmt := inClass (top 1) 4
abbrev sParts : Stmt := inClass (top 1) 5
abbrev sTree : Stmt := inClass (top 1) 6
abbrev sNear : Stmt := top 2
abbrev sFree : Stmt := top 4
abbrev sMix : Stmt := top 6
abbrev sLeft : Stmt := top 7
abbrev sPick : Stmt := top 8
abbrev sMany : Stmt := top 9
abbrev sSizes : Stmt := top 10
abbrev sCosts : Stmt := top 11
abbrev sLaw : Stmt := top 12
/-! ### the object -/
def flds (w n : Int) (s d1 d2 : Addr) : List (Str × V) := putF "own_beside" (.ref d2) (putF "own_prices" (.ref d1) (putF "own_sums" (.ref s) (putF "own_many" (.int n) (putF "own_ways" (.int w) []))))
theorem fl_beside (w n : Int) (s d1 d2 : Addr) : (flds w n s d1 d2).lookup ("own_beside" : Str) = some (.ref d2) := by
  unfold flds
  rw [lookup_putF, if_pos rfl]
theorem fl_prices (w n : Int) (s d1 d2 : Addr) : (flds w n s d1 d2).lookup ("own_prices" : Str) = some (.ref d1) := by
  unfold flds
  rw [lookup_putF, if_neg (by decide +kernel), lookup_putF, if_pos rfl]
theorem fl_sums (w n : Int) (s d1 d2 : Addr) : (flds w n s d1 d2).lookup ("own_sums" : Str) = some (.ref s) := by
  unfold flds
  rw [lookup_putF, if_neg (by decide +kernel), lookup_putF, if_neg (by decide +kernel), lookup_putF, if_pos rfl]
theorem fl_many (w n : Int) (s d1 d2 : Addr) : (flds w n s d1 d2).lookup ("own_many" : Str) = some (.int n) := by
  unfold flds
  rw [lookup_putF, if_neg (by decide +kernel), lookup_putF, if_neg (by decide +kernel), lookup_putF, if_neg (by decide +kernel), lookup_putF, if_pos rfl]
theorem fl_ways (w n : Int) (s d1 d2 : Addr) : (flds w n s d1 d2).lookup ("own_ways" : Str) = some (.int w) := by
  unfold flds
  rw [lookup_putF, if_neg (by decide +kernel), lookup_putF, if_neg (by decide +kernel), lookup_putF, if_neg (by decide +kernel), lookup_putF, if_neg (by decide +kernel), lookup_putF, if_pos rfl]
theorem fl_no (w n : Int) (s d1 d2 : Addr) {m : Str} (h1 : ¬ m = "own_beside") (h2 : ¬ m = "own_prices") (h3 : ¬ m = "own_sums") (h4 : ¬ m = "own_many") (h5 : ¬ m = "own_ways") : (flds w n s d1 d2).lookup m = none := by
  unfold flds
  rw [lookup_putF, if_neg h1, lookup_putF, if_neg h2, lookup_putF, if_neg h3, lookup_putF, if_neg h4, lookup_putF, if_neg h5]
  rfl
/-- the sums of the first 0, 1, .. sizes -/
def psums (s : List Int) : List Int := (List.range (s.length + 1)).map fun i => (s.take i).sum
def seg (s : List Int) (b e : Nat) : List Int := (s.drop b).take (e - b)
abbrev Tab := List (List Key × V)
def lk2 (t : Tab) (b e : Nat) : Option V := valV t [Sum.inl (b : Int), Sum.inl (e : Int)]
def lk3 (t : Tab) (b e p : Nat) : Option V := valV t [Sum.inl (b : Int), Sum.inl (e : Int), Sum.inl (p : Int)]
/-- a Prices stands at p, behind H0 -/
structure PrAt (C : Addr) (H0 H : Hp) (p sA dP dB : Addr) (w : Nat) (s : List Int) (kp kb : Tab) : Prop where
  old : Same H0 H
  n1 : H0 p = none
  n2 : H0 dP = none
  n3 : H0 dB = none
  ob : ∃ dx, H p = some (.ins C dx (flds w s.length sA dP dB))
  sm : H sA = some (.lst ((psums s).map V.int))
  pr : H dP = some (.dT kp)
  be : H dB = some (.dT kb)
  ne : dP ≠ dB
theorem PrAt.same {C : Addr} {H0 H H' : Hp} {p sA dP dB : Addr} {w : Nat} {s : List Int} {kp kb : Tab} (h : PrAt C H0 H p sA dP dB w s kp kb) (k : Same H H') : PrAt C H0 H' p sA dP dB w s kp kb :=
  ⟨h.old.trans k, h.n1, h.n2, h.n3, by obtain ⟨dx, e⟩ := h.ob; exact ⟨dx, k _ _ e⟩, k _ _ h.sm, k _ _ h.pr, k _ _ h.be, h.ne⟩
theorem same_new {H : Hp} {p : Addr} (h : H p = none) (o : HO) : Same H (upd H p o) := fun b u q => by rw [upd_ne (ne_of_none q h)]; exact q
/-- what the walk asks of the class and the module -/
structure Txt (K : PySem.W.Frag) (mg : Str → Option Value) (C : Addr) : Prop where
  cl : Cls K C
  nW : NoAttr K C "own_ways"
  nM : NoAttr K C "own_many"
  nS : NoAttr K C "own_sums"
  nP : NoAttr K C "own_prices"
  nB : NoAttr K C "own_beside"
  mgC : mg "Prices" = some (.ref C)
  len : mg "len" = none
  range : mg "range" = none
  min : mg "min" = none
  tuple : mg "tuple" = none
section
variable {P : Program} {w : World} {K : PySem.W.Frag} {mg : Str → Option Value} {base : Heap}
/-! ### size_of -/
theorem psums_get {s : List Int} {i : Nat} (h : i ≤ s.length) : (psums s)[i]? = some (s.take i).sum := by
  unfold psums
  rw [List.getElem?_map, List.getElem?_range (by omega)]
  rfl
theorem psums_len (s : List Int) : (psums s).length = s.length + 1 := by simp [psums]
theorem take_sum_sub {s : List Int} {b e : Nat} (h : b ≤ e) : (s.take e).sum - (s.take b).sum = (seg s b e).sum := by
  have h1 : s.take e = s.take b ++ seg s b e := by
    unfold seg
    rw [← List.take_append_drop b (s.take e), List.take_take, Nat.min_eq_left h, List.drop_take]
  rw [h1, List.sum_append]
  omega
def spSize (C : Addr) : Sp := fun vs H Q _ => ∃ (H0 : Hp) (p sA dP dB : Addr) (w : Nat) (s : List Int) (kp kb : Tab) (b e : Nat), vs = [.ref p, .int b, .int e] ∧ PrAt C H0 H p sA dP dB w s kp kb ∧ b ≤ e ∧ e ≤ s.length ∧ Q (.int (seg s b e).sum) H
theorem scSize : FnScope ["self", "begin", "end"] ["self", "begin", "end"] (defScope sSize) := ⟨rfl, rfl, rfl, by decide +kernel, rfl, by decide +kernel, by decide +kernel⟩
theorem ok_size {f C : Addr} {fd : FuncData} (F : Fun K "size_of" "Prices.size_of" sSize f fd) (T : Txt K mg C) : FnOk P w K mg base CX0 1 f fd ["self", "begin", "end"] (spSize C) := by
  refine F.ok scSize (fun vs H Q E h => ?_) (fun cdv A outer s H vs Q E hr h => ?_)
  · obtain ⟨H0, p, sA, dP, dB, w, s, kp, kb, b, e, rfl, _⟩ := h
    rfl
  · obtain ⟨H0, p, sA, dP, dB, w, s, kp, kb, b, e, rfl, R, hbe, hes, q⟩ := h
    obtain ⟨dx, ho⟩ := R.ob
    refine ⟨_, pss_one (ps_ret (pe_op op_sub (pe_ix ix_list (pe_fld (pv 0) rfl) (pv 2) (fun _ _ => rfl)) (pe_ix ix_list (pe_fld (pv 0) rfl) (pv 1) (fun _ _ => rfl)))), ?_⟩
    have g1 : ((psums s).map V.int)[e]? = some (.int (s.take e).sum) := by rw [List.getElem?_map, psums_get hes]; rfl
    have g2 : ((psums s).map V.int)[b]? = some (.int (s.take b).sum) := by rw [List.getElem?_map, psums_get (by omega)]; rfl
    refine ⟨_, rfl, p, C, dx, _, _, rfl, ho, T.cl, T.nS, fl_sums _ _ _ _ _, _, rfl, sA, _, _, _, rfl, rfl, SqL.of R.sm, atI_nat g1, ?_⟩
    refine ⟨_, rfl, p, C, dx, _, _, rfl, ho, T.cl, T.nS, fl_sums _ _ _ _ _, _, rfl, sA, _, _, _, rfl, rfl, SqL.of R.sm, atI_nat g2, _, _, rfl, rfl, ?_⟩
    show Q (V.int ((s.take e).sum - (s.take b).sum)) H
    rw [take_sum_sub hbe]
    exact q
/-! ### price_of -/
def spPrice (C : Addr) : Sp := fun vs H Q _ => ∃ (H0 : Hp) (p sA dP dB : Addr) (w : Nat) (s : List Int) (kp kb : Tab) (b e : Nat) (v : V), vs = [.ref p, .int b, .int e] ∧ PrAt C H0 H p sA dP dB w s kp kb ∧ lk2 kp b e = some v ∧ ∀ H', Same H H' → Q v H'
theorem scPrice : FnScope ["self", "begin", "end"] ["self", "begin", "end"] (defScope sPrice) := ⟨rfl, rfl, rfl, by decide +kernel, rfl, by decide +kernel, by decide +kernel⟩
theorem ok_price {f C : Addr} {fd : FuncData} (F : Fun K "price_of" "Prices.price_of" sPrice f fd) (T : Txt K mg C) : FnOk P w K mg base CX0 1 f fd ["self", "begin", "end"] (spPrice C) := by
  refine F.ok scPrice (fun vs H Q E h => ?_) (fun cdv A outer s H vs Q E hr h => ?_)
  · obtain ⟨H0, p, sA, dP, dB, w, s, kp, kb, b, e, v, rfl, _⟩ := h
    rfl
  · obtain ⟨H0, p, sA, dP, dB, w, s, kp, kb, b, e, v, rfl, R, hv, q⟩ := h
    obtain ⟨dx, ho⟩ := R.ob
    have hu := hu_of hr
    refine ⟨_, pss_one (ps_ret (pe_dget hu (pe_fld (pv 0) rfl) (pe_tup (pa_cons (pv 1) (pa_cons (pv 2) pa_nil))) (fun _ _ => rfl))), ?_⟩
    refine ⟨_, rfl, p, C, dx, _, _, rfl, ho, T.cl, T.nP, fl_prices _ _ _ _ _, _, rfl, _, rfl, (by show 2 ≤ sizeLine; decide), fun t ht => ?_⟩
    have R1 := R.same (same_new ht (.tup [.int b, .int e]))
    refine ⟨dP, v, rfl, ?_, q _ (same_new ht _)⟩
    rw [← hv]
    exact DGet.t (k := [Sum.inl (b : Int), Sum.inl (e : Int)]) R1.pr upd_same
/-! ### cuts_of -/
/-- the cuts' list: pairs of a cost and a place -/
def CutsAt (H : Hp) (r : Addr) (b e : Nat) (g : Nat → Int) : Prop := ∃ xs, H r = some (.lst xs) ∧ xs.length = e - b - 1 ∧ ∀ i x, xs[i]? = some x → ∃ t, x = V.ref t ∧ H t = some (.tup [.int (g (b + 1 + i)), .int ((b + 1 + i : Nat) : Int)])
def spCuts (C : Addr) : Sp := fun vs H Q _ => ∃ (H0 : Hp) (p sA dP dB : Addr) (w : Nat) (s : List Int) (kp kb : Tab) (b e pt : Nat) (pf bf : Nat → Int), vs = [.ref p, .int b, .int e, .int pt] ∧ PrAt C H0 H p sA dP dB w s kp kb ∧ b < e ∧ e ≤ 1000 ∧
  (∀ i, b < i → i < e → lk2 kp b i = some (.int (pf i)) ∧ lk3 kb i e pt = some (.int (bf i))) ∧ ∀ H' r, Same H H' → CutsAt H' r b e (fun i => pf i + bf i) → Q (.ref r) H'
theorem scCuts : FnScope ["self", "begin", "end", "parts", "found", "cut"] ["self", "begin", "end", "parts"] (defScope sCuts) := ⟨rfl, rfl, rfl, by decide +kernel, rfl, by decide +kernel, by decide +kernel⟩
theorem ok_cuts {f C : Addr} {fd : FuncData} (F : Fun K "cuts_of" "Prices.cuts_of" sCuts f fd) (T : Txt K mg C) : FnOk P w K mg base CX0 1 f fd ["self", "begin", "end", "parts"] (spCuts C) := by
  refine F.ok scCuts (fun vs H Q E h => ?_) (fun cdv A outer s H vs Q E hr h => ?_)
  · obtain ⟨H0, p, sA, dP, dB, w, s, kp, kb, b, e, pt, pf, bf, rfl, _⟩ := h
    rfl
  · obtain ⟨H0, p, sA, dP, dB, w, s, kp, kb, b, e, pt, pf, bf, rfl, R, hbe, he1, hlk, q⟩ := h
    have hu := hu_of hr
    refine ⟨_, pss_cons (ps_set (i := 4) scCuts.nd rfl (Or.inl rfl) (pe_lst pa_nil))
      (pss_cons (ps_for PassesOwn.never rfl (pi_range2 (by rfl) T.range (pa_cons (pe_op op_add (pv 1) pe_int) (pa_cons (pv 2) pa_nil))) (pg_name (i := 5) scCuts.nd rfl (Or.inl rfl))
        (pss_one (ps_expr (pe_bm PySem.F.plainAttrs_list PySem.F.slot_list_append PySem.F.type_list_append mt_append (pv 4)
          (pa_cons (pe_tup (pa_cons (pe_op op_add (pe_dget hu (pe_fld (pv 0) rfl) (pe_tup (pa_cons (pv 1) (pa_cons (pv 5) pa_nil))) (fun _ _ => rfl))
            (pe_dget hu (pe_fld (pv 0) rfl) (pe_tup (pa_cons (pv 5) (pa_cons (pv 2) (pa_cons (pv 3) pa_nil)))) (fun _ _ => rfl))) (pa_cons (pv 5) pa_nil))) pa_nil)))))
      (pss_one (ps_ret (pv 4)))), ?_⟩
    refine ⟨Nat.zero_le _, fun l hl => ?_⟩
    have s1 : Same H (upd H l (.lst [])) := same_new hl _
    refine ⟨_, rfl, _, _, rfl, rfl, _, rfl, (b : Int) + 1, (e : Int), rfl, ⟨by omega, by omega, by omega, by omega⟩, ?_⟩
    refine for_range (lo := (b : Int) + 1) (n := ((e : Int) - ((b : Int) + 1)).toNat) (fun i σ H' => ∃ (v : Option V) (xs : List V), σ = [some (.ref p), some (.int b), some (.int e), some (.int pt), some (.ref l), v] ∧ Same H H' ∧ H' l = some (.lst xs) ∧ xs.length = i ∧
      ∀ j x, xs[j]? = some x → ∃ t, x = V.ref t ∧ H' t = some (.tup [.int (pf (b + 1 + j) + bf (b + 1 + j)), .int ((b + 1 + j : Nat) : Int)])) ?_ ?_ ?_
    · exact ⟨none, [], rfl, s1, upd_same, rfl, fun j x h => by simp at h⟩
    · rintro i σ H1 hi ⟨v, xs, rfl, sm, hx, hlen, hit⟩
      have R1 := R.same sm
      obtain ⟨dx, ho⟩ := R1.ob
      have hie : b + 1 + i < e := by omega
      obtain ⟨k1, k2⟩ := hlk (b + 1 + i) (by omega) hie
      have ei : (b : Int) + 1 + (i : Int) = ((b + 1 + i : Nat) : Int) := by omega
      refine ⟨_, rfl, .inl ⟨rfl, _, SqL.of hx⟩, _, rfl, p, C, dx, _, _, rfl, ho, T.cl, T.nP, fl_prices _ _ _ _ _, _, rfl, _, rfl, (by show 2 ≤ sizeLine; decide), fun t1 ht1 => ?_⟩
      have z1 := same_new ht1 (.tup [.int b, .int ((b : Int) + 1 + (i : Int))])
      refine ⟨dP, .int (pf (b + 1 + i)), rfl, ?_, ?_⟩
      · rw [← k1]
        refine DGet.t (k := [Sum.inl (b : Int), Sum.inl ((b + 1 + i : Nat) : Int)]) (R1.same z1).pr ?_
        rw [upd_same, ei]
        rfl
      have R2 := R1.same z1
      obtain ⟨dx2, ho2⟩ := R2.ob
      refine ⟨_, rfl, p, C, dx2, _, _, rfl, ho2, T.cl, T.nB, fl_beside _ _ _ _ _, _, rfl, _, rfl, _, rfl, (by show 3 ≤ sizeLine; decide), fun t2 ht2 => ?_⟩
      have z2 := same_new ht2 (.tup [.int ((b : Int) + 1 + (i : Int)), .int e, .int pt])
      refine ⟨dB, .int (bf (b + 1 + i)), rfl, ?_, ?_⟩
      · rw [← k2]
        refine DGet.t (k := [Sum.inl ((b + 1 + i : Nat) : Int), Sum.inl (e : Int), Sum.inl (pt : Int)]) (R2.same z2).be ?_
        rw [upd_same, ei]
        rfl
      refine ⟨_, _, rfl, rfl, _, rfl, (by show 2 ≤ sizeLine; decide), fun t3 ht3 => ?_⟩
      have z3 := same_new ht3 (.tup [.int (pf (b + 1 + i) + bf (b + 1 + i)), .int ((b : Int) + 1 + (i : Int))])
      have z13 := (z1.trans z2).trans z3
      have hx3 := z13 _ _ hx
      refine ⟨l, xs, .ref t3, rfl, rfl, hx3, by rw [hlen]; exact small1000 (by omega), ?_⟩
      have nl : ∀ b' o, H b' = some o → b' ≠ l := fun b' o e => ne_of_none e hl
      refine ⟨some (.int ((b : Int) + 1 + (i : Int))), xs ++ [.ref t3], rfl, fun b' o e' => ?_, upd_same, by rw [List.length_append, List.length_singleton, hlen], fun j x hj => ?_⟩
      · rw [upd_ne (nl _ _ e')]
        exact z13 _ _ (sm _ _ e')
      · rcases Nat.lt_trichotomy j i with c | c | c
        · rw [List.getElem?_append_left (by omega)] at hj
          obtain ⟨t, et, ht⟩ := hit j x hj
          refine ⟨t, et, ?_⟩
          rw [upd_ne (ne_of ht hx (by intro z; cases z))]
          exact z13 _ _ ht
        · subst c
          rw [List.getElem?_append_right (by omega), hlen, Nat.sub_self] at hj
          cases hj
          refine ⟨t3, rfl, ?_⟩
          rw [upd_ne (ne_of_none ((z1.trans z2) _ _ hx) ht3).symm, upd_same, ei]
        · rw [List.getElem?_eq_none (by rw [List.length_append, List.length_singleton]; omega)] at hj
          cases hj
    · rintro σ H1 ⟨v, xs, rfl, sm, hx, hlen, hit⟩
      exact ⟨_, rfl, q H1 l sm ⟨xs, hx, by omega, hit⟩⟩
end
end K71

/-! Prices.put_price -/
namespace K71
open PySem PySem.Spec PyProof.Rows L2 R1
/-- a target of two local names -/
abbrev gP (K : PySem.W.Frag) (i j : Nat) : TG := gTup K 2 (gCons (gName i) (gCons (gName j) gNil))
theorem pg_pair {X : Cx} {i j k : Nat} {x y : Str} {p1 p2 pos : Pos} (hc : X.calm = true) (hN : X.N.Nodup) (hi : X.N[i]? = some x) (hj : X.N[j]? = some y) (hx : X.env.scope.names.lookup x = some .local) (hy : X.env.scope.names.lookup y = some .local) :
    PG X (.Tuple [.Name x p1, .Name y p2] k pos) (gP X.K i j) :=
  pg_tup hc (pgs_cons (pg_name hN hi (.inl hx) (.inr hx)) (pgs_cons (pg_name hN hj (.inl hy) (.inr hy)) pgs_nil))
theorem yes_then {σ : L2.St} {H : Hp} {A B : Hp → Prop} (h : A H) : tYes σ H (fun b H3 => if b = true then A H3 else B H3) := by
  show if true = true then A H else B H
  rw [if_pos rfl]
  exact h
theorem hu10_of {A : Around} {k : Nat} (hr : Room k A) : A.units + 10 < cLine := by
  have := hr.un
  omega
/-! ### stretches -/
theorem seg_len {s : List Int} {b e : Nat} (h : e ≤ s.length) : (seg s b e).length = e - b := by
  unfold seg
  rw [List.length_take, List.length_drop]
  omega
theorem seg_take {s : List Int} {b e i : Nat} (h : b + i ≤ e) : (seg s b e).take i = seg s b (b + i) := by
  unfold seg
  rw [List.take_take, show min i (e - b) = b + i - b by omega]
theorem seg_drop {s : List Int} {b e i : Nat} : (seg s b e).drop i = seg s (b + i) e := by
  unfold seg
  rw [List.drop_take, List.drop_drop, show e - b - i = e - (b + i) by omega]
theorem seg_one {s : List Int} {b : Nat} (h : b < s.length) : ∃ x, seg s b (b + 1) = [x] := by
  have := seg_len (s := s) (b := b) (e := b + 1) (by omega)
  rw [show b + 1 - b = 1 by omega] at this
  match hx : seg s b (b + 1), this with
  | [x], _ => exact ⟨x, rfl⟩
theorem seg_whole (s : List Int) : seg s 0 s.length = s := by unfold seg; simp
/-! ### what the tables know -/
def GoodP (t : Tab) (w : Nat) (s : List Int) (b e : Nat) : Prop := ∃ c, lk2 t b e = some (.int c) ∧ FN.IsP w (seg s b e) c
def GoodB (t : Tab) (w : Nat) (s : List Int) (b e p : Nat) : Prop := ∃ c, lk3 t b e p = some (.int c) ∧ FN.IsB w p (seg s b e) c
def Good (kp kb : Tab) (w : Nat) (s : List Int) (b e : Nat) : Prop := GoodP kp w s b e ∧ ∀ p, 1 ≤ p → p ≤ w - 1 → GoodB kb w s b e p
def intOf : Option V → Int
  | some (.int c) => c
  | _ => 0
theorem GoodP.at_ {t : Tab} {w : Nat} {s : List Int} {b e : Nat} (h : GoodP t w s b e) : lk2 t b e = some (.int (intOf (lk2 t b e))) ∧ FN.IsP w (seg s b e) (intOf (lk2 t b e)) := by
  obtain ⟨c, h1, h2⟩ := h
  rw [h1]
  exact ⟨rfl, h2⟩
theorem GoodB.at_ {t : Tab} {w : Nat} {s : List Int} {b e p : Nat} (h : GoodB t w s b e p) : lk3 t b e p = some (.int (intOf (lk3 t b e p))) ∧ FN.IsB w p (seg s b e) (intOf (lk3 t b e p)) := by
  obtain ⟨c, h1, h2⟩ := h
  rw [h1]
  exact ⟨rfl, h2⟩
theorem lk2_put (t : Tab) (b e b' e' : Nat) (v : V) : lk2 (putK t [Sum.inl (b : Int), Sum.inl (e : Int)] v) b' e' = if b' = b ∧ e' = e then some v else lk2 t b' e' := by
  unfold lk2
  rw [valV_put]
  by_cases c : b' = b ∧ e' = e
  · obtain ⟨rfl, rfl⟩ := c
    rw [if_pos rfl, if_pos ⟨rfl, rfl⟩]
  · rw [if_neg c, if_neg]
    intro z
    injection z with z1 z2
    injection z1 with z1
    injection z2 with z2 _
    injection z2 with z2
    exact c ⟨by omega, by omega⟩
theorem lk3_put (t : Tab) (b e p b' e' p' : Nat) (v : V) : lk3 (putK t [Sum.inl (b : Int), Sum.inl (e : Int), Sum.inl (p : Int)] v) b' e' p' = if b' = b ∧ e' = e ∧ p' = p then some v else lk3 t b' e' p' := by
  unfold lk3
  rw [valV_put]
  by_cases c : b' = b ∧ e' = e ∧ p' = p
  · obtain ⟨rfl, rfl, rfl⟩ := c
    rw [if_pos rfl, if_pos ⟨rfl, rfl, rfl⟩]
  · rw [if_neg c, if_neg]
    intro z
    injection z with z1 z2
    injection z1 with z1
    injection z2 with z2 z3
    injection z2 with z2
    injection z3 with z3 _
    injection z3 with z3
    exact c ⟨by omega, by omega, by omega⟩
/-! ### the least of the cuts -/
def kOf (H : Hp) : V → Int × Int
  | .ref t => match H t with
    | some (.tup [.int a, .int b]) => (a, b)
    | _ => (0, 0)
  | _ => (0, 0)
theorem kOf_at {H : Hp} {t : Addr} {a b : Int} (h : H t = some (.tup [.int a, .int b])) : kOf H (.ref t) = (a, b) := by
  unfold kOf
  simp only [h]
theorem CutsAt.read {H : Hp} {r : Addr} {b e : Nat} {g : Nat → Int} (h : CutsAt H r b e g) : ∃ xs, H r = some (.lst xs) ∧ xs.length = e - b - 1 ∧ PairsAt H xs (kOf H) ∧
    ∀ m, m ∈ xs → (∀ y, y ∈ xs → (kOf H m).1 ≤ (kOf H y).1) → ∃ i t, b < i ∧ i < e ∧ m = .ref t ∧ H t = some (.tup [.int (g i), .int (i : Int)]) ∧ ∀ j, b < j → j < e → g i ≤ g j := by
  obtain ⟨xs, h1, h2, h3⟩ := h
  have hk : ∀ i x, xs[i]? = some x → kOf H x = (g (b + 1 + i), ((b + 1 + i : Nat) : Int)) := fun i x hi => by
    obtain ⟨t, rfl, ht⟩ := h3 i x hi
    exact kOf_at ht
  refine ⟨xs, h1, h2, fun y hy => ?_, fun m hm hle => ?_⟩
  · obtain ⟨i, hi, e1⟩ := List.mem_iff_getElem.mp hy
    have hi2 : xs[i]? = some y := by rw [List.getElem?_eq_getElem hi, e1]
    obtain ⟨t, rfl, ht⟩ := h3 i y hi2
    rw [kOf_at ht]
    exact ⟨t, rfl, ht⟩
  · obtain ⟨i, hi, e1⟩ := List.mem_iff_getElem.mp hm
    have hi2 : xs[i]? = some m := by rw [List.getElem?_eq_getElem hi, e1]
    obtain ⟨t, et, ht⟩ := h3 i m hi2
    refine ⟨b + 1 + i, t, by omega, by omega, et, ht, fun j h5 h6 => ?_⟩
    have hj : j - b - 1 < xs.length := by omega
    have hj2 : xs[j - b - 1]? = some xs[j - b - 1] := List.getElem?_eq_getElem hj
    have := hle _ (List.getElem_mem hj)
    rw [hk i m hi2, hk _ _ hj2, show b + 1 + (j - b - 1) = j by omega] at this
    exact this
theorem PrAt.putP {C : Addr} {H0 H : Hp} {p sA dP dB : Addr} {w : Nat} {s : List Int} {kp kb : Tab} (h : PrAt C H0 H p sA dP dB w s kp kb) (kp' : Tab) : PrAt C H0 (upd H dP (.dT kp')) p sA dP dB w s kp' kb := by
  obtain ⟨dx, ho⟩ := h.ob
  refine ⟨fun b o e => ?_, h.n1, h.n2, h.n3, ⟨dx, ?_⟩, ?_, upd_same, ?_, h.ne⟩
  · rw [upd_ne (ne_of_none e h.n2)]
    exact h.old _ _ e
  · rw [upd_ne (ne_of ho h.pr (by intro z; cases z))]
    exact ho
  · rw [upd_ne (ne_of h.sm h.pr (by intro z; cases z))]
    exact h.sm
  · rw [upd_ne h.ne.symm]
    exact h.be
theorem PrAt.putB {C : Addr} {H0 H : Hp} {p sA dP dB : Addr} {w : Nat} {s : List Int} {kp kb : Tab} (h : PrAt C H0 H p sA dP dB w s kp kb) (kb' : Tab) : PrAt C H0 (upd H dB (.dT kb')) p sA dP dB w s kp kb' := by
  obtain ⟨dx, ho⟩ := h.ob
  refine ⟨fun b o e => ?_, h.n1, h.n2, h.n3, ⟨dx, ?_⟩, ?_, ?_, upd_same, h.ne⟩
  · rw [upd_ne (ne_of_none e h.n3)]
    exact h.old _ _ e
  · rw [upd_ne (ne_of ho h.be (by intro z; cases z))]
    exact ho
  · rw [upd_ne (ne_of h.sm h.be (by intro z; cases z))]
    exact h.sm
  · rw [upd_ne h.ne]
    exact h.pr
/-- the cuts of a stretch, when all narrower ones are known -/
theorem price_cut {w : Nat} {s : List Int} {b e i : Nat} {kp kb : Tab} (hw : 2 ≤ w) (hbe : b + 2 ≤ e) (hes : e ≤ s.length) (hG : ∀ b' e', b' < e' → e' ≤ s.length → e' - b' < e - b → Good kp kb w s b' e') (h1 : b < i) (h2 : i < e)
    (hle : ∀ j, b < j → j < e → intOf (lk2 kp b i) + intOf (lk3 kb i e (w - 1)) ≤ intOf (lk2 kp b j) + intOf (lk3 kb j e (w - 1))) :
    FN.IsP w (seg s b e) ((seg s b e).sum + (intOf (lk2 kp b i) + intOf (lk3 kb i e (w - 1)))) := by
  have hl := seg_len (s := s) (b := b) hes
  refine FN.IsP.cut (p := fun j => intOf (lk2 kp b (b + j))) (q := fun j => intOf (lk3 kb (b + j) e (w - 1))) hw (by omega) (fun j j1 j2 => ?_) (fun j j1 j2 => ?_) ⟨i - b, by omega, by omega, ?_⟩ (fun j j1 j2 => ?_)
  · rw [seg_take (by omega)]
    exact (hG b (b + j) (by omega) (by omega) (by omega)).1.at_.2
  · rw [seg_drop]
    exact ((hG (b + j) e (by omega) hes (by omega)).2 (w - 1) (by omega) (Nat.le_refl _)).at_.2
  · show _ = intOf (lk2 kp b (b + (i - b))) + intOf (lk3 kb (b + (i - b)) e (w - 1))
    rw [show b + (i - b) = i by omega]
  · exact hle (b + j) (by omega) (by omega)
theorem beside_cut {w pp : Nat} {s : List Int} {b e : Nat} {kp kb : Tab} {c m : Int} (hpp : 1 ≤ pp) (hpw : pp + 1 ≤ w - 1) (hbe : b < e) (hes : e ≤ s.length) (hG : ∀ b' e', b' < e' → e' ≤ s.length → e' - b' < e - b → Good kp kb w s b' e') (hc : FN.IsP w (seg s b e) c)
    (hm : m = c ∨ ∃ i, b < i ∧ i < e ∧ m = intOf (lk2 kp b i) + intOf (lk3 kb i e pp)) (hle0 : m ≤ c) (hle : ∀ j, b < j → j < e → m ≤ intOf (lk2 kp b j) + intOf (lk3 kb j e pp)) : FN.IsB w (pp + 1) (seg s b e) m := by
  have hl := seg_len (s := s) (b := b) hes
  refine FN.IsB.cut (p := fun j => intOf (lk2 kp b (b + j))) (q := fun j => intOf (lk3 kb (b + j) e pp)) hpp hc (fun j j1 j2 => ?_) (fun j j1 j2 => ?_) ?_ hle0 (fun j j1 j2 => hle (b + j) (by omega) (by omega))
  · rw [seg_take (by omega)]
    exact (hG b (b + j) (by omega) (by omega) (by omega)).1.at_.2
  · rw [seg_drop]
    exact ((hG (b + j) e (by omega) hes (by omega)).2 pp hpp (by omega)).at_.2
  · rcases hm with z | ⟨i, h1, h2, z⟩
    · exact .inl z
    · refine .inr ⟨i - b, by omega, by omega, ?_⟩
      show m = intOf (lk2 kp b (b + (i - b))) + intOf (lk3 kb (b + (i - b)) e pp)
      rw [show b + (i - b) = i by omega]
      exact z
def spPut (C : Addr) : Sp := fun vs H Q _ => ∃ (H0 : Hp) (p sA dP dB : Addr) (w : Nat) (s : List Int) (kp kb : Tab) (b e : Nat), vs = [.ref p, .int b, .int e] ∧ PrAt C H0 H p sA dP dB w s kp kb ∧ 2 ≤ w ∧ w ≤ 6 ∧ b < e ∧ e ≤ s.length ∧ s.length ≤ 12 ∧ kp.length ≤ 10000 ∧ kb.length ≤ 10000 ∧
  (∀ b' e', b' < e' → e' ≤ s.length → e' - b' < e - b → Good kp kb w s b' e') ∧
  ∀ kp' kb' H', PrAt C H0 H' p sA dP dB w s kp' kb' → kp'.length ≤ kp.length + 1 → kb'.length ≤ kb.length + 6 → (∀ b' e', Good kp kb w s b' e' → Good kp' kb' w s b' e') → Good kp' kb' w s b e → Q .non H'
section
variable {P : Program} {w : World} {K : PySem.W.Frag} {mg : Str → Option Value} {base : Heap}
theorem scPut : FnScope ["self", "begin", "end", "price", "parts", "ways", "cost", "cut"] ["self", "begin", "end"] (defScope sPut) := ⟨rfl, rfl, rfl, by decide +kernel, rfl, by decide +kernel, by decide +kernel⟩
theorem ok_put {f fS fC C : Addr} {fd fdS fdC : FuncData} (F : Fun K "put_price" "Prices.put_price" sPut f fd) (T : Txt K mg C) (FS : Fun K "size_of" "Prices.size_of" sSize fS fdS) (bS : Binds K fdS ["self", "begin", "end"] []) (mS : Meth K C "size_of" fS)
    (FC : Fun K "cuts_of" "Prices.cuts_of" sCuts fC fdC) (bC : Binds K fdC ["self", "begin", "end", "parts"] []) (mC : Meth K C "cuts_of" fC) : FnOk P w K mg base CX0 2 f fd ["self", "begin", "end"] (spPut C) := by
  have GS : FnOk P w K mg base CX0 1 fS fdS ["self", "begin", "end"] (spSize C) := ok_size FS T
  have GC : FnOk P w K mg base CX0 1 fC fdC ["self", "begin", "end", "parts"] (spCuts C) := ok_cuts FC T
  refine F.ok scPut (fun vs H Q E h => ?_) (fun cdv A outer s H vs Q E hr h => ?_)
  · obtain ⟨H0, p, sA, dP, dB, w, s, kp, kb, b, e, rfl, _⟩ := h
    rfl
  · obtain ⟨H0, p, sA, dP, dB, w, s, kp, kb, b, e, rfl, R, hw2, hw6, hbe, hes, hs12, hkp, hkb, hG, q⟩ := h
    have hu := hu_of hr
    have hu10 := hu10_of hr
    refine ⟨_, pss_cons (ps_set (i := 3) scPut.nd rfl (Or.inl rfl) pe_int)
      (C8.pss_cut (ps_if (pt_cmpR op_gt (pe_op op_sub (pv 2) (pv 1)) pe_int (nomark _))
          (pss_one (ps_set (i := 3) scPut.nd rfl (Or.inl rfl) (pe_op op_add (pe_meth (pv 0) T.cl mS GS hr bS .nil pass0 (pa_cons (pv 1) (pa_cons (pv 2) pa_nil)))
            (pe_ix ix_tup (pe_callB (cr_minP rfl hu10) (by rfl) T.min boot_min (pa_cons (pe_meth (pv 0) T.cl mC GC hr bC .nil pass0 (pa_cons (pv 1) (pa_cons (pv 2) (pa_cons (pe_op op_sub (pe_fld (pv 0) rfl) pe_int) pa_nil)))) pa_nil)) pe_int (fun _ _ => rfl))))) pss_nil)
      (pss_cons (ps_dput hu (pe_fld (pv 0) rfl) (pe_tup (pa_cons (pv 1) (pa_cons (pv 2) pa_nil))) (pv 3) rfl)
      (pss_cons (ps_dput hu (pe_fld (pv 0) rfl) (pe_tup (pa_cons (pv 1) (pa_cons (pv 2) (pa_cons pe_int pa_nil)))) (pv 3) rfl)
      (pss_one (ps_for PassesOwn.never rfl (pi_range2 (by rfl) T.range (pa_cons pe_int (pa_cons (pe_fld (pv 0) rfl) pa_nil))) (pg_name (i := 4) scPut.nd rfl (Or.inl rfl))
        (pss_cons (ps_set (i := 5) scPut.nd rfl (Or.inl rfl) (pe_op op_cat (pe_lst (pa_cons (pv 3) pa_nil))
            (pe_lc (own := [("cost", 6), ("cut", 7)]) (g := gP K 6 7) (tt := tYes) rfl scPut.nd (pi_list (pe_meth (pv 0) T.cl mC GC hr bC .nil pass0 (pa_cons (pv 1) (pa_cons (pv 2) (pa_cons (pe_op op_sub (pv 4) pe_int) pa_nil))))) (blkOk_by (N := ["self", "begin", "end", "price", "parts", "ways", "cost", "cut"]) (sc := defScope sPut) (by decide +kernel))
              (fun _ _ _ _ _ => pg_pair (i := 6) (j := 7) rfl scPut.nd rfl rfl rfl rfl) (fun _ _ _ _ _ => pts_nil) (fun _ _ _ _ _ => pv 6))))
        (pss_one (ps_dput hu (pe_fld (pv 0) rfl) (pe_tup (pa_cons (pv 1) (pa_cons (pv 2) (pa_cons (pv 4) pa_nil)))) (pe_callB (cr_min rfl) (by rfl) T.min boot_min (pa_cons (pv 5) pa_nil)) rfl)))))))), ?_⟩
    -- the price
    refine ⟨fun σ H1 => ∃ c, σ = [some (.ref p), some (.int b), some (.int e), some (.int c), none, none, none, none] ∧ Same H H1 ∧ FN.IsP w (seg s b e) c, ?_, ?_⟩
    · refine ⟨_, rfl, _, rfl, _, _, rfl, rfl, _, _, rfl, rfl, _, rfl, ?_⟩
      refine ite2 (fun c => ?_) (fun c => ?_)
      · have c' : (e : Int) - (b : Int) > 1 := of_decide_eq_true c
        obtain ⟨dx, ho⟩ := R.ob
        refine ⟨_, rfl, p, dx, _, rfl, ho, fl_no _ _ _ _ _ (by decide +kernel) (by decide +kernel) (by decide +kernel) (by decide +kernel) (by decide +kernel), _, rfl, _, rfl, H0, p, sA, dP, dB, w, s, kp, kb, b, e, rfl, R, by omega, hes, ?_⟩
        refine ⟨_, rfl, p, dx, _, rfl, ho, fl_no _ _ _ _ _ (by decide +kernel) (by decide +kernel) (by decide +kernel) (by decide +kernel) (by decide +kernel), _, rfl, _, rfl, _, rfl, p, C, dx, _, _, rfl, ho, T.cl, T.nW, fl_ways _ _ _ _ _, _, _, rfl, rfl, ?_⟩
        refine ⟨H0, p, sA, dP, dB, w, s, kp, kb, b, e, w - 1, fun i => intOf (lk2 kp b i), fun i => intOf (lk3 kb i e (w - 1)), ?_, R, by omega, by omega, fun i h1 h2 => ⟨?_, ?_⟩, fun H1 r sm hcuts => ?_⟩
        · show [V.ref p, .int b, .int e, .int ((w : Int) - 1)] = _
          rw [show (w : Int) - 1 = ((w - 1 : Nat) : Int) by omega]
        · exact (hG b i (by omega) (by omega) (by omega)).1.at_.1
        · exact ((hG i e (by omega) hes (by omega)).2 (w - 1) (by omega) (Nat.le_refl _)).at_.1
        · obtain ⟨xs, hxs, hlen, hpairs, hmin⟩ := hcuts.read
          refine ⟨r, xs, kOf H1, rfl, SqL.of hxs, (by intro z; rw [z] at hlen; simp at hlen; omega), hpairs, fun m hm hle => ?_⟩
          obtain ⟨i, t, i1, i2, rfl, ht, hleast⟩ := hmin m hm hle
          refine ⟨t, _, _, _, rfl, rfl, SqT.of ht, atI_nat (j := 0) rfl, _, _, rfl, rfl, ?_⟩
          exact ⟨_, rfl, sm, price_cut hw2 (by omega) hes hG i1 i2 hleast⟩
      · have c' : ¬ (e : Int) - (b : Int) > 1 := of_decide_eq_false (Bool.eq_false_iff.mpr c)
        obtain rfl : e = b + 1 := by omega
        obtain ⟨x, hx⟩ := seg_one (s := s) (b := b) (by omega)
        exact ⟨0, rfl, Same.refl _, by rw [hx]; exact FN.IsP.leaf w x⟩
    · rintro σ H1 ⟨c, rfl, sm1, hc⟩
      have R1 := R.same sm1
      obtain ⟨dx, ho⟩ := R1.ob
      -- self.own_prices[begin, end] = price
      refine ⟨_, rfl, _, rfl, p, C, dx, _, _, rfl, ho, T.cl, T.nP, fl_prices _ _ _ _ _, _, rfl, _, rfl, (by show 2 ≤ sizeLine; decide), fun t1 ht1 => ?_⟩
      have R1' := R1.same (same_new ht1 (.tup [.int b, .int e]))
      refine ⟨dP, _, rfl, DPut.t (k := [Sum.inl (b : Int), Sum.inl (e : Int)]) R1'.pr upd_same (by rw [sizeLine_eq]; omega), ?_⟩
      have R2 := R1'.putP (putK kp [Sum.inl (b : Int), Sum.inl (e : Int)] (.int c))
      obtain ⟨dx2, ho2⟩ := R2.ob
      -- self.own_beside[begin, end, 1] = price
      refine ⟨_, rfl, _, rfl, p, C, dx2, _, _, rfl, ho2, T.cl, T.nB, fl_beside _ _ _ _ _, _, rfl, _, rfl, (by show 3 ≤ sizeLine; decide), fun t2 ht2 => ?_⟩
      have R2' := R2.same (same_new ht2 (.tup [.int b, .int e, .int 1]))
      refine ⟨dB, _, rfl, DPut.t (k := [Sum.inl (b : Int), Sum.inl (e : Int), Sum.inl ((1 : Nat) : Int)]) R2'.be upd_same (by rw [sizeLine_eq]; omega), ?_⟩
      have R3 := R2'.putB (putK kb [Sum.inl (b : Int), Sum.inl (e : Int), Sum.inl ((1 : Nat) : Int)] (.int c))
      obtain ⟨dx3, ho3⟩ := R3.ob
      have hl2 := length_putK kp [Sum.inl (b : Int), Sum.inl (e : Int)] (V.int c)
      have hl3 := length_putK kb [Sum.inl (b : Int), Sum.inl (e : Int), Sum.inl ((1 : Nat) : Int)] (V.int c)
      have hk2 : ∀ b' e', GoodP kp w s b' e' → GoodP (putK kp [Sum.inl (b : Int), Sum.inl (e : Int)] (V.int c)) w s b' e' := fun b' e' ⟨c', h1, h2⟩ => by
        by_cases z : b' = b ∧ e' = e
        · obtain ⟨rfl, rfl⟩ := z
          exact ⟨c, by rw [lk2_put, if_pos ⟨rfl, rfl⟩], hc⟩
        · exact ⟨c', by rw [lk2_put, if_neg z]; exact h1, h2⟩
      have hG2 : GoodP (putK kp [Sum.inl (b : Int), Sum.inl (e : Int)] (V.int c)) w s b e := ⟨c, by rw [lk2_put, if_pos ⟨rfl, rfl⟩], hc⟩
      have hlk : ∀ i, b < i → i < e → lk2 (putK kp [Sum.inl (b : Int), Sum.inl (e : Int)] (V.int c)) b i = lk2 kp b i := fun i h1 h2 => by rw [lk2_put, if_neg (by omega)]
      -- for parts in range(2, self.own_ways)
      refine ⟨_, rfl, p, C, dx3, _, _, rfl, ho3, T.cl, T.nW, fl_ways _ _ _ _ _, 2, (w : Int), rfl, ⟨by omega, by omega, by omega, by omega⟩, ?_⟩
      refine for_range (lo := 2) (n := ((w : Int) - 2).toNat) (fun i σ H' => ∃ (v4 v5 : Option V) (kbi : Tab), σ = [some (.ref p), some (.int b), some (.int e), some (.int c), v4, v5, none, none] ∧ PrAt C H0 H' p sA dP dB w s (putK kp [Sum.inl (b : Int), Sum.inl (e : Int)] (V.int c)) kbi ∧ kbi.length ≤ kb.length + 1 + i ∧
        (∀ b' e' pt, ¬ (b' = b ∧ e' = e) → lk3 kbi b' e' pt = lk3 kb b' e' pt) ∧ (∀ pt, 1 ≤ pt → pt ≤ i + 1 → GoodB kbi w s b e pt)) ?_ ?_ ?_
      · refine ⟨none, none, _, rfl, R3, by omega, fun b' e' pt z => ?_, fun pt h1 h2 => ?_⟩
        · rw [lk3_put, if_neg fun z' => z ⟨z'.1, z'.2.1⟩]
        · obtain rfl : pt = 1 := by omega
          exact ⟨c, by rw [lk3_put, if_pos ⟨rfl, rfl, rfl⟩], FN.IsB.one hc⟩
      · rintro i σ H4 hi ⟨v4, v5, kbi, rfl, R4, hl4, hold, hnew⟩
        obtain ⟨dx4, ho4⟩ := R4.ob
        -- [price]
        refine ⟨_, rfl, (by show 1 ≤ sizeLine; decide), fun l1 hl1 => ?_⟩
        have s4 := same_new hl1 (.lst [.int c])
        have R4' := R4.same s4
        obtain ⟨dx5, ho5⟩ := R4'.ob
        refine ⟨_, rfl, p, dx5, _, rfl, ho5, fl_no _ _ _ _ _ (by decide +kernel) (by decide +kernel) (by decide +kernel) (by decide +kernel) (by decide +kernel), _, rfl, _, rfl, _, rfl, _, _, rfl, rfl, ?_⟩
        refine ⟨H0, p, sA, dP, dB, w, s, _, kbi, b, e, i + 1, fun j => intOf (lk2 kp b j), fun j => intOf (lk3 kb j e (i + 1)), ?_, R4', by omega, by omega, fun j h1 h2 => ⟨?_, ?_⟩, fun H5 r sm5 hcuts => ?_⟩
        · show [V.ref p, .int b, .int e, .int ((2 : Int) + (i : Int) - 1)] = _
          rw [show (2 : Int) + (i : Int) - 1 = ((i + 1 : Nat) : Int) by omega]
        · rw [hlk j h1 h2]
          exact (hG b j (by omega) (by omega) (by omega)).1.at_.1
        · rw [hold j e (i + 1) (by omega)]
          exact ((hG j e (by omega) hes (by omega)).2 (i + 1) (by omega) (by omega)).at_.1
        obtain ⟨xs, hxs, hlen, hit⟩ := id hcuts
        refine ⟨r, rfl, ⟨_, SqL.of hxs⟩, fun D hD => ?_⟩
        refine lc_list (K := K) (a := r) (xs := xs) (fun j H' => Same H5 H' ∧ H' D = some (.lst (((List.range j).map fun k => intOf (lk2 kp b (b + 1 + k)) + intOf (lk3 kb (b + 1 + k) e (i + 1))).map V.int))) ?_ (fun j H' _ hP => SqL.of (hP.1 _ _ hxs)) ?_ ?_
        · exact ⟨same_new hD _, upd_same⟩
        · rintro j x H6 hj ⟨s6, h6⟩
          obtain ⟨t, rfl, ht⟩ := hit j x hj
          refine ⟨t, _, rfl, SqT.of (s6 _ _ ht), rfl, _, _, rfl, _, _, rfl, rfl, rfl, ?_⟩
          refine yes_then ?_
          refine ⟨_, rfl, _, h6, ?_, ?_, ?_⟩
          · rw [List.length_map, List.length_map, List.length_range]
            have := (List.getElem?_eq_some_iff.mp hj).1
            exact small1000 (by omega)
          · exact fun b' o e' => by rw [upd_ne (ne_of_none e' hD)]; exact s6 _ _ e'
          · rw [upd_same, List.range_succ, List.map_append, List.map_append]
            rfl
        · rintro H6 ⟨s6, h6⟩
          have s46 := (s4.trans sm5).trans s6
          refine ⟨l1, D, _, _, rfl, rfl, s6 _ _ (sm5 _ _ upd_same), h6, ?_, fun q7 hq7 => ?_⟩
          · rw [List.length_map, List.length_map, List.length_range]
            have := small1000 (n := 1 + xs.length) (by omega)
            show 1 + xs.length ≤ sizeLine
            omega
          have s7 := s46.trans (same_new hq7 (.lst ([V.int c] ++ ((List.range xs.length).map fun k => intOf (lk2 kp b (b + 1 + k)) + intOf (lk3 kb (b + 1 + k) e (i + 1))).map V.int)))
          have R7 := R4.same s7
          obtain ⟨dx7, ho7⟩ := R7.ob
          -- min(ways)
          refine ⟨_, rfl, q7, c :: (List.range xs.length).map fun k => intOf (lk2 kp b (b + 1 + k)) + intOf (lk3 kb (b + 1 + k) e (i + 1)), rfl, SqL.of upd_same, Nat.succ_pos _, fun m hm hle => ?_⟩
          refine ⟨_, rfl, p, C, dx7, _, _, rfl, ho7, T.cl, T.nB, fl_beside _ _ _ _ _, _, rfl, _, rfl, _, rfl, (by show 3 ≤ sizeLine; decide), fun t8 ht8 => ?_⟩
          have ei : (2 : Int) + (i : Int) = ((i + 2 : Nat) : Int) := by omega
          have R8 := R7.same (same_new ht8 (.tup [.int b, .int e, .int ((2 : Int) + (i : Int))]))
          refine ⟨dB, _, rfl, DPut.t (k := [Sum.inl (b : Int), Sum.inl (e : Int), Sum.inl ((i + 2 : Nat) : Int)]) R8.be (by rw [upd_same, ei]; rfl) (by rw [sizeLine_eq]; omega), ?_⟩
          have R9 := R8.putB (putK kbi [Sum.inl (b : Int), Sum.inl (e : Int), Sum.inl ((i + 2 : Nat) : Int)] (.int m))
          have hl9 := length_putK kbi [Sum.inl (b : Int), Sum.inl (e : Int), Sum.inl ((i + 2 : Nat) : Int)] (V.int m)
          refine ⟨_, _, _, rfl, R9, by omega, fun b' e' pt z => ?_, fun pt h1 h2 => ?_⟩
          · rw [lk3_put, if_neg fun z' => z ⟨z'.1, z'.2.1⟩]
            exact hold b' e' pt z
          · by_cases z : pt = i + 2
            · subst z
              refine ⟨m, by rw [lk3_put, if_pos ⟨rfl, rfl, rfl⟩], ?_⟩
              refine beside_cut (pp := i + 1) (by omega) (by omega) hbe hes hG hc ?_ (hle c List.mem_cons_self) (fun j h3 h4 => ?_)
              · rcases List.mem_cons.mp hm with z | z
                · exact .inl z
                · obtain ⟨k, hk, e1⟩ := List.exists_of_mem_map z
                  have hk := List.mem_range.mp hk
                  exact .inr ⟨b + 1 + k, by omega, by omega, e1.symm⟩
              · have := hle _ (List.mem_cons_of_mem _ (List.mem_map_of_mem (f := fun k => intOf (lk2 kp b (b + 1 + k)) + intOf (lk3 kb (b + 1 + k) e (i + 1))) (List.mem_range.mpr (show j - b - 1 < xs.length by omega))))
                rw [show b + 1 + (j - b - 1) = j by omega] at this
                exact this
            · obtain ⟨c', g1, g2⟩ := hnew pt h1 (by omega)
              exact ⟨c', by rw [lk3_put, if_neg (by omega)]; exact g1, g2⟩
      · rintro σ H4 ⟨v4, v5, kbi, rfl, R4, hl4, hold, hnew⟩
        refine q _ _ _ R4 (by omega) (by omega) (fun b' e' ⟨g1, g2⟩ => ⟨hk2 b' e' g1, fun pt h1 h2 => ?_⟩) ⟨hG2, fun pt h1 h2 => hnew pt h1 (by omega)⟩
        by_cases z : b' = b ∧ e' = e
        · obtain ⟨rfl, rfl⟩ := z
          exact hnew pt h1 (by omega)
        · obtain ⟨c', h3, h4⟩ := g2 pt h1 h2
          exact ⟨c', by rw [hold b' e' pt z]; exact h3, h4⟩
end
end K71

/-! Prices.__init__ -/
namespace K71
open PySem PySem.Spec PyProof.Rows L2 R1
theorem putF_len (f : Str) (v : V) : ∀ fs : List (Str × V), (putF f v fs).length ≤ fs.length + 1
  | [] => Nat.le_refl _
  | (g, x) :: r => by
    unfold putF
    split
    · simp
    · have := putF_len f v r
      simp only [List.length_cons]
      omega
def f1 (w : Int) : List (Str × V) := putF "own_ways" (.int w) []
def f2 (w n : Int) : List (Str × V) := putF "own_many" (.int n) (f1 w)
def f3 (w n : Int) (s : Addr) : List (Str × V) := putF "own_sums" (.ref s) (f2 w n)
def f4 (w n : Int) (s d1 : Addr) : List (Str × V) := putF "own_prices" (.ref d1) (f3 w n s)
theorem f1_len (w : Int) : (f1 w).length ≤ 1 := putF_len _ _ _
theorem f2_len (w n : Int) : (f2 w n).length ≤ 2 := Nat.le_trans (putF_len _ _ _) (Nat.succ_le_succ (f1_len w))
theorem f3_len (w n : Int) (s : Addr) : (f3 w n s).length ≤ 3 := Nat.le_trans (putF_len _ _ _) (Nat.succ_le_succ (f2_len w n))
theorem f4_len (w n : Int) (s d1 : Addr) : (f4 w n s d1).length ≤ 4 := Nat.le_trans (putF_len _ _ _) (Nat.succ_le_succ (f3_len w n s))
theorem f3_sums (w n : Int) (s : Addr) : (f3 w n s).lookup ("own_sums" : Str) = some (.ref s) := by
  unfold f3
  rw [lookup_putF, if_pos rfl]
def spInit (K : PySem.W.Frag) (C : Addr) : Sp := fun vs H Q _ => ∃ (H0 : Hp) (p a dx : Addr) (w : Nat) (s : List Int), vs = [.ref p, .ref a, .int w] ∧ Same H0 H ∧ H0 p = none ∧ H p = some (.ins C dx []) ∧ SqL K H0 a (s.map V.int) ∧ 2 ≤ w ∧ w ≤ 6 ∧ 1 ≤ s.length ∧ s.length ≤ 12 ∧
  ∀ sA dP dB kp kb H', PrAt C H0 H' p sA dP dB w s kp kb → (∀ b e, b < e → e ≤ s.length → Good kp kb w s b e) → Q .non H'
/-- the sums' list behind i sizes -/
def part (s : List Int) (i : Nat) : List V := ((List.range (i + 1)).map fun j => (s.take j).sum).map V.int
theorem part_last (s : List Int) (i : Nat) : part s i = ((List.range i).map fun j => (s.take j).sum).map V.int ++ [V.int (s.take i).sum] := by
  unfold part
  rw [List.range_succ, List.map_append, List.map_append]
  rfl
theorem part_len (s : List Int) (i : Nat) : (part s i).length = i + 1 := by simp [part]
section
variable {P : Program} {w : World} {K : PySem.W.Frag} {mg : Str → Option Value} {base : Heap}
theorem scInit : FnScope ["self", "sizes", "ways", "size", "wide", "begin"] ["self", "sizes", "ways"] (defScope sInit) := ⟨rfl, rfl, rfl, by decide +kernel, rfl, by decide +kernel, by decide +kernel⟩
theorem ok_init {f fP C : Addr} {fd fdP : FuncData} (F : Fun K "__init__" "Prices.__init__" sInit f fd) (T : Txt K mg C) (GP : FnOk P w K mg base CX0 2 fP fdP ["self", "begin", "end"] (spPut C)) (bP : Binds K fdP ["self", "begin", "end"] []) (mP : Meth K C "put_price" fP) :
    FnOk P w K mg base CX0 3 f fd ["self", "sizes", "ways"] (spInit K C) := by
  refine F.ok scInit (fun vs H Q E h => ?_) (fun cdv A outer s H vs Q E hr h => ?_)
  · obtain ⟨H0, p, a, dx, w, s, rfl, _⟩ := h
    rfl
  · obtain ⟨H0, p, a, dx, w, s, rfl, sm0, hp0, hp, hS, hw2, hw6, hn1, hn12, q⟩ := h
    have hu := hu_of hr
    refine ⟨_, pss_cons (ps_fld (pv 0) (pv 2) rfl)
      (pss_cons (ps_fld (pv 0) (pe_callB call_len_seq (by rfl) T.len PySem.boot_len (pa_cons (pv 1) pa_nil)) rfl)
      (pss_cons (ps_fld (pv 0) (pe_lst (pa_cons pe_int pa_nil)) rfl)
      (pss_cons (ps_for PassesOwn.never rfl (pi_list (pv 1)) (pg_name (i := 3) scInit.nd rfl (Or.inl rfl))
        (pss_one (ps_expr (pe_bm PySem.F.plainAttrs_list PySem.F.slot_list_append PySem.F.type_list_append mt_append (pe_fld (pv 0) rfl)
          (pa_cons (pe_op op_add (pe_ix ix_list (pe_fld (pv 0) rfl) (pe_un un_neg pe_int) (fun _ _ => rfl)) (pv 3)) pa_nil)))))
      (pss_cons (ps_fld (pv 0) pe_dnewT rfl)
      (pss_cons (ps_fld (pv 0) pe_dnewT rfl)
      (pss_one (ps_for PassesOwn.never rfl (pi_range2 (by rfl) T.range (pa_cons pe_int (pa_cons (pe_op op_add (pe_fld (pv 0) rfl) pe_int) pa_nil))) (pg_name (i := 4) scInit.nd rfl (Or.inl rfl))
        (pss_one (ps_for PassesOwn.never rfl (pi_range1 (by rfl) T.range (pa_cons (pe_op op_add (pe_op op_sub (pe_fld (pv 0) rfl) (pv 4)) pe_int) pa_nil)) (pg_name (i := 5) scInit.nd rfl (Or.inl rfl))
          (pss_one (ps_expr (pe_meth (pv 0) T.cl mP GP hr bP .nil pass0 (pa_cons (pv 5) (pa_cons (pe_op op_add (pv 5) (pv 4)) pa_nil)))))))))))))), ?_⟩
    have hS1 : SqL K H a (s.map V.int) := sm0.seq hS
    have keep : ∀ {H1 : Hp} (o : HO), Same H0 H1 → Same H0 (upd H1 p o) := fun o k b u e => by
      rw [upd_ne (ne_of_none e hp0)]
      exact k _ _ e
    -- self.own_ways = ways
    refine ⟨_, rfl, _, rfl, p, C, dx, _, rfl, hp, T.cl, T.nW, (by show 0 < 1000; decide), ?_⟩
    have k1 : Same H0 (upd H p (.ins C dx (f1 w))) := keep _ sm0
    -- self.own_many = len(sizes)
    refine ⟨_, rfl, a, _, rfl, .inl (k1.seq hS), _, rfl, p, C, dx, _, rfl, upd_same, T.cl, T.nM, Nat.lt_of_le_of_lt (f1_len w) (by decide), ?_⟩
    have k2 : Same H0 (upd (upd H p (.ins C dx (f1 w))) p (.ins C dx (f2 w s.length))) := keep _ k1
    rw [List.length_map]
    -- self.own_sums = [0]
    refine ⟨(by show 1 ≤ sizeLine; decide), fun sA hsA => ?_⟩
    have hsA : (upd (upd H p (.ins C dx (f1 w))) p (.ins C dx (f2 w s.length))) sA = none := hsA
    have npA : p ≠ sA := ne_of_none (H := upd (upd H p (.ins C dx (f1 w))) p (.ins C dx (f2 w s.length))) upd_same hsA
    have k3 := k2.trans (same_new hsA (.lst [.int 0]))
    refine ⟨_, rfl, p, C, dx, _, rfl, (by rw [upd_ne npA]; exact upd_same), T.cl, T.nS, Nat.lt_of_le_of_lt (f2_len w s.length) (by decide), ?_⟩
    have k4 := keep (.ins C dx (f3 w s.length sA)) k3
    have hA0 : H0 sA = none := k2.free hsA
    -- for size in sizes
    refine ⟨_, rfl, a, rfl, ⟨_, k4.seq hS⟩, for_list (K := K) (a := a) (xs := s.map V.int) (fun i σ H' => ∃ (v3 : Option V), σ = [some (.ref p), some (.ref a), some (.int w), v3, none, none] ∧ Same H0 H' ∧ H' p = some (.ins C dx (f3 w s.length sA)) ∧ H' sA = some (.lst (part s i)))
      ⟨none, rfl, k4, upd_same, by rw [upd_ne npA.symm, upd_same]; rfl⟩ (fun i σ H' _ ⟨_, _, k, _⟩ => k.seq hS) ?_ ?_⟩
    · rintro i y σ H1 hi ⟨v3, rfl, k5, hp5, hA5⟩
      obtain ⟨z, hz, rfl⟩ : ∃ z, s[i]? = some z ∧ y = V.int z := by
        rw [List.getElem?_map] at hi
        cases e : s[i]? with
        | none =>
          rw [e] at hi
          cases hi
        | some z =>
          rw [e] at hi
          exact ⟨z, rfl, (Option.some.inj hi).symm⟩
      have hil : i < s.length := (List.getElem?_eq_some_iff.mp hz).1
      have gl : atI (part s i) (-1) = some (.int (s.take i).sum) := by
        rw [part_last]
        exact atI_last _ _
      refine ⟨_, rfl, p, C, dx, _, _, rfl, hp5, T.cl, T.nS, f3_sums _ _ _, .inl ⟨rfl, _, SqL.of hA5⟩, _, rfl, p, C, dx, _, _, rfl, hp5, T.cl, T.nS, f3_sums _ _ _, 1, rfl, sA, _, -1, _, rfl, rfl, SqL.of hA5, gl, _, rfl, _, _, rfl, rfl, ?_⟩
      refine ⟨sA, _, _, rfl, rfl, hA5, by rw [part_len]; exact small1000 (by omega), ?_⟩
      refine ⟨_, rfl, fun b u e => ?_, ?_, ?_⟩
      · rw [upd_ne (ne_of_none e hA0)]
        exact k5 _ _ e
      · rw [upd_ne npA]
        exact hp5
      · rw [upd_same, part_last s (i + 1), sum_take hz]
        rfl
    · rintro σ H1 ⟨v3, rfl, k5, hp5, hA5⟩
      rw [List.length_map] at hA5
      -- self.own_prices = {}
      intro dP hdP
      have npP : p ≠ dP := ne_of_none hp5 hdP
      have nAP : sA ≠ dP := ne_of_none hA5 hdP
      have k6 := k5.trans (same_new hdP (.dT []))
      have hP0 : H0 dP = none := k5.free hdP
      refine ⟨_, rfl, p, C, dx, _, rfl, (by rw [upd_ne npP]; exact hp5), T.cl, T.nP, Nat.lt_of_le_of_lt (f3_len w s.length sA) (by decide), ?_⟩
      have k7 := keep (.ins C dx (f4 w s.length sA dP)) k6
      -- self.own_beside = {}
      intro dB hdB
      have hdB : (upd (upd H1 dP (.dT [])) p (.ins C dx (f4 w s.length sA dP))) dB = none := hdB
      have npB : p ≠ dB := ne_of_none (H := upd (upd H1 dP (.dT [])) p (.ins C dx (f4 w s.length sA dP))) upd_same hdB
      have nPB : dP ≠ dB := ne_of_none (H := upd (upd H1 dP (.dT [])) p (.ins C dx (f4 w s.length sA dP))) (by rw [upd_ne npP.symm, upd_same]) hdB
      have nAB : sA ≠ dB := ne_of_none (H := upd (upd H1 dP (.dT [])) p (.ins C dx (f4 w s.length sA dP))) (by rw [upd_ne npA.symm, upd_ne nAP]; exact hA5) hdB
      have k8 := k7.trans (same_new hdB (.dT []))
      have hB0 : H0 dB = none := k7.free hdB
      refine ⟨_, rfl, p, C, dx, _, rfl, (by rw [upd_ne npB]; exact upd_same), T.cl, T.nB, Nat.lt_of_le_of_lt (f4_len w s.length sA dP) (by decide), ?_⟩
      have R : PrAt C H0 (upd (upd (upd (upd H1 dP (.dT [])) p (.ins C dx (f4 w s.length sA dP))) dB (.dT [])) p (.ins C dx (flds w s.length sA dP dB))) p sA dP dB w s [] [] := by
        refine ⟨keep _ k8, hp0, hP0, hB0, ⟨dx, upd_same⟩, ?_, ?_, ?_, nPB⟩
        · rw [upd_ne npA.symm, upd_ne nAB, upd_ne npA.symm, upd_ne nAP]
          exact hA5
        · rw [upd_ne npP.symm, upd_ne nPB, upd_ne npP.symm, upd_same]
        · rw [upd_ne npB.symm, upd_same]
      obtain ⟨dx2, ho⟩ := R.ob
      -- for wide in range(1, self.own_many + 1)
      refine ⟨_, rfl, p, C, dx2, _, _, rfl, ho, T.cl, T.nM, fl_many _ _ _ _ _, _, _, rfl, rfl, 1, (s.length : Int) + 1, rfl, ⟨by omega, by omega, by omega, by omega⟩, ?_⟩
      refine for_range (lo := 1) (n := ((s.length : Int) + 1 - 1).toNat) (fun i σ H' => ∃ (v3 v4 v5 : Option V) (kp kb : Tab), σ = [some (.ref p), some (.ref a), some (.int w), v3, v4, v5] ∧ PrAt C H0 H' p sA dP dB w s kp kb ∧ kp.length ≤ 12 * i ∧ kb.length ≤ 72 * i ∧
        ∀ b e, b < e → e ≤ s.length → e - b ≤ i → Good kp kb w s b e) ?_ ?_ ?_
      · exact ⟨_, _, _, [], [], rfl, R, Nat.zero_le _, Nat.zero_le _, fun b e h1 h2 h3 => by omega⟩
      · rintro i σ H2 hi ⟨w3, w4, w5, kp, kb, rfl, R2, hl1, hl2, hG⟩
        obtain ⟨dx3, ho3⟩ := R2.ob
        have hi' : i < s.length := by omega
        refine ⟨_, rfl, p, C, dx3, _, _, rfl, ho3, T.cl, T.nM, fl_many _ _ _ _ _, _, rfl, _, _, rfl, rfl, _, _, rfl, rfl, (s.length : Int) - (1 + (i : Int)) + 1, rfl, by omega, by omega, ?_⟩
        refine for_range (lo := 0) (n := ((s.length : Int) - (1 + (i : Int)) + 1).toNat) (fun j σ H' => ∃ (v5 : Option V) (kp kb : Tab), σ = [some (.ref p), some (.ref a), some (.int w), w3, some (.int (1 + (i : Int))), v5] ∧ PrAt C H0 H' p sA dP dB w s kp kb ∧ kp.length ≤ 12 * i + j ∧ kb.length ≤ 72 * i + 6 * j ∧
          ∀ b e, b < e → e ≤ s.length → (e - b ≤ i ∨ (e - b = i + 1 ∧ b < j)) → Good kp kb w s b e) ?_ ?_ ?_
        · exact ⟨_, kp, kb, rfl, R2, hl1, hl2, fun b e h1 h2 h3 => hG b e h1 h2 (by omega)⟩
        · rintro j σ H3 hj ⟨v5, kp3, kb3, rfl, R3, hl3, hl4, hG3⟩
          obtain ⟨dx4, ho4⟩ := R3.ob
          refine ⟨_, rfl, p, dx4, _, rfl, ho4, fl_no _ _ _ _ _ (by decide +kernel) (by decide +kernel) (by decide +kernel) (by decide +kernel) (by decide +kernel), _, rfl, _, rfl, _, rfl, _, _, rfl, rfl, ?_⟩
          refine ⟨H0, p, sA, dP, dB, w, s, kp3, kb3, j, j + i + 1, ?_, R3, hw2, hw6, by omega, by omega, hn12, by omega, by omega, fun b' e' h1 h2 h3 => hG3 b' e' h1 h2 (.inl (by omega)), fun kp' kb' H' R4 hl5 hl6 hold hnew => ?_⟩
          · show [V.ref p, .int (0 + (j : Int)), .int (0 + (j : Int) + (1 + (i : Int)))] = _
            rw [show (0 : Int) + (j : Int) + (1 + (i : Int)) = ((j + i + 1 : Nat) : Int) by omega, Int.zero_add]
          · refine ⟨_, kp', kb', rfl, R4, by omega, by omega, fun b e h1 h2 h3 => ?_⟩
            by_cases z : e - b = i + 1 ∧ b = j
            · obtain ⟨z1, rfl⟩ := z
              obtain rfl : e = b + i + 1 := by omega
              exact hnew
            · exact hold b e (hG3 b e h1 h2 (by omega))
        · rintro σ H3 ⟨v5, kp3, kb3, rfl, R3, hl3, hl4, hG3⟩
          exact ⟨_, _, _, kp3, kb3, rfl, R3, by omega, by omega, fun b e h1 h2 h3 => hG3 b e h1 h2 (by omega)⟩
      · rintro σ H2 ⟨w3, w4, w5, kp, kb, rfl, R2, hl1, hl2, hG⟩
        exact q _ _ _ _ _ _ R2 fun b e h1 h2 => hG b e h1 h2 (by omega)
end
end K71

/-! Prices.parts_of, Prices.tree_of, near_plan -/
namespace K71
open PySem PySem.Spec PyProof.Rows L2 R1
theorem isB_unique {w p : Nat} {l : List Int} {c c' : Int} (h : FN.IsB w p l c) (h' : FN.IsB w p l c') : c = c' := by
  obtain ⟨⟨k, k1, k2, k3⟩, k4⟩ := h
  obtain ⟨⟨j, j1, j2, j3⟩, j4⟩ := h'
  exact Int.le_antisymm (k4 _ _ j1 j2 j3) (j4 _ _ k1 k2 k3)
theorem isB_single {w p : Nat} {x c : Int} (h : FN.IsB w p [x] c) : 0 ≤ c := by
  obtain ⟨⟨k, k1, k2, k3⟩, _⟩ := h
  have hk : k ≤ 1 := k3.ne
  obtain rfl : k = 1 := by omega
  exact (FN.IsP.leaf w x).2 _ k3.one'
/-- pairs of ends of narrower stretches -/
def PairsIn (H : Hp) (xs : List V) (b e : Nat) : Prop := ∀ x ∈ xs, ∃ (t : Addr) (f l : Nat), x = V.ref t ∧ H t = some (.tup [.int f, .int l]) ∧ b ≤ f ∧ f < l ∧ l ≤ e ∧ l - f < e - b
theorem PairsIn.keep {H H' : Hp} {xs : List V} {b e : Nat} (h : PairsIn H xs b e) (k : ∀ t ys, H t = some (.tup ys) → H' t = some (.tup ys)) : PairsIn H' xs b e := fun x hx => by
  obtain ⟨t, f, l, e1, e2, r⟩ := h x hx
  exact ⟨t, f, l, e1, k _ _ e2, r⟩
def spParts (C : Addr) : Sp := fun vs H Q _ => ∃ (H0 : Hp) (p sA dP dB : Addr) (w : Nat) (s : List Int) (kp kb : Tab) (b e : Nat), vs = [.ref p, .int b, .int e] ∧ PrAt C H0 H p sA dP dB w s kp kb ∧ 2 ≤ w ∧ w ≤ 6 ∧ b + 2 ≤ e ∧ e ≤ s.length ∧ s.length ≤ 12 ∧
  (∀ b' e', b' < e' → e' ≤ s.length → Good kp kb w s b' e') ∧ ∀ H' r xs, Same H H' → H' r = some (.lst xs) → xs.length ≤ 100 → PairsIn H' xs b e → Q (.ref r) H'
def spTree (C : Addr) (n : Nat) : Sp := fun vs H Q _ => ∃ (H0 : Hp) (p sA dP dB : Addr) (w : Nat) (s : List Int) (kp kb : Tab) (b e : Nat), vs = [.ref p, .int b, .int e] ∧ PrAt C H0 H p sA dP dB w s kp kb ∧ 2 ≤ w ∧ w ≤ 6 ∧ b < e ∧ e ≤ s.length ∧ s.length ≤ 12 ∧ e - b ≤ n ∧
  (∀ b' e', b' < e' → e' ≤ s.length → Good kp kb w s b' e') ∧ ∀ v H', Same H H' → Q v H'
def spNear (K : PySem.W.Frag) : Sp := fun vs H Q _ => ∃ (a : Addr) (w : Nat) (s : List Int), vs = [.ref a, .int w] ∧ SqL K H a (s.map V.int) ∧ 2 ≤ w ∧ w ≤ 6 ∧ 1 ≤ s.length ∧ s.length ≤ 12 ∧
  ∀ c v t H', FN.IsP w s c → Same H H' → H' t = some (.tup [.int c, v]) → Q (.ref t) H'
section
variable {P : Program} {w : World} {K : PySem.W.Frag} {mg : Str → Option Value} {base : Heap}
theorem scParts : FnScope ["self", "begin", "end", "parts", "cut", "found", "further"] ["self", "begin", "end"] (defScope sParts) := ⟨rfl, rfl, rfl, by decide +kernel, rfl, by decide +kernel, by decide +kernel⟩
theorem ok_parts {f fC C : Addr} {fd fdC : FuncData} (F : Fun K "parts_of" "Prices.parts_of" sParts f fd) (T : Txt K mg C) (FC : Fun K "cuts_of" "Prices.cuts_of" sCuts fC fdC) (bC : Binds K fdC ["self", "begin", "end", "parts"] []) (mC : Meth K C "cuts_of" fC) :
    FnOk P w K mg base CX0 2 f fd ["self", "begin", "end"] (spParts C) := by
  have GC : FnOk P w K mg base CX0 1 fC fdC ["self", "begin", "end", "parts"] (spCuts C) := ok_cuts FC T
  refine F.ok scParts (fun vs H Q E h => ?_) (fun cdv A outer s H vs Q E hr h => ?_)
  · obtain ⟨H0, p, sA, dP, dB, w, s, kp, kb, b, e, rfl, _⟩ := h
    rfl
  · obtain ⟨H0, p, sA, dP, dB, w, s, kp, kb, b, e, rfl, R, hw2, hw6, hbe, hes, hs12, hG, q⟩ := h
    have hu := hu_of hr
    have hu10 := hu10_of hr
    refine ⟨_, pss_cons (ps_set (i := 3) scParts.nd rfl (Or.inl rfl) (pe_op op_sub (pe_fld (pv 0) rfl) pe_int))
      (pss_cons (ps_set (i := 4) scParts.nd rfl (Or.inl rfl) (pe_ix ix_tup (pe_callB (cr_minP rfl hu10) (by rfl) T.min boot_min (pa_cons (pe_meth (pv 0) T.cl mC GC hr bC .nil pass0 (pa_cons (pv 1) (pa_cons (pv 2) (pa_cons (pv 3) pa_nil)))) pa_nil)) pe_int (fun _ _ => rfl)))
      (pss_cons (ps_set (i := 5) scParts.nd rfl (Or.inl rfl) (pe_lst (pa_cons (pe_tup (pa_cons (pv 1) (pa_cons (pv 4) pa_nil))) pa_nil)))
      (pss_cons (ps_while PassesOwn.never (pt_cmpR op_lt (pe_dget hu (pe_fld (pv 0) rfl) (pe_tup (pa_cons (pv 4) (pa_cons (pv 2) (pa_cons (pv 3) pa_nil)))) (fun _ _ => rfl))
            (pe_dget hu (pe_fld (pv 0) rfl) (pe_tup (pa_cons (pv 4) (pa_cons (pv 2) pa_nil))) (fun _ _ => rfl)) (nomark _))
          (pss_cons (ps_aug (i := 3) scParts.nd rfl (Or.inl rfl) pe_int ip_sub)
          (pss_cons (ps_set (i := 6) scParts.nd rfl (Or.inl rfl) (pe_ix ix_tup (pe_callB (cr_minP rfl hu10) (by rfl) T.min boot_min (pa_cons (pe_meth (pv 0) T.cl mC GC hr bC .nil pass0 (pa_cons (pv 4) (pa_cons (pv 2) (pa_cons (pv 3) pa_nil)))) pa_nil)) pe_int (fun _ _ => rfl)))
          (pss_cons (ps_expr (pe_bm PySem.F.plainAttrs_list PySem.F.slot_list_append PySem.F.type_list_append mt_append (pv 5) (pa_cons (pe_tup (pa_cons (pv 4) (pa_cons (pv 6) pa_nil))) pa_nil)))
          (pss_one (ps_set (i := 4) scParts.nd rfl (Or.inl rfl) (pv 6)))))))
      (pss_one (ps_ret (pe_op op_cat (pv 5) (pe_lst (pa_cons (pe_tup (pa_cons (pv 4) (pa_cons (pv 2) pa_nil))) pa_nil)))))))), ?_⟩
    obtain ⟨dx, ho⟩ := R.ob
    have gP : ∀ {i j : Nat}, i < j → j ≤ e → lk2 kp i j = some (.int (intOf (lk2 kp i j))) := fun {i j} h1 h2 => (hG i j h1 (by omega)).1.at_.1
    have gB : ∀ {i j k : Nat}, i < j → j ≤ e → 1 ≤ k → k ≤ w - 1 → lk3 kb i j k = some (.int (intOf (lk3 kb i j k))) := fun {i j k} h1 h2 h3 h4 => ((hG i j h1 (by omega)).2 k h3 h4).at_.1
    -- parts = self.own_ways - 1
    refine ⟨_, rfl, p, C, dx, _, _, rfl, ho, T.cl, T.nW, fl_ways _ _ _ _ _, _, _, rfl, rfl, ?_⟩
    -- cut = min(self.cuts_of(begin, end, parts))[1]
    refine ⟨_, rfl, p, dx, _, rfl, ho, fl_no _ _ _ _ _ (by decide +kernel) (by decide +kernel) (by decide +kernel) (by decide +kernel) (by decide +kernel), _, rfl, _, rfl, _, rfl, ?_⟩
    have ew : (w : Int) - 1 = ((w - 1 : Nat) : Int) := by omega
    refine ⟨H0, p, sA, dP, dB, w, s, kp, kb, b, e, w - 1, fun i => intOf (lk2 kp b i), fun i => intOf (lk3 kb i e (w - 1)), ?_, R, by omega, by omega, fun i h1 h2 => ⟨gP h1 (by omega), gB h2 (Nat.le_refl _) (by omega) (Nat.le_refl _)⟩, fun H1 r sm1 hcuts => ?_⟩
    · show [V.ref p, .int b, .int e, .int ((w : Int) - 1)] = _
      rw [ew]
    obtain ⟨xs, hxs, hlen, hpairs, hmin⟩ := hcuts.read
    refine ⟨r, xs, kOf H1, rfl, SqL.of hxs, (by intro z; rw [z] at hlen; simp at hlen; omega), hpairs, fun m hm hle => ?_⟩
    obtain ⟨ct, t, i1, i2, rfl, ht, _⟩ := hmin m hm hle
    refine ⟨t, _, _, _, rfl, rfl, SqT.of ht, atI_nat (j := 1) rfl, ?_⟩
    -- found = [(begin, cut)]
    refine ⟨_, rfl, _, rfl, (by show 2 ≤ sizeLine; decide), fun t1 ht1 => ⟨(by show 1 ≤ sizeLine; decide), fun fl hfl => ?_⟩⟩
    have sm2 := sm1.trans (same_new ht1 (.tup [.int b, .int (ct : Int)]))
    have sm3 := sm2.trans (same_new hfl (.lst [.ref t1]))
    have hfl0 : H fl = none := sm2.free hfl
    -- while
    refine ⟨fun m σ H' => ∃ (ct : Nat) (v6 : Option V) (xs : List V), σ = [some (.ref p), some (.int b), some (.int e), some (.int (m : Int)), some (.int (ct : Int)), some (.ref fl), v6] ∧ 1 ≤ m ∧ m ≤ w - 1 ∧ b < ct ∧ ct < e ∧ Same H H' ∧ H' fl = some (.lst xs) ∧ xs.length + m ≤ w ∧ PairsIn H' xs b e,
      ⟨w - 1, ct, none, [.ref t1], ?_, by omega, Nat.le_refl _, i1, i2, sm3, upd_same, by show 1 + (w - 1) ≤ w; omega, fun x hx => ?_⟩, fun m σ H4 hW => ?_⟩
    · show [some (V.ref p), some (.int b), some (.int e), some (.int ((w : Int) - 1)), some (.int (ct : Int)), some (.ref fl), none] = _
      rw [ew]
    · rw [List.mem_singleton.mp hx]
      refine ⟨t1, b, ct, rfl, ?_, Nat.le_refl _, i1, by omega, by omega⟩
      rw [upd_ne (ne_of_none upd_same hfl), upd_same]
    · obtain ⟨ct, v6, xs, rfl, m1, m2, c1, c2, sm4, hfl4, hxl, hpin⟩ := hW
      have R4 := R.same sm4
      obtain ⟨dx4, ho4⟩ := R4.ob
      refine ⟨_, rfl, p, C, dx4, _, _, rfl, ho4, T.cl, T.nB, fl_beside _ _ _ _ _, _, rfl, _, rfl, _, rfl, (by show 3 ≤ sizeLine; decide), fun t2 ht2 => ?_⟩
      have R5 := R4.same (same_new ht2 (.tup [.int (ct : Int), .int e, .int (m : Int)]))
      obtain ⟨dx5, ho5⟩ := R5.ob
      refine ⟨dB, .int (intOf (lk3 kb ct e m)), rfl, ?_, ?_⟩
      · rw [← gB c2 (Nat.le_refl _) m1 m2]
        exact DGet.t (k := [Sum.inl (ct : Int), Sum.inl (e : Int), Sum.inl (m : Int)]) R5.be upd_same
      refine ⟨_, rfl, p, C, dx5, _, _, rfl, ho5, T.cl, T.nP, fl_prices _ _ _ _ _, _, rfl, _, rfl, (by show 2 ≤ sizeLine; decide), fun t3 ht3 => ?_⟩
      have sm6 := (same_new ht2 (.tup [.int (ct : Int), .int e, .int (m : Int)])).trans (same_new ht3 (.tup [.int (ct : Int), .int e]))
      have R6 := R4.same sm6
      obtain ⟨dx6, ho6⟩ := R6.ob
      refine ⟨dP, .int (intOf (lk2 kp ct e)), rfl, ?_, ?_⟩
      · rw [← gP c2 (Nat.le_refl _)]
        exact DGet.t (k := [Sum.inl (ct : Int), Sum.inl (e : Int)]) R6.pr upd_same
      refine ⟨_, _, rfl, rfl, _, rfl, ?_⟩
      refine ite2 (fun c => ?_) (fun c => ?_)
      · have c' : intOf (lk3 kb ct e m) < intOf (lk2 kp ct e) := of_decide_eq_true c
        have gPm := (hG ct e c2 hes).1.at_.2
        have gBm := ((hG ct e c2 hes).2 m m1 m2).at_.2
        have hm1 : m ≠ 1 := fun z => by
          subst z
          have := isB_unique gBm (FN.IsB.one gPm)
          omega
        have hce : ct + 2 ≤ e := by
          rcases Nat.lt_or_ge e (ct + 2) with z | z
          · exfalso
            obtain rfl : e = ct + 1 := by omega
            obtain ⟨x, hx⟩ := seg_one (s := s) (b := ct) (by omega)
            rw [hx] at gPm gBm
            have u1 := gPm.unique (FN.IsP.leaf w x)
            have u2 := isB_single gBm
            omega
          · exact z
        refine ⟨fun σ' H' => ∃ m', m' < m ∧ ∃ (ct : Nat) (v6 : Option V) (xs : List V), σ' = [some (.ref p), some (.int b), some (.int e), some (.int (m' : Int)), some (.int (ct : Int)), some (.ref fl), v6] ∧ 1 ≤ m' ∧ m' ≤ w - 1 ∧ b < ct ∧ ct < e ∧ Same H H' ∧ H' fl = some (.lst xs) ∧ xs.length + m' ≤ w ∧ PairsIn H' xs b e, fun _ _ h => h, ?_⟩
        -- parts -= 1
        refine ⟨_, rfl, _, _, rfl, rfl, ?_⟩
        -- further
        have em : (m : Int) - 1 = ((m - 1 : Nat) : Int) := by omega
        refine ⟨_, rfl, p, dx6, _, rfl, ho6, fl_no _ _ _ _ _ (by decide +kernel) (by decide +kernel) (by decide +kernel) (by decide +kernel) (by decide +kernel), _, rfl, _, rfl, _, rfl, ?_⟩
        refine ⟨H0, p, sA, dP, dB, w, s, kp, kb, ct, e, m - 1, fun i => intOf (lk2 kp ct i), fun i => intOf (lk3 kb i e (m - 1)), ?_, R6, by omega, by omega, fun i h1 h2 => ⟨gP h1 (by omega), gB h2 (Nat.le_refl _) (by omega) (by omega)⟩, fun H7 r7 sm7 hcuts7 => ?_⟩
        · show [V.ref p, .int (ct : Int), .int e, .int ((m : Int) - 1)] = _
          rw [em]
        obtain ⟨xs7, hxs7, hlen7, hpairs7, hmin7⟩ := hcuts7.read
        refine ⟨r7, xs7, kOf H7, rfl, SqL.of hxs7, (by intro z; rw [z] at hlen7; simp at hlen7; omega), hpairs7, fun m7 hm7 hle7 => ?_⟩
        obtain ⟨ft, t7, j1, j2, rfl, ht7, _⟩ := hmin7 m7 hm7 hle7
        refine ⟨t7, _, _, _, rfl, rfl, SqT.of ht7, atI_nat (j := 1) rfl, ?_⟩
        -- found.append((cut, further))
        have sm8 := sm6.trans sm7
        have hfl8 := sm8 _ _ hfl4
        refine ⟨_, rfl, .inl ⟨rfl, _, SqL.of hfl8⟩, _, rfl, _, rfl, (by show 2 ≤ sizeLine; decide), fun t9 ht9 => ?_⟩
        have sm9 := sm8.trans (same_new ht9 (.tup [.int (ct : Int), .int (ft : Int)]))
        have hfl9 := sm9 _ _ hfl4
        have n9 : t9 ≠ fl := (ne_of_none hfl8 ht9).symm
        refine ⟨fl, xs, _, rfl, rfl, hfl9, small1000 (by omega), ?_⟩
        -- cut = further
        refine ⟨_, rfl, m - 1, by omega, ft, some (.int (ft : Int)), xs ++ [.ref t9], ?_, by omega, by omega, by omega, j2, fun b' o e' => ?_, upd_same, by rw [List.length_append, List.length_singleton]; omega, fun x hx => ?_⟩
        · show [some (V.ref p), some (.int b), some (.int e), some (.int ((m : Int) - 1)), some (.int (ft : Int)), some (.ref fl), some (.int (ft : Int))] = _
          rw [em]
        · rw [upd_ne (ne_of_none e' hfl0)]
          exact sm9 _ _ (sm4 _ _ e')
        · rcases List.mem_append.mp hx with z | z
          · obtain ⟨t, f, l, e1, e2, r⟩ := hpin x z
            refine ⟨t, f, l, e1, ?_, r⟩
            rw [upd_ne (ne_of e2 hfl4 (by intro z; cases z))]
            exact sm9 _ _ e2
          · rw [List.mem_singleton.mp z]
            refine ⟨t9, ct, ft, rfl, ?_, by omega, j1, by omega, by omega⟩
            rw [upd_ne n9, upd_same]
      · -- return found + [(cut, end)]
        have hfl6 := sm6 _ _ hfl4
        refine ⟨_, rfl, _, rfl, _, rfl, (by show 2 ≤ sizeLine; decide), fun t9 ht9 => ⟨(by show 1 ≤ sizeLine; decide), fun l9 hl9 => ?_⟩⟩
        have sm9 := sm6.trans (same_new ht9 (.tup [.int (ct : Int), .int e]))
        have sm10 := sm9.trans (same_new hl9 (.lst [.ref t9]))
        refine ⟨fl, l9, xs, [.ref t9], rfl, rfl, sm10 _ _ hfl4, upd_same, ?_, fun r hr' => ?_⟩
        · have := small1000 (n := xs.length + 1) (by omega)
          show xs.length + 1 ≤ sizeLine
          omega
        have sm11 := sm10.trans (same_new hr' (.lst (xs ++ [.ref t9])))
        refine q _ r _ (sm4.trans sm11) upd_same (by rw [List.length_append, List.length_singleton]; omega) fun x hx => ?_
        rcases List.mem_append.mp hx with z | z
        · obtain ⟨t, f, l, e1, e2, r⟩ := hpin x z
          exact ⟨t, f, l, e1, sm11 _ _ e2, r⟩
        · rw [List.mem_singleton.mp z]
          refine ⟨t9, ct, e, rfl, ?_, by omega, c2, Nat.le_refl _, by omega⟩
          exact (same_new hr' _) _ _ ((same_new hl9 _) _ _ upd_same)
end
end K71

/-! Prices.tree_of, near_plan -/
namespace K71
open PySem PySem.Spec PyProof.Rows L2 R1
section
variable {P : Program} {w : World} {K : PySem.W.Frag} {mg : Str → Option Value} {base : Heap}
theorem scTree : FnScope ["self", "begin", "end", "first", "last"] ["self", "begin", "end"] (defScope sTree) := ⟨rfl, rfl, rfl, by decide +kernel, rfl, by decide +kernel, by decide +kernel⟩
theorem ok_tree {n : Nat} {f fP C : Addr} {fd fdP : FuncData} (F : Fun K "tree_of" "Prices.tree_of" sTree f fd) (T : Txt K mg C) (GP : FnOk P w K mg base CX0 2 fP fdP ["self", "begin", "end"] (spParts C)) (bP : Binds K fdP ["self", "begin", "end"] []) (mP : Meth K C "parts_of" fP)
    (GT : FnOk P w K mg base CX0 (n + 2) f fd ["self", "begin", "end"] (spTree C n)) (bT : Binds K fd ["self", "begin", "end"] []) (mT : Meth K C "tree_of" f) :
    FnOk P w K mg base CX0 (n + 3) f fd ["self", "begin", "end"] (spTree C (n + 1)) := by
  refine F.ok scTree (fun vs H Q E h => ?_) (fun cdv A outer s H vs Q E hr h => ?_)
  · obtain ⟨H0, p, sA, dP, dB, w, s, kp, kb, b, e, rfl, _⟩ := h
    rfl
  · obtain ⟨H0, p, sA, dP, dB, w, s, kp, kb, b, e, rfl, R, hw2, hw6, hbe, hes, hs12, hbn, hG, q⟩ := h
    have hr2 : Room 2 _ := hr.mono (by omega)
    refine ⟨_, pss_cons (ps_if (pt_cmpR op_eq (pe_op op_sub (pv 2) (pv 1)) pe_int (nomark _)) (pss_one (ps_ret (pv 1))) pss_nil)
      (pss_one (ps_ret (pe_callTy call_tuple_of (by rfl) T.tuple (by decide +kernel) (pa_cons
        (pe_lc (own := [("first", 3), ("last", 4)]) (g := gP K 3 4) (tt := tYes) (te := tMeth C "tree_of" (spTree C n) [] E0 (tVar 0) (tCons (tVar 3) (tCons (tVar 4) tNil))) rfl scTree.nd
          (pi_list (pe_meth (pv 0) T.cl mP GP hr2 bP .nil pass0 (pa_cons (pv 1) (pa_cons (pv 2) pa_nil)))) (blkOk_by (N := ["self", "begin", "end", "first", "last"]) (sc := defScope sTree) (by decide +kernel))
          (fun _ _ _ _ _ => pg_pair (i := 3) (j := 4) rfl scTree.nd rfl rfl rfl rfl) (fun _ _ _ _ _ => pts_nil) (fun _ _ _ _ _ => pe_meth (pv 0) T.cl mT GT hr bT .nil pass0 (pa_cons (pv 3) (pa_cons (pv 4) pa_nil)))) pa_nil)))), ?_⟩
    obtain ⟨dx, ho⟩ := R.ob
    refine ⟨_, rfl, _, rfl, _, _, rfl, rfl, rfl, _, rfl, ?_⟩
    refine ite2 (fun c => ?_) (fun c => ?_)
    · exact ⟨_, rfl, q _ _ (Same.refl _)⟩
    · have c1 : ¬ V.int ((e : Int) - (b : Int)) = V.int 1 := of_decide_eq_false (Bool.eq_false_iff.mpr c)
      have c' : ¬ (e : Int) - (b : Int) = 1 := fun z => c1 (congrArg V.int z)
      refine ⟨_, rfl, p, dx, _, rfl, ho, fl_no _ _ _ _ _ (by decide +kernel) (by decide +kernel) (by decide +kernel) (by decide +kernel) (by decide +kernel), _, rfl, _, rfl, ?_⟩
      refine ⟨H0, p, sA, dP, dB, w, s, kp, kb, b, e, rfl, R, hw2, hw6, by omega, hes, hs12, hG, fun H1 r xs sm1 hxs hxl hpin => ?_⟩
      refine ⟨r, rfl, ⟨_, SqL.of hxs⟩, fun D hD => ?_⟩
      refine lc_list (K := K) (a := r) (xs := xs) (fun j H' => Same H1 H' ∧ ∃ acc, H' D = some (.lst acc) ∧ acc.length = j) ?_ (fun j H' _ hP => SqL.of (hP.1 _ _ hxs)) ?_ ?_
      · exact ⟨same_new hD _, [], upd_same, rfl⟩
      · rintro j x H2 hj ⟨s2, acc, hacc, hal⟩
        obtain ⟨t, fi, la, rfl, ht, h1, h2, h3, h4⟩ := hpin x (List.mem_of_getElem? hj)
        have R2 := R.same (sm1.trans s2)
        obtain ⟨dx2, ho2⟩ := R2.ob
        refine ⟨t, _, rfl, SqT.of (s2 _ _ ht), rfl, _, _, rfl, _, _, rfl, rfl, rfl, ?_⟩
        refine yes_then ?_
        refine ⟨_, rfl, p, dx2, _, rfl, ho2, fl_no _ _ _ _ _ (by decide +kernel) (by decide +kernel) (by decide +kernel) (by decide +kernel) (by decide +kernel), _, rfl, _, rfl, ?_⟩
        refine ⟨H0, p, sA, dP, dB, w, s, kp, kb, fi, la, rfl, R2, hw2, hw6, h2, by omega, hs12, by omega, hG, fun v H3 sm3 => ?_⟩
        have hacc3 := sm3 _ _ hacc
        refine ⟨acc, hacc3, ?_, fun b' o e' => ?_, _, upd_same, by rw [List.length_append, List.length_singleton, hal]⟩
        · have := (List.getElem?_eq_some_iff.mp hj).1
          exact small1000 (by omega)
        · rw [upd_ne (ne_of_none e' hD)]
          exact sm3 _ _ (s2 _ _ e')
      · rintro H2 ⟨s2, acc, hacc, hal⟩
        refine ⟨D, acc, rfl, .inl ⟨SqL.of hacc, fun l hl => ?_⟩⟩
        exact q _ _ ((sm1.trans s2).trans (same_new hl _))
theorem tree_none {f C : Addr} {fd : FuncData} : FnOk P w K mg base CX0 2 f fd ["self", "begin", "end"] (spTree C 0) := by
  have no : ∀ vs H Q E, ¬ spTree C 0 vs H Q E := fun vs H Q E h => by
    obtain ⟨H0, p, sA, dP, dB, w, s, kp, kb, b, e, _, _, _, _, h1, _, _, h2, _⟩ := h
    omega
  exact ⟨fun vs H Q E h => absurd h (no vs H Q E), fun A outer s H args us vs Q E _ _ _ _ h => absurd h (no vs H Q E)⟩
theorem ok_trees {f fP C : Addr} {fd fdP : FuncData} (F : Fun K "tree_of" "Prices.tree_of" sTree f fd) (T : Txt K mg C) (GP : FnOk P w K mg base CX0 2 fP fdP ["self", "begin", "end"] (spParts C)) (bP : Binds K fdP ["self", "begin", "end"] []) (mP : Meth K C "parts_of" fP)
    (bT : Binds K fd ["self", "begin", "end"] []) (mT : Meth K C "tree_of" f) : ∀ n, FnOk P w K mg base CX0 (n + 2) f fd ["self", "begin", "end"] (spTree C n)
  | 0 => tree_none
  | n + 1 => ok_tree F T GP bP mP (ok_trees F T GP bP mP bT mT n) bT mT
theorem scNear : FnScope ["sizes", "ways", "prices"] ["sizes", "ways"] (defScope sNear) := ⟨rfl, rfl, rfl, by decide +kernel, rfl, by decide +kernel, by decide +kernel⟩
theorem ok_near {f fI fR fT C : Addr} {fd fdI fdR fdT : FuncData} (F : Fun K "near_plan" "near_plan" sNear f fd) (T : Txt K mg C) (M : Mk K C fI) (GI : FnOk P w K mg base CX0 3 fI fdI ["self", "sizes", "ways"] (spInit K C)) (bI : Binds K fdI ["self", "sizes", "ways"] [])
    (GR : FnOk P w K mg base CX0 1 fR fdR ["self", "begin", "end"] (spPrice C)) (bR : Binds K fdR ["self", "begin", "end"] []) (mR : Meth K C "price_of" fR)
    (GT : FnOk P w K mg base CX0 14 fT fdT ["self", "begin", "end"] (spTree C 12)) (bT : Binds K fdT ["self", "begin", "end"] []) (mT : Meth K C "tree_of" fT) :
    FnOk P w K mg base CX0 15 f fd ["sizes", "ways"] (spNear K) := by
  refine F.ok scNear (fun vs H Q E h => ?_) (fun cdv A outer s H vs Q E hr h => ?_)
  · obtain ⟨a, w, s, rfl, _⟩ := h
    rfl
  · obtain ⟨a, w, s, rfl, hS, hw2, hw6, hn1, hn12, q⟩ := h
    have hr4 : Room 4 _ := hr.mono (by decide)
    have hr1 : Room 1 _ := hr.mono (by decide)
    refine ⟨_, pss_cons (ps_set (i := 2) scNear.nd rfl (Or.inl rfl) (pe_make M GI hr4 (by rfl) T.mgC bI .nil pass0 (pa_cons (pv 0) (pa_cons (pv 1) pa_nil))))
      (pss_one (ps_ret (pe_tup (pa_cons (pe_meth (pv 2) T.cl mR GR hr1 bR .nil pass0 (pa_cons pe_int (pa_cons (pe_callB call_len_seq (by rfl) T.len PySem.boot_len (pa_cons (pv 0) pa_nil)) pa_nil)))
        (pa_cons (pe_meth (pv 2) T.cl mT GT hr bT .nil pass0 (pa_cons pe_int (pa_cons (pe_callB call_len_seq (by rfl) T.len PySem.boot_len (pa_cons (pv 0) pa_nil)) pa_nil))) pa_nil))))), ?_⟩
    refine ⟨_, rfl, _, rfl, fun x dx nx ndx nex => ?_⟩
    have s0 : Same H (upd (upd H dx (.own x)) x (.ins C dx [])) := fun b o e => by
      rw [upd_ne (ne_of_none e nx), upd_ne (ne_of_none e ndx)]
      exact e
    refine ⟨H, x, a, dx, w, s, rfl, s0, nx, upd_same, hS, hw2, hw6, hn1, hn12, fun sA dP dB kp kb H1 R hG => ⟨rfl, ?_⟩⟩
    obtain ⟨dx1, ho⟩ := R.ob
    have g0 := (hG 0 s.length (by omega) (Nat.le_refl _)).1.at_
    rw [seg_whole] at g0
    refine ⟨_, rfl, x, dx1, _, rfl, ho, fl_no _ _ _ _ _ (by decide +kernel) (by decide +kernel) (by decide +kernel) (by decide +kernel) (by decide +kernel), _, rfl, a, _, rfl, .inl (R.old.seq hS), ?_⟩
    refine ⟨H, x, sA, dP, dB, w, s, kp, kb, 0, s.length, _, ?_, R, g0.1, fun H2 sm2 => ?_⟩
    · show [V.ref x, .int 0, .int (((s.map V.int).length : Nat) : Int)] = _
      rw [List.length_map]
      rfl
    have R2 := R.same sm2
    obtain ⟨dx2, ho2⟩ := R2.ob
    refine ⟨_, rfl, x, dx2, _, rfl, ho2, fl_no _ _ _ _ _ (by decide +kernel) (by decide +kernel) (by decide +kernel) (by decide +kernel) (by decide +kernel), _, rfl, a, _, rfl, .inl (R2.old.seq hS), ?_⟩
    refine ⟨H, x, sA, dP, dB, w, s, kp, kb, 0, s.length, ?_, R2, hw2, hw6, by omega, Nat.le_refl _, hn12, by omega, hG, fun v H3 sm3 => ?_⟩
    · show [V.ref x, .int 0, .int (((s.map V.int).length : Nat) : Int)] = _
      rw [List.length_map]
      rfl
    refine ⟨(by show 2 ≤ sizeLine; decide), fun t ht => ?_⟩
    exact q _ v t _ g0.2 ((R2.old.trans sm3).trans (same_new ht _)) upd_same
end
end K71

/-! free_plan -/
namespace K71
open PySem PySem.Spec PyProof.Rows L2 R1
/-- the names that the module does not hold -/
structure TxtN (mg : Str → Option Value) : Prop where
  len : mg "len" = none
  range : mg "range" = none
  min : mg "min" = none
  max : mg "max" = none
  tuple : mg "tuple" = none
  sum : mg "sum" = none
  sorted : mg "sorted" = none
  enumerate : mg "enumerate" = none
  any : mg "any" = none
  zip : mg "zip" = none
  abs : mg "abs" = none
  int : mg "int" = none
/-! ### triples -/
def k3 (H : Hp) : V → Int × Int
  | .ref t => match H t with
    | some (.tup [.int a, .int b, _]) => (a, b)
    | _ => (0, 0)
  | _ => (0, 0)
theorem k3_at {H : Hp} {t : Addr} {a b : Int} {z : V} (h : H t = some (.tup [.int a, .int b, z])) : k3 H (.ref t) = (a, b) := by
  unfold k3
  simp only [h]
/-- refs to triples whose first parts are l -/
def TripS (H : Hp) (xs : List V) (l : List Int) : Prop := (∀ x ∈ xs, ∃ t a b z, x = V.ref t ∧ H t = some (.tup [.int a, .int b, z])) ∧ xs.map (fun y => (k3 H y).1) = l
theorem TripS.trip {H : Hp} {xs : List V} {l : List Int} (h : TripS H xs l) : Trip H xs (k3 H) := fun y hy => by
  obtain ⟨t, a, b, z, rfl, ht⟩ := h.1 y hy
  rw [k3_at ht]
  exact ⟨t, z, rfl, ht⟩
theorem TripS.keep {H H' : Hp} {xs : List V} {l : List Int} (h : TripS H xs l) (k : ∀ t ys, H t = some (.tup ys) → H' t = some (.tup ys)) : TripS H' xs l := by
  refine ⟨fun x hx => ?_, ?_⟩
  · obtain ⟨t, a, b, z, e, ht⟩ := h.1 x hx
    exact ⟨t, a, b, z, e, k _ _ ht⟩
  · rw [← h.2]
    apply List.map_congr_left
    intro x hx
    obtain ⟨t, a, b, z, rfl, ht⟩ := h.1 x hx
    rw [k3_at ht, k3_at (k _ _ ht)]
theorem TripS.len {H : Hp} {xs : List V} {l : List Int} (h : TripS H xs l) : l.length = xs.length := by rw [← h.2, List.length_map]
theorem TripS.take {H : Hp} {xs : List V} {l : List Int} (h : TripS H xs l) (n : Nat) : TripS H (xs.take n) (l.take n) := ⟨fun x hx => h.1 x (List.mem_of_mem_take hx), by rw [← h.2, List.map_take]⟩
theorem TripS.drop {H : Hp} {xs : List V} {l : List Int} (h : TripS H xs l) (n : Nat) : TripS H (xs.drop n) (l.drop n) := ⟨fun x hx => h.1 x (List.mem_of_mem_drop hx), by rw [← h.2, List.map_drop]⟩
theorem TripS.snoc {H : Hp} {xs : List V} {l : List Int} {t : Addr} {a b : Int} {z : V} (h : TripS H xs l) (ht : H t = some (.tup [.int a, .int b, z])) : TripS H (xs ++ [.ref t]) (l ++ [a]) := by
  refine ⟨fun x hx => ?_, ?_⟩
  · rcases List.mem_append.mp hx with e | e
    · exact h.1 x e
    · rw [List.mem_singleton.mp e]
      exact ⟨t, a, b, z, rfl, ht⟩
  · rw [List.map_append, h.2]
    show l ++ [(k3 H (.ref t)).1] = l ++ [a]
    rw [k3_at ht]
theorem TripS.at_ {H : Hp} {xs : List V} {l : List Int} {i : Nat} {x : V} (h : TripS H xs l) (hx : xs[i]? = some x) : ∃ t a b z, x = V.ref t ∧ H t = some (.tup [.int a, .int b, z]) ∧ l[i]? = some a := by
  obtain ⟨t, a, b, z, rfl, ht⟩ := h.1 x (List.mem_of_getElem? hx)
  refine ⟨t, a, b, z, rfl, ht, ?_⟩
  rw [← h.2, List.getElem?_map, hx]
  show some (k3 H (.ref t)).1 = some a
  rw [k3_at ht]
theorem cut_lo (xs : List V) (n : Nat) : cutV xs none (some (n : Int)) = xs.take n := by
  unfold cutV
  rw [HT.sIx_none, HT.sIx_nat, List.drop_zero, Nat.sub_zero]
  by_cases c : n ≤ xs.length
  · rw [Nat.min_eq_left c]
  · rw [Nat.min_eq_right (by omega), List.take_of_length_le (Nat.le_refl _), List.take_of_length_le (by omega)]
theorem cut_hi (xs : List V) (n : Nat) : cutV xs (some (n : Int)) none = xs.drop n := by
  unfold cutV
  rw [HT.sIx_none, HT.sIx_nat]
  by_cases c : n ≤ xs.length
  · rw [Nat.min_eq_left c, List.take_of_length_le (by rw [List.length_drop]; omega)]
  · rw [Nat.min_eq_right (by omega), List.drop_eq_nil_of_le (Nat.le_refl _), List.drop_eq_nil_of_le (by omega), List.take_nil]
theorem same_ext {H H' : Hp} (h : Same H H') : LamX.ExtN H H' := LamX.ExtN.of h
theorem ext_tup {H H' : Hp} (e : LamX.ExtN H H') : ∀ t ys, H t = some (.tup ys) → H' t = some (.tup ys) := fun _ _ h => extN_tup e h
theorem same_tup {H H' : Hp} (e : Same H H') : ∀ t ys, H t = some (.tup ys) → H' t = some (.tup ys) := fun _ _ h => e _ _ h
def qLam : Str := (envOfC "free_plan" (defScope sFree) 0 0 .none).qual ++ "<lambda>"
/-- the ways of the first merge -/
def many0 (n w : Nat) : Nat := (2 + ((n : Int) - 2).fmod ((w : Int) - 1)).toNat
theorem many0_eq {n w : Nat} (hw : 2 ≤ w) : 2 ≤ many0 n w ∧ ((many0 n w : Nat) : Int) = 2 + ((n : Int) - 2).fmod ((w : Int) - 1) := by
  have h1 : ((n : Int) - 2).fmod ((w : Int) - 1) = ((n : Int) - 2) % ((w : Int) - 1) := Int.fmod_eq_emod_of_nonneg _ (by omega)
  have h2 := Int.emod_nonneg ((n : Int) - 2) (show (w : Int) - 1 ≠ 0 by omega)
  unfold many0
  rw [h1]
  omega
theorem many0_fit {n w : Nat} (hw : 2 ≤ w) (hn : 2 ≤ n) : many0 n w = 2 + (n - 2) % (w - 1) := by
  have h1 : ((n : Int) - 2).fmod ((w : Int) - 1) = ((n : Int) - 2) % ((w : Int) - 1) := Int.fmod_eq_emod_of_nonneg _ (by omega)
  have h2 : ((n : Int) - 2) % ((w : Int) - 1) = (((n - 2) % (w - 1) : Nat) : Int) := by
    rw [Int.natCast_emod]
    congr 1 <;> omega
  unfold many0
  rw [h1, h2]
  omega
def spFree (K : PySem.W.Frag) (P : Addr) : Sp := fun vs H Q _ => ∃ (a : Addr) (w : Nat) (s : List Int), vs = [.ref a, .int w] ∧ SqL K H a (s.map V.int) ∧ 2 ≤ w ∧ w ≤ 6 ∧ 1 ≤ s.length ∧ s.length ≤ 12 ∧ (∀ x ∈ s, 0 ≤ x) ∧ LamX.TabS H P qLam ∧
  ∀ c v t H', FN.IsMin w s c → LamX.ExtN H H' → LamX.TabS H' P qLam → H' t = some (.tup [.int c, v]) → Q (.ref t) H'
section
variable {P : Program} {w : World} {K : PySem.W.Frag} {mg : Str → Option Value} {base : Heap}
theorem fn_nox {k : Nat} {f : Addr} {name qual : Str} {params : Arguments} {body : List Stmt} {scope : Scope} {kV doc pm cdv ct oc : Value} {an od : Option Addr} {osl : Array (Option Value)} {N ps : List Str} {sp : Sp}
    (lk : K.lookup f = some ⟨oc, od, .func (PySem.W.fnOf name qual params body scope .none kV doc pm an cdv ct), osl⟩) (hcd : PySem.W.codeIn K cdv qual = true) (S : FnScope N ps scope) (len : ∀ vs H Q E, sp vs H Q E → vs.length = ps.length)
    (hbody : ∀ (A : Around) (outer : List Env) (s : Shared) (H : Hp) (vs : List V) (Q : VK) (E : XK), Room k (A.deeper (envOfC qual scope s.heap.objs.size f cdv)) → sp vs H Q E →
      ∃ t, PSs (cxOf CX0 P w K mg base N qual scope f cdv A outer s H E).nox body t ∧ t { nx := fun _ H' => Q .non H', rt := Q } (L2.start N vs) H) :
    FnOk P w K mg base CX0 (k + 1) f (PySem.W.fnOf name qual params body scope .none kV doc pm an cdv ct) ps sp := by
  refine fn_of lk hcd S len fun A outer s H vs Q E hr hsp => ?_
  obtain ⟨t, h, q⟩ := hbody A outer s H vs Q E hr hsp
  exact ⟨t, h.nox, q⟩
abbrev NFree : List Str := ["sizes", "ways", "there", "fresh", "cost", "many", "some", "size", "n", "one"]
theorem scFree : FnScope NFree ["sizes", "ways"] (defScope sFree) := ⟨rfl, rfl, rfl, by decide +kernel, rfl, by decide +kernel, by decide +kernel⟩
theorem ok_free {f c PT : Addr} {oc : Value} {od an : Option Addr} {osl : Array (Option Value)} {kV doc pm ct : Value} (lk : K.lookup f = some ⟨oc, od, .func (PySem.W.fnOf "free_plan" "free_plan" (defArgs sFree) (defBody sFree) (defScope sFree) .none kV doc pm an (.ref c) ct), osl⟩)
    (hcd : PySem.W.codeIn K (.ref c) "free_plan" = true) (TB : LamX.TabB base mg c PT) (T : TxtN mg) :
    FnOk P w K mg base CX0 2 f (PySem.W.fnOf "free_plan" "free_plan" (defArgs sFree) (defBody sFree) (defScope sFree) .none kV doc pm an (.ref c) ct) ["sizes", "ways"] (spFree K PT) := by
  refine fn_nox (N := NFree) lk hcd scFree (fun vs H Q E h => ?_) (fun A outer s H vs Q E hr h => ?_)
  · obtain ⟨a, w, s, rfl, _⟩ := h
    rfl
  · obtain ⟨a, w, s, rfl, hS, hw2, hw6, hn1, hn12, h0, hTab, q⟩ := h
    have hu := hu_of hr
    refine ⟨_, pss_cons (ps_setLc (i := 2) (own := [("n", 8), ("size", 7)]) (g := gP K 8 7) (tt := tYes) (te := tTup (tCons (tVar 7) (tCons (tVar 8) (tCons (tVar 8) tNil)))) rfl scFree.nd rfl rfl (sw_true rfl rfl rfl (by decide +kernel))
          (pi_enum (by rfl) T.enumerate (pa_cons (pv 0) pa_nil)) (blkOk_by (N := NFree) (sc := defScope sFree) (by decide +kernel)) (fun _ _ _ _ _ => pg_pair (i := 8) (j := 7) rfl scFree.nd rfl rfl rfl rfl) (fun _ _ _ _ _ => pts_nil)
          (fun _ _ _ _ _ => pe_tup (pa_cons (pv 7) (pa_cons (pv 8) (pa_cons (pv 8) pa_nil)))))
      (pss_cons (ps_set (i := 3) scFree.nd rfl (Or.inl rfl) (pe_callB call_len_seq (by rfl) T.len PySem.boot_len (pa_cons (pv 0) pa_nil)))
      (pss_cons (ps_set (i := 4) scFree.nd rfl (Or.inl rfl) pe_int)
      (pss_cons (ps_set (i := 5) scFree.nd rfl (Or.inl rfl) (pe_op op_add pe_int (pe_op op_modN (pe_op op_sub (pe_callB call_len_seq (by rfl) T.len PySem.boot_len (pa_cons (pv 0) pa_nil)) pe_int) (pe_op op_sub (pv 1) pe_int))))
      (pss_cons (ps_while PassesOwn.never (pt_cmpR op_gt (pe_callB call_len_seq (by rfl) T.len PySem.boot_len (pa_cons (pv 2) pa_nil)) pe_int (nomark _))
        (pss_cons (ps_set (i := 2) scFree.nd rfl (Or.inl rfl) (pe_sortL (pa_cons (pv 2) pa_nil) (by rfl) T.sorted TB rfl hr))
        (pss_cons (ps_set (i := 6) scFree.nd rfl (Or.inl rfl) (pe_slice sl_list (pv 2) po_none (po_some (pv 5))))
        (pss_cons (ps_set (i := 7) scFree.nd rfl (Or.inl rfl) (pe_callB (cr_sum rfl) (by rfl) T.sum (by decide +kernel) (pa_cons
            (pe_lc (own := [("one", 9)]) (g := gName 9) (tt := tYes) (te := tOp (rIxT K) (tVar 9) (tC (.int 0))) rfl scFree.nd (pi_list (pv 6)) (blkOk_by (N := NFree) (sc := defScope sFree) (by decide +kernel))
              (fun _ _ _ _ _ => pg_name (i := 9) scFree.nd rfl (Or.inl rfl)) (fun _ _ _ _ _ => pts_nil) (fun _ _ _ _ _ => pe_ix ix_tup (pv 9) pe_int (fun _ _ => rfl))) pa_nil)))
        (pss_cons (ps_set (i := 2) scFree.nd rfl (Or.inl rfl) (pe_op op_cat (pe_slice sl_list (pv 2) (po_some (pv 5)) po_none) (pe_lst (pa_cons (pe_tup (pa_cons (pv 7) (pa_cons (pv 3) (pa_cons
            (pe_callTy call_tuple_of (by rfl) T.tuple (by decide +kernel) (pa_cons
              (pe_lc (own := [("one", 9)]) (g := gName 9) (tt := tYes) (te := tOp (rIxT K) (tVar 9) (tC (.int 2))) rfl scFree.nd (pi_list (pv 6)) (blkOk_by (N := NFree) (sc := defScope sFree) (by decide +kernel))
                (fun _ _ _ _ _ => pg_name (i := 9) scFree.nd rfl (Or.inl rfl)) (fun _ _ _ _ _ => pts_nil) (fun _ _ _ _ _ => pe_ix ix_tup (pv 9) pe_int (fun _ _ => rfl))) pa_nil)) pa_nil)))) pa_nil))))
        (pss_cons (ps_aug (i := 4) scFree.nd rfl (Or.inl rfl) (pv 7) ip_add)
        (pss_cons (ps_aug (i := 3) scFree.nd rfl (Or.inl rfl) pe_int ip_add)
        (pss_one (ps_set (i := 5) scFree.nd rfl (Or.inl rfl) (pv 1))))))))))
      (pss_one (ps_ret (pe_tup (pa_cons (pv 4) (pa_cons (pe_ix ix_tup (pe_ix ix_list (pv 2) pe_int (fun _ _ => rfl)) pe_int (fun _ _ => rfl)) pa_nil))))))))), ?_⟩
    -- there = [(size, n, n) for n, size in enumerate(sizes)]
    refine ⟨_, rfl, a, s.map V.int, rfl, hS, fun D hD => ?_⟩
    refine lc_it (walk_enum (K := K) (a := a) (xs := s.map V.int)) (fun i H' => Same H H' ∧ ∃ acc, H' D = some (.lst acc) ∧ acc.length = i ∧ TripS H' acc (s.take i)) ?_ (fun i H' _ hP => hP.1.seq hS) ?_ ?_
    · exact ⟨same_new hD _, [], upd_same, rfl, fun x hx => (by simp at hx), rfl⟩
    · rintro i x H1 H' hi ⟨s1, acc, hacc, hal, htr⟩ ⟨T0, x0, y0, rfl, hT0, rfl, hx0, hy0⟩
      cases hx0
      have hy0 : (s.map V.int)[i]? = some y0 := hy0
      obtain ⟨z, hz, rfl⟩ : ∃ z, s[i]? = some z ∧ y0 = V.int z := by
        rw [List.getElem?_map] at hy0
        cases e : s[i]? with
        | none =>
          rw [e] at hy0
          cases hy0
        | some z =>
          rw [e] at hy0
          exact ⟨z, rfl, (Option.some.inj hy0).symm⟩
      refine ⟨T0, _, rfl, SqT.of upd_same, rfl, _, _, rfl, _, _, rfl, rfl, rfl, ?_⟩
      refine yes_then ?_
      refine ⟨_, rfl, _, rfl, _, rfl, (by show 3 ≤ sizeLine; decide), fun t ht => ?_⟩
      have s2 := (same_new hT0 (.tup [.int (i : Nat), .int z])).trans (same_new ht (.tup [.int z, .int (i : Nat), .int (i : Nat)]))
      refine ⟨acc, s2 _ _ hacc, by rw [hal]; exact small1000 (by rw [List.length_map] at hi; omega), fun b' o e' => ?_, acc ++ [.ref t], upd_same, by rw [List.length_append, List.length_singleton, hal], ?_⟩
      · rw [upd_ne (ne_of_none e' hD)]
        exact s2 _ _ (s1 _ _ e')
      · rw [List.take_add_one, hz]
        have kt : ∀ t' ys, H1 t' = some (.tup ys) → (upd (upd (upd H1 T0 (.tup [.int (i : Nat), .int z])) t (.tup [.int z, .int (i : Nat), .int (i : Nat)])) D (.lst (acc ++ [.ref t]))) t' = some (.tup ys) := fun t' ys e' => by
          rw [upd_ne (ne_of e' hacc (by intro z; cases z))]
          exact s2 _ _ e'
        refine (htr.keep kt).snoc (b := (i : Nat)) (z := .int (i : Nat)) ?_
        rw [upd_ne (fun e' => by rw [e'] at ht; rw [(same_new hT0 _) _ _ hacc] at ht; cases ht), upd_same]
    rintro H1 ⟨s1, acc, hacc, hal, htr⟩
    rw [List.length_map] at hal htr
    rw [List.take_of_length_le (Nat.le_refl _)] at htr
    -- fresh, cost, many
    refine ⟨_, rfl, a, _, rfl, .inl (s1.seq hS), ?_⟩
    rw [List.length_map]
    refine ⟨_, rfl, a, _, rfl, .inl (s1.seq hS), ?_⟩
    rw [List.length_map]
    refine ⟨_, _, rfl, rfl, _, rfl, _, _, rfl, rfl, _, _, rfl, rfl, (by show (w : Int) - 1 ≠ 0; omega), _, _, rfl, rfl, ?_⟩
    obtain ⟨hm2, hme⟩ := many0_eq (n := s.length) hw2
    -- while len(there) > 1
    refine ⟨fun m σ H' => ∃ (th : Addr) (xs : List V) (fr cst : Int) (mny : Nat) (v6 v7 : Option V) (l : List Int), σ = [some (.ref a), some (.int w), some (.ref th), some (.int fr), some (.int cst), some (.int (mny : Int)), v6, v7, none, none] ∧
        LamX.ExtN H H' ∧ LamX.TabS H' PT qLam ∧ H' th = some (.lst xs) ∧ xs.length = m ∧ 1 ≤ m ∧ m ≤ 12 ∧ TripS H' xs l ∧ 2 ≤ mny ∧ ∀ c', FN.Huff w mny l c' → FN.Huff w (many0 s.length w) s (cst + c'),
      ⟨s.length, D, acc, (s.length : Int), 0, many0 s.length w, none, none, s, ?_, same_ext s1, hTab.ext s1, hacc, hal, hn1, hn12, htr, hm2, fun c' hc => by rw [Int.zero_add]; exact hc⟩, fun m σ H2 hW => ?_⟩
    · rw [hme]
      rfl
    obtain ⟨th, xs, fr, cst, mny, v6, v7, l, rfl, ext2, tab2, hxs, hxl, hm1, hm12, htr2, hmny, hHuff⟩ := hW
    refine ⟨_, rfl, th, _, rfl, .inl (SqL.of hxs), _, _, rfl, rfl, _, rfl, ?_⟩
    refine ite2 (fun c => ?_) (fun c => ?_)
    · have c' : (xs.length : Int) > 1 := of_decide_eq_true c
      refine ⟨fun σ' H' => ∃ m', m' < m ∧ ∃ (th : Addr) (xs : List V) (fr cst : Int) (mny : Nat) (v6 v7 : Option V) (l : List Int), σ' = [some (.ref a), some (.int w), some (.ref th), some (.int fr), some (.int cst), some (.int (mny : Int)), v6, v7, none, none] ∧
        LamX.ExtN H H' ∧ LamX.TabS H' PT qLam ∧ H' th = some (.lst xs) ∧ xs.length = m' ∧ 1 ≤ m' ∧ m' ≤ 12 ∧ TripS H' xs l ∧ 2 ≤ mny ∧ ∀ c', FN.Huff w mny l c' → FN.Huff w (many0 s.length w) s (cst + c'), fun _ _ h => h, ?_⟩
      -- there = sorted(there, key=lambda one: one[:2])
      refine ⟨_, rfl, th, xs, k3 H2, rfl, SqL.of hxs, htr2.trip, tab2, fun ys sp H3 hperm hsort ext3 tab3 hys => ?_⟩
      have htr3 : TripS H3 ys (ys.map fun y => (k3 H3 y).1) := by
        refine ⟨fun x hx => ?_, rfl⟩
        obtain ⟨t, a', b', z, e, ht⟩ := htr2.1 x (hperm.mem_iff.mp hx)
        exact ⟨t, a', b', z, e, extN_tup ext3 ht⟩
      have hk3 : ys.map (fun y => (k3 H3 y).1) = ys.map fun y => (k3 H2 y).1 := by
        apply List.map_congr_left
        intro x hx
        obtain ⟨t, a', b', z, rfl, ht⟩ := htr2.1 x (hperm.mem_iff.mp hx)
        rw [k3_at ht, k3_at (extN_tup ext3 ht)]
      generalize hls : (ys.map fun y => (k3 H3 y).1) = ls at htr3 hk3
      have hlp : ls.Perm l := by
        rw [hk3, ← htr2.2]
        exact hperm.map _
      have hlsort : ls.Pairwise (· ≤ ·) := by
        rw [hk3, List.pairwise_map]
        exact hsort
      have hyl : ys.length = m := by rw [hperm.length_eq, hxl]
      -- some = there[:many]
      refine ⟨_, rfl, _, rfl, mny, rfl, sp, ys, rfl, SqL.of hys, fun p4 hp4 => ?_⟩
      have s4 := same_new hp4 (.lst (cutV ys none (some (mny : Int))))
      have htr4 := (htr3.take mny).keep (same_tup s4)
      have hp4' : (upd H3 p4 (.lst (cutV ys none (some (mny : Int))))) p4 = some (.lst (ys.take mny)) := by rw [upd_same, cut_lo]
      generalize upd H3 p4 (.lst (cutV ys none (some (mny : Int)))) = H4 at s4 htr4 hp4' ⊢
      have htl : (ys.take mny).length ≤ 12 := by rw [List.length_take]; omega
      -- size = sum([one[0] for one in some])
      refine ⟨_, rfl, p4, rfl, ⟨_, SqL.of hp4'⟩, fun D5 hD5 => ?_⟩
      refine lc_list (K := K) (a := p4) (xs := ys.take mny) (fun j H' => Same H4 H' ∧ H' D5 = some (.lst (((ls.take mny).take j).map V.int))) ?_ (fun j H' _ hP => SqL.of (hP.1 _ _ hp4')) ?_ ?_
      · exact ⟨same_new hD5 _, upd_same⟩
      · rintro j x H5 hj ⟨s5, h5⟩
        obtain ⟨t, a', b', z, rfl, ht, hla⟩ := htr4.at_ hj
        refine ⟨rfl, ?_⟩
        refine yes_then ?_
        refine ⟨_, rfl, t, _, _, _, rfl, rfl, SqT.of (s5 _ _ ht), atI_nat (j := 0) rfl, _, h5, ?_, fun b'' o e' => ?_, ?_⟩
        · rw [List.length_map, List.length_take]
          have := (List.getElem?_eq_some_iff.mp hj).1
          exact small1000 (by omega)
        · rw [upd_ne (ne_of_none e' hD5)]
          exact s5 _ _ e'
        · rw [upd_same, List.take_add_one, hla, List.map_append]
          rfl
      rintro H5 ⟨s5, h5⟩
      rw [List.take_of_length_le (by rw [htr4.len]; exact Nat.le_refl _)] at h5
      refine ⟨D5, _, rfl, SqL.of h5, ?_⟩
      have s45 := s4.trans s5
      have hys5 := s45 _ _ hys
      -- there[many:]
      refine ⟨_, rfl, _, rfl, mny, rfl, sp, ys, rfl, SqL.of hys5, fun p6 hp6 => ?_⟩
      have s6 := same_new hp6 (.lst (cutV ys (some (mny : Int)) none))
      have hp6' : (upd H5 p6 (.lst (cutV ys (some (mny : Int)) none))) p6 = some (.lst (ys.drop mny)) := by rw [upd_same, cut_hi]
      have s46 := s5.trans s6
      have htr6 := (htr3.drop mny).keep (same_tup (s45.trans s6))
      generalize upd H5 p6 (.lst (cutV ys (some (mny : Int)) none)) = H6 at s6 hp6' s46 htr6 ⊢
      -- the new triple
      refine ⟨_, rfl, _, rfl, _, rfl, p4, rfl, ⟨_, SqL.of (s46 _ _ hp4')⟩, fun D7 hD7 => ?_⟩
      refine lc_list (K := K) (a := p4) (xs := ys.take mny) (fun j H' => Same H6 H' ∧ ∃ acc, H' D7 = some (.lst acc) ∧ acc.length = j) ?_ (fun j H' _ hP => SqL.of (hP.1 _ _ (s46 _ _ hp4'))) ?_ ?_
      · exact ⟨same_new hD7 _, [], upd_same, rfl⟩
      · rintro j x H7 hj ⟨s7, acc7, h7, hl7⟩
        obtain ⟨t, a', b', z, rfl, ht, hla⟩ := htr4.at_ hj
        refine ⟨rfl, ?_⟩
        refine yes_then ?_
        refine ⟨_, rfl, t, _, _, _, rfl, rfl, SqT.of (s7 _ _ (s46 _ _ ht)), atI_nat (j := 2) rfl, _, h7, ?_, fun b'' o e' => ?_, _, upd_same, by rw [List.length_append, List.length_singleton, hl7]⟩
        · have := (List.getElem?_eq_some_iff.mp hj).1
          exact small1000 (by omega)
        · rw [upd_ne (ne_of_none e' hD7)]
          exact s7 _ _ e'
      rintro H7 ⟨s7, acc7, h7, hl7⟩
      refine ⟨D7, acc7, rfl, .inl ⟨SqL.of h7, fun tt htt => ⟨(by show 3 ≤ sizeLine; decide), fun t8 ht8 => ⟨(by show 1 ≤ sizeLine; decide), fun l8 hl8 => ?_⟩⟩⟩⟩
      have s8 := ((s7.trans (same_new htt (.tup acc7))).trans (same_new ht8 (.tup [.int (ls.take mny).sum, .int fr, .ref tt]))).trans (same_new hl8 (.lst [.ref t8]))
      have ht8' : (upd (upd (upd H7 tt (.tup acc7)) t8 (.tup [.int (ls.take mny).sum, .int fr, .ref tt])) l8 (.lst [.ref t8])) t8 = some (.tup [.int (ls.take mny).sum, .int fr, .ref tt]) := (same_new hl8 _) _ _ upd_same
      refine ⟨p6, l8, _, _, rfl, rfl, s8 _ _ hp6', upd_same, ?_, fun p9 hp9 => ?_⟩
      · rw [List.length_drop]
        have := small1000 (n := ys.length - mny + 1) (by omega)
        show ys.length - mny + 1 ≤ sizeLine
        omega
      have s9 := s8.trans (same_new hp9 (.lst (ys.drop mny ++ [.ref t8])))
      have s39 := (s45.trans s6).trans s9
      -- cost += size; fresh += 1; many = ways
      refine ⟨_, rfl, _, rfl, _, _, rfl, rfl, _, rfl, _, _, rfl, rfl, _, rfl, ?_⟩
      refine ⟨(ys.drop mny ++ [V.ref t8]).length, ?_, p9, _, _, _, w, _, _, ls.drop mny ++ [(ls.take mny).sum], rfl, (ext2.trans ext3).trans (same_ext s39), tab3.ext s39, upd_same, rfl, ?_, ?_, ?_, hw2, fun c' hc => ?_⟩
      · rw [List.length_append, List.length_drop, List.length_singleton]
        omega
      · rw [List.length_append, List.length_singleton]
        omega
      · rw [List.length_append, List.length_drop, List.length_singleton]
        omega
      · exact (htr6.keep (same_tup s9)).snoc ((same_new hp9 _) _ _ ht8')
      · have hstep := FN.Huff.step (m := mny) (l := l) (s := ls) (by rw [htr2.len]; omega) hlp hlsort hc
        have := hHuff _ hstep
        rw [show cst + (ls.take mny).sum + c' = cst + (c' + (ls.take mny).sum) by omega]
        exact this
    · have c' : ¬ (xs.length : Int) > 1 := of_decide_eq_false (Bool.eq_false_iff.mpr c)
      obtain ⟨x, rfl⟩ : ∃ x, xs = [x] := by
        match xs, hxl, c' with
        | [], h, _ => simp at h; omega
        | [x], _, _ => exact ⟨x, rfl⟩
        | _ :: _ :: _, _, h => simp at h; omega
      obtain ⟨t, a', b', z, rfl, ht⟩ := htr2.1 x List.mem_cons_self
      have hmin := hHuff 0 (FN.Huff.one (by rw [htr2.len]; exact Nat.le_refl _))
      rw [Int.add_zero] at hmin
      refine ⟨_, rfl, _, rfl, th, _, _, _, rfl, rfl, SqL.of hxs, atI_nat (j := 0) rfl, t, _, _, _, rfl, rfl, SqT.of ht, atI_nat (j := 2) rfl, (by show 2 ≤ sizeLine; decide), fun r hr' => ?_⟩
      have s9 := same_new hr' (.tup [.int cst, z])
      refine q cst z r _ ?_ (ext2.trans (same_ext s9)) (tab2.ext s9) upd_same
      refine hmin.isMin hw2 ?_ h0
      by_cases hn : 2 ≤ s.length
      · rw [many0_fit hw2 hn]
        exact .inr (FN.fit_first hw2 hn)
      · exact .inl (by omega)
end
end K71

/-! The law's own draws. -/
namespace K71
open PySem PySem.Spec PyProof.Rows L2 R1
/-- all but the object at p is as it was -/
def KeepBut (p : Addr) (H H' : Hp) : Prop := ∀ b o, b ≠ p → H b = some o → H' b = some o
theorem KeepBut.refl (p : Addr) (H : Hp) : KeepBut p H H := fun _ _ _ h => h
theorem KeepBut.trans {p : Addr} {H H1 H2 : Hp} (a : KeepBut p H H1) (b : KeepBut p H1 H2) : KeepBut p H H2 := fun c o hc h => b c o hc (a c o hc h)
theorem KeepBut.same {p : Addr} {H H1 : Hp} (a : Same H H1) : KeepBut p H H1 := fun c o _ h => a c o h
/-- the draws' list -/
def LeftAt (H : Hp) (p : Addr) (z : Nat) : Prop := ∃ x y : Int, 0 ≤ x ∧ H p = some (.lst [.int x, .int y, .int (z : Int)])
theorem LeftAt.same {H H' : Hp} {p : Addr} {z : Nat} (h : LeftAt H p z) (k : Same H H') : LeftAt H' p z := by
  obtain ⟨x, y, h1, h2⟩ := h
  exact ⟨x, y, h1, k _ _ h2⟩
def spMix : Sp := fun vs H Q _ => ∃ (c : Int) (k : Nat), vs = [.int c, .int (k : Int)] ∧ k ≤ 100000 ∧ ∀ r : Int, 0 ≤ r → Q (.int r) H
def spLeft (K : PySem.W.Frag) : Sp := fun vs H Q _ => ∃ (a : Addr) (ns : List Int) (k : Nat), vs = [.ref a, .int (k : Int)] ∧ SqL K H a (ns.map V.int) ∧ k ≤ 100 ∧ ∀ p H', H p = none → Same H H' → LeftAt H' p 0 → Q (.ref p) H'
def spPick : Sp := fun vs H Q _ => ∃ (p : Addr) (m : Int) (z : Nat), vs = [.ref p, .int m] ∧ LeftAt H p z ∧ z ≤ 10000 ∧ 1 ≤ m ∧ m < 1073741824 ∧ ∀ (r : Int) H', 0 ≤ r → r < m → KeepBut p H H' → LeftAt H' p (z + 1) → Q (.int r) H'
def spMany : Sp := fun vs H Q _ => ∃ (p : Addr) (z : Nat), vs = [.ref p] ∧ LeftAt H p z ∧ z ≤ 1000 ∧ ∀ (r : Int) H', r ≤ 12 → KeepBut p H H' → LeftAt H' p (z + 3) → Q (.int r) H'
def spSizes : Sp := fun vs H Q _ => ∃ (p : Addr), vs = [.ref p, .int 12] ∧ LeftAt H p 0 ∧ ∀ (r : Addr) (s : List Int) H', 1 ≤ s.length → s.length ≤ 12 → (∀ x ∈ s, 0 ≤ x) → H r = none → KeepBut p H H' → H' r = some (.lst (s.map V.int)) → Q (.ref r) H'
theorem fmod_range (a : Int) {b : Int} (hb : 0 < b) : 0 ≤ a.fmod b ∧ a.fmod b < b := by
  rw [Int.fmod_eq_emod_of_nonneg _ (by omega)]
  exact ⟨Int.emod_nonneg _ (by omega), Int.emod_lt_of_pos _ hb⟩
theorem fdiv_nonneg {a b : Int} (ha : 0 ≤ a) (hb : 0 < b) : 0 ≤ a.fdiv b := by
  rw [Int.fdiv_eq_ediv_of_nonneg _ (by omega)]
  exact Int.ediv_nonneg ha (by omega)
theorem b01 (k : Bool) : (-(2 ^ 64) < (if k = true then (1 : Int) else 0) ∧ (if k = true then (1 : Int) else 0) < 2 ^ 64) ∧ 0 ≤ (if k = true then (1 : Int) else 0) := by cases k <;> decide
section
variable {P : Program} {w : World} {K : PySem.W.Frag} {mg : Str → Option Value} {base : Heap}
theorem scMix : FnScope ["_law_cell", "_law_k", "_law_m"] ["_law_cell", "_law_k"] (defScope sMix) := ⟨rfl, rfl, rfl, by decide +kernel, rfl, by decide +kernel, by decide +kernel⟩
theorem ok_mix {f : Addr} {fd : FuncData} (F : Fun K "_law_mix" "_law_mix" sMix f fd) : FnOk P w K mg base CX0 1 f fd ["_law_cell", "_law_k"] spMix := by
  refine F.ok scMix (fun vs H Q E h => ?_) (fun cdv A outer s H vs Q E hr h => ?_)
  · obtain ⟨c, k, rfl, _⟩ := h
    rfl
  · obtain ⟨c, k, rfl, hk, q⟩ := h
    refine ⟨_, pss_cons (ps_set (i := 2) scMix.nd rfl (Or.inl rfl) (pe_op op_modN (pe_op op_mul (pe_op op_add (pe_op op_add (pe_op op_modN (pv 0) pe_int) (pe_op op_mul (pe_op op_mul (pv 1) (pv 1)) pe_int)) pe_int) pe_int) pe_int))
      (pss_one (ps_ret (pe_op op_modN (pe_op op_mul (pv 2) (pv 2)) pe_int))), ?_⟩
    refine ⟨_, rfl, _, _, rfl, rfl, (by show (2147483629 : Int) ≠ 0; decide), _, rfl, _, rfl, _, _, rfl, rfl, .inl ⟨by omega, by omega⟩, _, _, rfl, rfl, .inr ⟨by decide, by decide⟩, _, _, rfl, rfl, _, _, rfl, rfl, _, _, rfl, rfl, .inr ⟨by decide, by decide⟩, _, _, rfl, rfl, (by show (2147483647 : Int) ≠ 0; decide), ?_⟩
    generalize ((c.fmod 2147483629 + (k : Int) * (k : Int) * 7919 + 11) * 48271) = y
    have hy := fmod_range y (b := 2147483647) (by decide)
    refine ⟨_, rfl, _, rfl, _, _, rfl, rfl, .inl ⟨by omega, by omega⟩, _, _, rfl, rfl, (by show (1999999973 : Int) ≠ 0; decide), ?_⟩
    exact q _ (fmod_range _ (by decide)).1
theorem scLeft : FnScope ["_law_script", "_law_k", "_law_cell"] ["_law_script", "_law_k"] (defScope sLeft) := ⟨rfl, rfl, rfl, by decide +kernel, rfl, by decide +kernel, by decide +kernel⟩
theorem ok_left {f : Addr} {fd : FuncData} (F : Fun K "_law_left" "_law_left" sLeft f fd) (T : TxtN mg) : FnOk P w K mg base CX0 1 f fd ["_law_script", "_law_k"] (spLeft K) := by
  refine F.ok scLeft (fun vs H Q E h => ?_) (fun cdv A outer s H vs Q E hr h => ?_)
  · obtain ⟨a, ns, k, rfl, _⟩ := h
    rfl
  · obtain ⟨a, ns, k, rfl, hS, hk, q⟩ := h
    refine ⟨_, C8.pss_cut (ps_set (i := 2) scLeft.nd rfl (Or.inl rfl) (pe_ifExp (pt_cmpR op_lt (pv 1) (pe_callB call_len_seq (by rfl) T.len PySem.boot_len (pa_cons (pv 0) pa_nil)) (nomark _)) (pe_ix ix_list (pv 0) (pv 1) (fun _ _ => rfl)) pe_int))
      (pss_one (ps_ret (pe_lst (pa_cons (pe_op op_mul (pe_callB call_abs (by rfl) T.abs (by decide +kernel) (pa_cons (pv 2) pa_nil))
          (pe_callTy call_int1 (by rfl) T.int (by decide +kernel) (pa_cons (pe_cmpR op_ge (pe_callB call_abs (by rfl) T.abs (by decide +kernel) (pa_cons (pv 2) pa_nil)) (pe_op op_pow pe_int pe_int) (nomark _)) pa_nil)))
        (pa_cons (pe_op op_add (pv 2) (pe_op op_mul pe_int (pv 1))) (pa_cons pe_int pa_nil)))))), ?_⟩
    refine ⟨fun σ H' => ∃ cell : Int, σ = [some (.ref a), some (.int (k : Int)), some (.int cell)] ∧ H' = H, ?_, ?_⟩
    · refine ⟨_, rfl, _, rfl, a, _, rfl, .inl hS, _, _, rfl, rfl, _, rfl, ?_⟩
      refine ite2 (fun c => ?_) (fun c => ?_)
      · have c' : (k : Int) < (((ns.map V.int).length : Nat) : Int) := of_decide_eq_true c
        rw [List.length_map] at c'
        have hk' : k < ns.length := by omega
        have g : (ns.map V.int)[k]? = some (.int ns[k]) := by rw [List.getElem?_map, List.getElem?_eq_getElem hk']; rfl
        exact ⟨_, rfl, _, rfl, a, _, _, _, rfl, rfl, hS, atI_nat g, _, rfl, rfl⟩
      · exact ⟨0, rfl, rfl⟩
    · rintro σ H1 ⟨cell, rfl, rfl⟩
      refine ⟨_, rfl, _, rfl, _, rfl, _, rfl, _, _, rfl, rfl, ⟨by decide, by decide, by decide⟩, _, _, rfl, rfl, .inr ⟨_, rfl, _, _, rfl, rfl, .inr (b01 _).1, ?_⟩⟩
      refine ⟨_, rfl, _, rfl, _, _, rfl, rfl, .inl ⟨by decide, by decide⟩, _, _, rfl, rfl, (by show 3 ≤ sizeLine; decide), fun p hp => ?_⟩
      refine q p _ hp (same_new hp _) ⟨_, _, ?_, upd_same⟩
      refine Int.mul_nonneg ?_ ?_
      · split <;> omega
      · exact (b01 _).2
end
end K71

/-! The law's own draws: pick, many, sizes. -/
namespace K71
open PySem PySem.Spec PyProof.Rows L2 R1
section
variable {P : Program} {w : World} {K : PySem.W.Frag} {mg : Str → Option Value} {base : Heap}
theorem keep_upd {p : Addr} {H : Hp} (o : HO) : KeepBut p H (upd H p o) := fun b u hb e => by rw [upd_ne hb]; exact e
theorem ixN3_0 : ixN 3 0 = some 0 := rfl
theorem scPick : FnScope ["_law_left_here", "_law_many_here", "_law_digit"] ["_law_left_here", "_law_many_here"] (defScope sPick) := ⟨rfl, rfl, rfl, by decide +kernel, rfl, by decide +kernel, by decide +kernel⟩
theorem ok_pick {f fM : Addr} {fd fdM : FuncData} (F : Fun K "_law_pick" "_law_pick" sPick f fd) (FM : Fun K "_law_mix" "_law_mix" sMix fM fdM) (bM : Binds K fdM ["_law_cell", "_law_k"] []) (gM : mg "_law_mix" = some (.ref fM)) :
    FnOk P w K mg base CX0 2 f fd ["_law_left_here", "_law_many_here"] spPick := by
  have GM : FnOk P w K mg base CX0 1 fM fdM ["_law_cell", "_law_k"] spMix := ok_mix FM
  refine F.ok scPick (fun vs H Q E h => ?_) (fun cdv A outer s H vs Q E hr h => ?_)
  · obtain ⟨p, m, z, rfl, _⟩ := h
    rfl
  · obtain ⟨p, m, z, rfl, ⟨x, y, hx, hp⟩, hz, hm1, hm2, q⟩ := h
    refine ⟨_, pss_cons (ps_asg (pe_op op_add (pe_ix ix_list (pv 0) pe_int (fun _ _ => rfl)) pe_int) (pg_sub (pv 0) pe_int set_list))
      (pss_cons (ps_if (pt_cmpR op_gt (pe_ix ix_list (pv 0) pe_int (fun _ _ => rfl)) pe_int (nomark _))
        (pss_cons (ps_set (i := 2) scPick.nd rfl (Or.inl rfl) (pe_op op_modN (pe_ix ix_list (pv 0) pe_int (fun _ _ => rfl)) (pv 1)))
        (pss_cons (ps_asg (pe_op op_fdivN (pe_ix ix_list (pv 0) pe_int (fun _ _ => rfl)) (pv 1)) (pg_sub (pv 0) pe_int set_list))
        (pss_one (ps_ret (pv 2))))) pss_nil)
      (pss_one (ps_ret (pe_op op_modN (pe_op op_fdivN (pe_call GM hr rfl gM FM.kp bM .nil pass0 (pa_cons
          (pe_call GM hr rfl gM FM.kp bM .nil pass0 (pa_cons (pe_ix ix_list (pv 0) pe_int (fun _ _ => rfl)) (pa_cons (pe_ix ix_list (pv 0) pe_int (fun _ _ => rfl)) pa_nil)))
          (pa_cons (pe_op op_add (pe_ix ix_list (pv 0) pe_int (fun _ _ => rfl)) pe_int) pa_nil))) pe_int) (pv 1))))), ?_⟩
    -- left[2] = left[2] + 1
    refine ⟨_, rfl, p, _, _, _, rfl, rfl, SqL.of hp, atI_nat (j := 2) rfl, _, _, rfl, rfl, _, rfl, p, _, _, 2, rfl, rfl, hp, rfl, ?_⟩
    have ez : ((z + 1 : Nat) : Int) = (z : Int) + 1 := by omega
    refine ⟨_, rfl, p, _, _, _, rfl, rfl, SqL.of upd_same, atI_nat (j := 0) rfl, _, _, rfl, rfl, _, rfl, ?_⟩
    refine ite2 (fun c => ?_) (fun c => ?_)
    · have c' : x > 0 := of_decide_eq_true c
      have hr' := fmod_range x (b := m) (by omega)
      refine ⟨_, rfl, p, _, _, _, rfl, rfl, SqL.of upd_same, atI_nat (j := 0) rfl, _, rfl, _, _, rfl, rfl, (by show m ≠ 0; omega), ?_⟩
      refine ⟨_, rfl, p, _, _, _, rfl, rfl, SqL.of upd_same, atI_nat (j := 0) rfl, _, rfl, _, _, rfl, rfl, ⟨by show m ≠ 0; omega, by show m.natAbs < 1073741824; omega⟩, _, rfl, p, _, _, 0, rfl, rfl, upd_same, rfl, ?_⟩
      refine ⟨_, rfl, q (x.fmod m) _ hr'.1 hr'.2 ((keep_upd _).trans (keep_upd _)) ⟨x.fdiv m, y, fdiv_nonneg hx (by omega), ?_⟩⟩
      rw [ez]
      exact upd_same
    · refine ⟨_, rfl, p, _, _, _, rfl, rfl, SqL.of upd_same, atI_nat (j := 1) rfl, _, rfl, p, _, _, _, rfl, rfl, SqL.of upd_same, atI_nat (j := 2) rfl, ?_⟩
      refine ⟨y, z + 1, ?_, by omega, fun r1 hr1 => ?_⟩
      · rw [ez]
        rfl
      refine ⟨_, rfl, p, _, _, _, rfl, rfl, SqL.of upd_same, atI_nat (j := 2) rfl, _, _, rfl, rfl, ?_⟩
      refine ⟨r1, z + 1 + 64, ?_, by omega, fun r2 hr2 => ?_⟩
      · rw [show ((z + 1 + 64 : Nat) : Int) = (z : Int) + 1 + 64 by omega]
        rfl
      refine ⟨_, _, rfl, rfl, ⟨by decide, by decide⟩, _, rfl, _, _, rfl, rfl, (by show m ≠ 0; omega), ?_⟩
      have hr' := fmod_range (r2.fdiv 64) (b := m) (by omega)
      refine q _ _ hr'.1 hr'.2 (keep_upd _) ⟨x, y, hx, ?_⟩
      rw [ez]
      exact upd_same
theorem at8 {r2 r3 : Int} (h2 : r2 < 2) (h3 : r3 < 6) : ∀ n : Nat, n < 8 → ∃ v : Int, ([V.int 2, .int 3, .int 4, .int 5, .int 6, .int 3, .int r2, .int (7 + r3)] : List V)[n]? = some (.int v) ∧ v ≤ 12
  | 0, _ => ⟨2, rfl, by decide⟩
  | 1, _ => ⟨3, rfl, by decide⟩
  | 2, _ => ⟨4, rfl, by decide⟩
  | 3, _ => ⟨5, rfl, by decide⟩
  | 4, _ => ⟨6, rfl, by decide⟩
  | 5, _ => ⟨3, rfl, by decide⟩
  | 6, _ => ⟨r2, rfl, by omega⟩
  | 7, _ => ⟨7 + r3, rfl, by omega⟩
  | n + 8, h => by omega
theorem at6 {r1 r2 r3 r4 r5 k : Int} (h1 : 0 ≤ r1) (h2 : 0 ≤ r2) (h3 : 0 ≤ r3) (hk : 0 ≤ k) (h4 : r4 < 50) (h5 : 0 ≤ r5) : ∀ n : Nat, n < 6 → ∃ v : Int, ([V.int r1, .int (r2 * r3), .int 5, .int (1 + k * k)] ++ [V.int (10 ^ Int.toNat 9 - r4), .int r5] : List V)[n]? = some (.int v) ∧ 0 ≤ v
  | 0, _ => ⟨r1, rfl, h1⟩
  | 1, _ => ⟨r2 * r3, rfl, Int.mul_nonneg h2 h3⟩
  | 2, _ => ⟨5, rfl, by decide⟩
  | 3, _ => ⟨1 + k * k, rfl, by have := Int.mul_nonneg hk hk; omega⟩
  | 4, _ => ⟨10 ^ Int.toNat 9 - r4, rfl, by
    have : (10 : Int) ^ Int.toNat 9 = 1000000000 := by decide
    omega⟩
  | 5, _ => ⟨r5, rfl, h5⟩
  | n + 6, h => by omega
theorem scMany : FnScope ["_law_left_here", "_law_way"] ["_law_left_here"] (defScope sMany) := ⟨rfl, rfl, rfl, by decide +kernel, rfl, by decide +kernel, by decide +kernel⟩
theorem ok_many {f fP : Addr} {fd fdP : FuncData} (F : Fun K "_law_many" "_law_many" sMany f fd) (GP : FnOk P w K mg base CX0 2 fP fdP ["_law_left_here", "_law_many_here"] spPick) (kP : PySem.W.keepIn K (.ref fP) = true) (bP : Binds K fdP ["_law_left_here", "_law_many_here"] []) (gP : mg "_law_pick" = some (.ref fP)) :
    FnOk P w K mg base CX0 3 f fd ["_law_left_here"] spMany := by
  refine F.ok scMany (fun vs H Q E h => ?_) (fun cdv A outer s H vs Q E hr h => ?_)
  · obtain ⟨p, z, rfl, _⟩ := h
    rfl
  · obtain ⟨p, z, rfl, L0, hz, q⟩ := h
    refine ⟨_, pss_cons (ps_set (i := 1) scMany.nd rfl (Or.inl rfl) (pe_call GP hr rfl gP kP bP .nil pass0 (pa_cons (pv 0) (pa_cons pe_int pa_nil))))
      (pss_one (ps_ret (pe_ix ix_list (pe_lst (pa_cons pe_int (pa_cons pe_int (pa_cons pe_int (pa_cons pe_int (pa_cons pe_int (pa_cons pe_int
        (pa_cons (pe_call GP hr rfl gP kP bP .nil pass0 (pa_cons (pv 0) (pa_cons pe_int pa_nil)))
        (pa_cons (pe_op op_add pe_int (pe_call GP hr rfl gP kP bP .nil pass0 (pa_cons (pv 0) (pa_cons pe_int pa_nil)))) pa_nil))))))))) (pv 1) (fun _ _ => rfl)))), ?_⟩
    refine ⟨_, rfl, p, 8, z, rfl, L0, by omega, by decide, by decide, fun r1 H1 a1 b1 k1 L1 => ?_⟩
    refine ⟨_, rfl, p, 2, z + 1, rfl, L1, by omega, by decide, by decide, fun r2 H2 a2 b2 k2 L2 => ?_⟩
    refine ⟨_, rfl, p, 6, z + 2, rfl, L2, by omega, by decide, by decide, fun r3 H3 a3 b3 k3 L3 => ?_⟩
    refine ⟨_, _, rfl, rfl, (by show 8 ≤ sizeLine; decide), fun l hl => ?_⟩
    obtain ⟨n, rfl⟩ : ∃ n : Nat, r1 = (n : Int) := ⟨r1.toNat, by omega⟩
    obtain ⟨v, hv, hv12⟩ := at8 b2 b3 n (by omega)
    refine ⟨_, rfl, l, _, _, _, rfl, rfl, SqL.of upd_same, atI_nat hv, ?_⟩
    have s4 := same_new hl (.lst [V.int 2, .int 3, .int 4, .int 5, .int 6, .int 3, .int r2, .int (7 + r3)])
    exact q v _ hv12 (((k1.trans k2).trans k3).trans (KeepBut.same s4)) (L3.same s4)
theorem scSizes : FnScope ["_law_left_here", "_law_most", "_law_many_here", "_law_way", "_law_found", "_law_k", "_law_some"] ["_law_left_here", "_law_most"] (defScope sSizes) := ⟨rfl, rfl, rfl, by decide +kernel, rfl, by decide +kernel, by decide +kernel⟩
theorem ok_sizes {f fP fM : Addr} {fd fdP fdM : FuncData} (F : Fun K "_law_sizes" "_law_sizes" sSizes f fd) (T : TxtN mg) (GP : FnOk P w K mg base CX0 2 fP fdP ["_law_left_here", "_law_many_here"] spPick) (kP : PySem.W.keepIn K (.ref fP) = true) (bP : Binds K fdP ["_law_left_here", "_law_many_here"] []) (gP : mg "_law_pick" = some (.ref fP))
    (GM : FnOk P w K mg base CX0 3 fM fdM ["_law_left_here"] spMany) (kM : PySem.W.keepIn K (.ref fM) = true) (bM : Binds K fdM ["_law_left_here"] []) (gM : mg "_law_many" = some (.ref fM)) :
    FnOk P w K mg base CX0 4 f fd ["_law_left_here", "_law_most"] spSizes := by
  refine F.ok scSizes (fun vs H Q E h => ?_) (fun cdv A outer s H vs Q E hr h => ?_)
  · obtain ⟨p, rfl, _⟩ := h
    rfl
  · obtain ⟨p, rfl, L0, q⟩ := h
    have hr2 : Room 2 _ := hr.mono (by decide)
    refine ⟨_, pss_cons (ps_set (i := 2) scSizes.nd rfl (Or.inl rfl) (pe_callB (call_max2 rfl) (by rfl) T.max (by decide +kernel) (pa_cons pe_int (pa_cons (pe_callB (call_min2 rfl) (by rfl) T.min boot_min (pa_cons (pv 1) (pa_cons (pe_call GM hr rfl gM kM bM .nil pass0 (pa_cons (pv 0) pa_nil)) pa_nil))) pa_nil))))
      (pss_cons (ps_set (i := 3) scSizes.nd rfl (Or.inl rfl) (pe_call GP hr2 rfl gP kP bP .nil pass0 (pa_cons (pv 0) (pa_cons pe_int pa_nil))))
      (pss_cons (ps_set (i := 4) scSizes.nd rfl (Or.inl rfl) (pe_lst pa_nil))
      (pss_cons (ps_for PassesOwn.never rfl (pi_range1 (by rfl) T.range (pa_cons (pv 2) pa_nil)) (pg_name (i := 5) scSizes.nd rfl (Or.inl rfl))
        (pss_cons (ps_set (i := 6) scSizes.nd rfl (Or.inl rfl) (pe_lst (pa_cons (pe_call GP hr2 rfl gP kP bP .nil pass0 (pa_cons (pv 0) (pa_cons pe_int pa_nil)))
            (pa_cons (pe_op op_mul (pe_call GP hr2 rfl gP kP bP .nil pass0 (pa_cons (pv 0) (pa_cons pe_int pa_nil))) (pe_call GP hr2 rfl gP kP bP .nil pass0 (pa_cons (pv 0) (pa_cons pe_int pa_nil))))
            (pa_cons pe_int (pa_cons (pe_op op_add pe_int (pe_op op_mul (pv 5) (pv 5))) pa_nil))))))
        (pss_one (ps_expr (pe_bm PySem.F.plainAttrs_list PySem.F.slot_list_append PySem.F.type_list_append mt_append (pv 4) (pa_cons (pe_ix ix_list (pe_op op_cat (pv 6)
            (pe_lst (pa_cons (pe_op op_sub (pe_op op_pow pe_int pe_int) (pe_call GP hr2 rfl gP kP bP .nil pass0 (pa_cons (pv 0) (pa_cons pe_int pa_nil))))
              (pa_cons (pe_call GP hr2 rfl gP kP bP .nil pass0 (pa_cons (pv 0) (pa_cons (pe_op op_add (pe_op op_pow pe_int pe_int) pe_int) pa_nil))) pa_nil)))) (pv 3) (fun _ _ => rfl)) pa_nil))))))
      (pss_one (ps_ret (pv 4)))))), ?_⟩
    refine ⟨_, rfl, _, rfl, p, 0, rfl, L0, by decide, fun r0 H1 b0 k1 L1 => ⟨_, _, rfl, _, _, rfl, ?_⟩⟩
    generalize hM : (if (if r0 < 12 then r0 else 12) > 1 then (if r0 < 12 then r0 else 12) else 1) = M
    have hM1 : 1 ≤ M ∧ M ≤ 12 := by
      rw [← hM]
      split
      · split at * <;> omega
      · omega
    refine ⟨_, rfl, p, 6, 3, rfl, L1, by decide, by decide, by decide, fun way H2 a2 b2 k2 L2 => ?_⟩
    refine ⟨Nat.zero_le _, fun fo hfo => ?_⟩
    have s3 := same_new hfo (.lst [])
    have k3 := (k1.trans k2).trans (KeepBut.same (p := p) s3)
    have hfo0 : ∀ b o, b ≠ p → H b = some o → b ≠ fo := fun b o hb e => ne_of_none ((k1.trans k2) b o hb e) hfo
    have hfp : fo ≠ p := by
      obtain ⟨x, y, _, e⟩ := L2
      exact (ne_of_none e hfo).symm
    have hfoH : H fo = none := by
      cases e : H fo with
      | none => rfl
      | some o => exact absurd rfl (hfo0 fo o hfp e)
    obtain ⟨n, rfl⟩ : ∃ n : Nat, way = (n : Int) := ⟨way.toNat, by omega⟩
    refine ⟨_, rfl, M, rfl, by omega, by omega, ?_⟩
    refine for_range (lo := 0) (n := M.toNat) (fun i σ H' => ∃ (v5 v6 : Option V) (s : List Int), σ = [some (.ref p), some (.int 12), some (.int M), some (.int (n : Int)), some (.ref fo), v5, v6] ∧ KeepBut p H H' ∧ LeftAt H' p (4 + 5 * i) ∧ H' fo = some (.lst (s.map V.int)) ∧ s.length = i ∧ ∀ x ∈ s, 0 ≤ x) ?_ ?_ ?_
    · exact ⟨none, none, [], rfl, k3, L2.same s3, upd_same, rfl, fun x hx => (by simp at hx)⟩
    · rintro i σ H4 hi ⟨v5, v6, s, rfl, k4, L4, h4, hsl, hs0⟩
      have hi12 : i < 12 := by omega
      refine ⟨_, rfl, p, 10, _, rfl, L4, by omega, by decide, by decide, fun r1 H5 a5 b5 k5 L5 => ?_⟩
      refine ⟨_, rfl, p, 2, _, rfl, L5, by omega, by decide, by decide, fun r2 H6 a6 b6 k6 L6 => ?_⟩
      refine ⟨_, rfl, p, 100, _, rfl, L6, by omega, by decide, by decide, fun r3 H7 a7 b7 k7 L7 => ?_⟩
      refine ⟨_, _, rfl, rfl, .inl ⟨by omega, by omega⟩, _, rfl, _, rfl, _, _, rfl, rfl, .inl ⟨by omega, by omega⟩, _, _, rfl, rfl, (by show 4 ≤ sizeLine; decide), fun l8 hl8 => ?_⟩
      have h7 := ((k5.trans k6).trans k7) _ _ hfp h4
      have s8 := same_new hl8 (.lst [V.int r1, .int (r2 * r3), .int 5, .int (1 + (0 + (i : Int)) * (0 + (i : Int)))])
      have h8 := s8 _ _ h7
      have hl8p : l8 ≠ p := by
        obtain ⟨x, y, _, e⟩ := L7
        exact (ne_of_none e hl8).symm
      refine ⟨_, rfl, .inl ⟨rfl, _, SqL.of h8⟩, _, rfl, _, _, rfl, rfl, ⟨by decide, by decide, by decide⟩, _, rfl, p, 50, _, rfl, L7.same s8, by omega, by decide, by decide, fun r4 H9 a9 b9 k9 L9 => ?_⟩
      refine ⟨_, _, rfl, rfl, _, rfl, _, _, rfl, rfl, ⟨by decide, by decide, by decide⟩, _, _, rfl, rfl, p, 10 ^ Int.toNat 9 + 1, _, rfl, L9, by omega, by decide, by decide, fun r5 H10 a10 b10 k10 L10 => ?_⟩
      refine ⟨(by show 2 ≤ sizeLine; decide), fun l11 hl11 => ?_⟩
      have s11 := same_new hl11 (.lst [V.int (10 ^ Int.toNat 9 - r4), .int r5])
      refine ⟨l8, l11, _, _, rfl, rfl, s11 _ _ ((k9.trans k10) _ _ hl8p upd_same), upd_same, (by show 4 + 2 ≤ sizeLine; decide), fun l12 hl12 => ?_⟩
      have s12 := same_new hl12 (.lst ([V.int r1, .int (r2 * r3), .int 5, .int (1 + (0 + (i : Int)) * (0 + (i : Int)))] ++ [V.int (10 ^ Int.toNat 9 - r4), .int r5]))
      obtain ⟨v, hv, hv0⟩ := at6 a5 a6 a7 (show (0 : Int) ≤ 0 + (i : Int) by omega) b9 a10 n (by omega)
      have h12 := s12 _ _ (s11 _ _ ((k9.trans k10) _ _ hfp h8))
      refine ⟨_, rfl, l12, _, _, _, rfl, rfl, SqL.of upd_same, atI_nat hv, fo, _, _, rfl, rfl, h12, ?_, ?_⟩
      · rw [List.length_map, hsl]
        exact small1000 (by omega)
      have k12 := ((((k5.trans k6).trans k7).trans (KeepBut.same s8)).trans (k9.trans k10)).trans (KeepBut.same (s11.trans s12))
      refine ⟨_, _, s ++ [v], rfl, fun b o hb e => ?_, ?_, ?_, by rw [List.length_append, List.length_singleton, hsl], fun x hx => ?_⟩
      · rw [upd_ne (hfo0 b o hb e)]
        exact k12 _ _ hb (k4 _ _ hb e)
      · obtain ⟨x, y, hx, e⟩ := (L10.same s11).same s12
        refine ⟨x, y, hx, ?_⟩
        rw [upd_ne hfp.symm, e, show 4 + 5 * (i + 1) = 4 + 5 * i + 1 + 1 + 1 + 1 + 1 by omega]
      · rw [upd_same, List.map_append]
        rfl
      · rcases List.mem_append.mp hx with e | e
        · exact hs0 x e
        · rw [List.mem_singleton.mp e]
          exact hv0
    · rintro σ H4 ⟨v5, v6, s, rfl, k4, L4, h4, hsl, hs0⟩
      exact ⟨_, rfl, q fo s H4 (by omega) (by omega) hs0 hfoH k4 h4⟩
end
end K71

/-! _law_costs -/
namespace K71
open PySem PySem.Spec PyProof.Rows L2 R1
theorem tab_upd {H : Hp} {PT D : Addr} {q : Str} {xs ys : List V} (h : LamX.TabS H PT q) (hD : H D = some (.lst xs)) : LamX.TabS (upd H D (.lst ys)) PT q := by
  obtain ⟨ps, h1, h2, h3⟩ := h
  refine ⟨ps, ?_, h2, fun pos cv hc => ?_⟩
  · rw [upd_ne (ne_of h1 hD (by intro z; cases z))]
    exact h1
  · obtain ⟨c, e1, e2⟩ := h3 pos cv hc
    refine ⟨c, e1, ?_⟩
    rw [upd_ne (ne_of e2 hD (by intro z; unfold LamX.CodeO at z; cases z))]
    exact e2
/-- a pair of costs at the place j: by j + 2 ways -/
def CostAt (H : Hp) (s : List Int) (j : Nat) (x : V) : Prop := ∃ (t : Addr) (f n : Int), x = V.ref t ∧ H t = some (.tup [.int f, .int n]) ∧ FN.IsMin (j + 2) s f ∧ FN.IsP (j + 2) s n
theorem CostAt.keep {H H' : Hp} {s : List Int} {j : Nat} {x : V} (h : CostAt H s j x) (k : ∀ t ys, H t = some (.tup ys) → H' t = some (.tup ys)) : CostAt H' s j x := by
  obtain ⟨t, f, n, e1, e2, r⟩ := h
  exact ⟨t, f, n, e1, k _ _ e2, r⟩
def spCosts (K : PySem.W.Frag) (PT : Addr) : Sp := fun vs H Q _ => ∃ (a : Addr) (s : List Int), vs = [.ref a] ∧ SqL K H a (s.map V.int) ∧ 1 ≤ s.length ∧ s.length ≤ 12 ∧ (∀ x ∈ s, 0 ≤ x) ∧ LamX.TabS H PT qLam ∧
  ∀ (r : Addr) (xs : List V) H', LamX.ExtN H H' → LamX.TabS H' PT qLam → H' r = some (.lst xs) → xs.length = 5 → (∀ j x, xs[j]? = some x → CostAt H' s j x) → Q (.ref r) H'
section
variable {P : Program} {w : World} {K : PySem.W.Frag} {mg : Str → Option Value} {base : Heap}
theorem scCosts : FnScope ["_law_sizes_here", "_law_ways"] ["_law_sizes_here"] (defScope sCosts) := ⟨rfl, rfl, rfl, by decide +kernel, rfl, by decide +kernel, by decide +kernel⟩
theorem ok_costs {f fF fN PT : Addr} {fd fdF fdN : FuncData} (F : Fun K "_law_costs" "_law_costs" sCosts f fd) (T : TxtN mg) (GF : FnOk P w K mg base CX0 2 fF fdF ["sizes", "ways"] (spFree K PT)) (kF : PySem.W.keepIn K (.ref fF) = true) (bF : Binds K fdF ["sizes", "ways"] []) (gF : mg "free_plan" = some (.ref fF))
    (GN : FnOk P w K mg base CX0 15 fN fdN ["sizes", "ways"] (spNear K)) (kN : PySem.W.keepIn K (.ref fN) = true) (bN : Binds K fdN ["sizes", "ways"] []) (gN : mg "near_plan" = some (.ref fN)) :
    FnOk P w K mg base CX0 16 f fd ["_law_sizes_here"] (spCosts K PT) := by
  refine F.ok scCosts (fun vs H Q E h => ?_) (fun cdv A outer s H vs Q E hr h => ?_)
  · obtain ⟨a, s, rfl, _⟩ := h
    rfl
  · obtain ⟨a, s, rfl, hS, hn1, hn12, h0, hTab, q⟩ := h
    have hr2 : Room 2 _ := hr.mono (by decide)
    refine ⟨_, pss_one (ps_ret (pe_lc (own := [("_law_ways", 1)]) (g := gName 1) (tt := tYes)
      (te := tTup (tCons (tOp (rIxT K) (tCall (spFree K PT) [] E0 (tCons (tVar 0) (tCons (tVar 1) tNil))) (tC (.int 0))) (tCons (tOp (rIxT K) (tCall (spNear K) [] E0 (tCons (tVar 0) (tCons (tVar 1) tNil))) (tC (.int 0))) tNil)))
      rfl scCosts.nd (pi_range2 (by rfl) T.range (pa_cons pe_int (pa_cons pe_int pa_nil))) (blkOk_by (N := ["_law_sizes_here", "_law_ways"]) (sc := defScope sCosts) (by decide +kernel))
      (fun _ _ _ _ _ => pg_name (i := 1) scCosts.nd rfl (Or.inl rfl)) (fun _ _ _ _ _ => pts_nil)
      (fun _ _ _ _ _ => pe_tup (pa_cons (pe_ix ix_tup (pe_call GF hr2 rfl gF kF bF .nil pass0 (pa_cons (pv 0) (pa_cons (pv 1) pa_nil))) pe_int (fun _ _ => rfl))
        (pa_cons (pe_ix ix_tup (pe_call GN hr rfl gN kN bN .nil pass0 (pa_cons (pv 0) (pa_cons (pv 1) pa_nil))) pe_int (fun _ _ => rfl)) pa_nil))))), ?_⟩
    refine ⟨2, 7, rfl, ⟨by decide, by decide, by decide, by decide⟩, fun D hD => ?_⟩
    refine lc_range (lo := 2) (n := ((7 : Int) - 2).toNat) (fun i H' => LamX.ExtN H H' ∧ LamX.TabS H' PT qLam ∧ ∃ acc, H' D = some (.lst acc) ∧ acc.length = i ∧ ∀ j x, acc[j]? = some x → CostAt H' s j x) ?_ ?_ ?_
    · exact ⟨same_ext (same_new hD _), hTab.ext (same_new hD _), [], upd_same, rfl, fun j x h => (by simp at h)⟩
    · rintro i H1 hi ⟨e1, tb1, acc, hacc, hal, hit⟩
      have hi5 : i < 5 := hi
      refine ⟨rfl, ?_⟩
      refine yes_then ?_
      have ei : (2 : Int) + (i : Int) = ((i + 2 : Nat) : Int) := by omega
      refine ⟨_, rfl, _, rfl, a, i + 2, s, ?_, extN_seq e1 hS, by omega, by omega, hn1, hn12, h0, tb1, fun c v t H2 hmin e2 tb2 ht => ?_⟩
      · rw [← ei]
        rfl
      refine ⟨t, _, _, _, rfl, rfl, SqT.of ht, atI_nat (j := 0) rfl, ?_⟩
      refine ⟨_, rfl, _, rfl, a, i + 2, s, ?_, extN_seq e2 (extN_seq e1 hS), by omega, by omega, hn1, hn12, fun c3 v3 t3 H3 hp s3 ht3 => ?_⟩
      · rw [← ei]
        rfl
      refine ⟨t3, _, _, _, rfl, rfl, SqT.of ht3, atI_nat (j := 0) rfl, (by show 2 ≤ sizeLine; decide), fun t4 ht4 => ?_⟩
      have s4 := s3.trans (same_new ht4 (.tup [.int c, .int c3]))
      have e4 := e2.trans (same_ext s4)
      have hacc4 : (upd H3 t4 (.tup [.int c, .int c3])) D = some (.lst acc) := e4 _ _ hacc fun ps z => by cases z
      refine ⟨acc, hacc4, by rw [hal]; exact small1000 (by omega), fun b o e' n => ?_, tab_upd (tb2.ext s4) hacc4, acc ++ [.ref t4], upd_same, by rw [List.length_append, List.length_singleton, hal], fun j x hj => ?_⟩
      · rw [upd_ne (ne_of_none e' hD)]
        exact e4 _ _ (e1 _ _ e' n) n
      · have kt : ∀ t' ys, (upd H3 t4 (.tup [.int c, .int c3])) t' = some (.tup ys) → (upd (upd H3 t4 (.tup [.int c, .int c3])) D (.lst (acc ++ [.ref t4]))) t' = some (.tup ys) := fun t' ys e' => by
          rw [upd_ne (ne_of e' hacc4 (by intro z; cases z))]
          exact e'
        rcases Nat.lt_trichotomy j i with z | z | z
        · rw [List.getElem?_append_left (by omega)] at hj
          exact (hit j x hj).keep fun t' ys e' => kt _ _ (extN_tup e4 e')
        · subst z
          rw [List.getElem?_append_right (by omega), hal, Nat.sub_self] at hj
          cases hj
          exact ⟨t4, c, c3, rfl, kt _ _ upd_same, hmin, hp⟩
        · rw [List.getElem?_eq_none (by rw [List.length_append, List.length_singleton]; omega)] at hj
          cases hj
    · rintro H1 ⟨e1, tb1, acc, hacc, hal, hit⟩
      exact q D acc H1 e1 tb1 hacc hal hit
end
end K71

/-! The law. -/
namespace K71
open PySem PySem.Spec PyProof.Rows L2 R1
def spLaw (K : PySem.W.Frag) (PT : Addr) : Sp := fun vs H Q _ => ∃ (a : Addr) (ns : List Int), vs = [.ref a] ∧ SqL K H a (ns.map V.int) ∧ ns.length ≤ 63 ∧ LamX.TabS H PT qLam ∧ ∀ H', Q (.bl true) H'
abbrev NLaw : List Str := ["_law_script", "_law_k", "_law_left_here", "_law_sizes_here", "_law_costs_here", "_law_few", "_law_more", "_law_rows", "_law_whole", "_law_free", "_law_near", "_law_pair"]
theorem any_false (n : Nat) : (List.replicate n false).any id = false := by
  induction n with
  | zero => rfl
  | succ n ih => rw [List.replicate_succ, List.any_cons, ih]; rfl
theorem falses_snoc (j : Nat) {b : Bool} (h : b = false) : (List.replicate j false).map V.bl ++ [V.bl b] = (List.replicate (j + 1) false).map V.bl := by
  rw [h, List.replicate_succ', List.map_append]
  rfl
theorem atI_m1 {xs : List V} {v : V} (h : xs.length = 5) (h4 : xs[4]? = some v) : atI xs (-1) = some v := by
  unfold atI
  rw [h]
  exact h4
section
variable {P : Program} {w : World} {K : PySem.W.Frag} {mg : Str → Option Value} {base : Heap}
theorem scLaw : FnScope NLaw ["_law_script"] (defScope sLaw) := ⟨rfl, rfl, rfl, by decide +kernel, rfl, by decide +kernel, by decide +kernel⟩
theorem ok_law {f fL fS fC PT : Addr} {fd fdL fdS fdC : FuncData} (F : Fun K "law" "law" sLaw f fd) (T : TxtN mg) (GL : FnOk P w K mg base CX0 1 fL fdL ["_law_script", "_law_k"] (spLeft K)) (kL : PySem.W.keepIn K (.ref fL) = true) (bL : Binds K fdL ["_law_script", "_law_k"] []) (gL : mg "_law_left" = some (.ref fL))
    (GS : FnOk P w K mg base CX0 4 fS fdS ["_law_left_here", "_law_most"] spSizes) (kS : PySem.W.keepIn K (.ref fS) = true) (bS : Binds K fdS ["_law_left_here", "_law_most"] []) (gS : mg "_law_sizes" = some (.ref fS))
    (GC : FnOk P w K mg base CX0 16 fC fdC ["_law_sizes_here"] (spCosts K PT)) (kC : PySem.W.keepIn K (.ref fC) = true) (bC : Binds K fdC ["_law_sizes_here"] []) (gC : mg "_law_costs" = some (.ref fC)) :
    FnOk P w K mg base CX0 17 f fd ["_law_script"] (spLaw K PT) := by
  refine F.ok scLaw (fun vs H Q E h => ?_) (fun cdv A outer s H vs Q E hr h => ?_)
  · obtain ⟨a, ns, rfl, _⟩ := h
    rfl
  · obtain ⟨a, ns, rfl, hS, h63, hTab, q⟩ := h
    have hr1 : Room 1 _ := hr.mono (by decide)
    have hr4 : Room 4 _ := hr.mono (by decide)
    have hu10 := hu10_of hr
    refine ⟨_, pss_cons (ps_for PassesOwn.never rfl (pi_range1 (by rfl) T.range (pa_cons (pe_op op_add pe_int (pe_callB (call_min2 rfl) (by rfl) T.min boot_min (pa_cons pe_int (pa_cons (pe_callB call_len_seq (by rfl) T.len PySem.boot_len (pa_cons (pv 0) pa_nil)) pa_nil)))) pa_nil)) (pg_name (i := 1) scLaw.nd rfl (Or.inl rfl))
      (pss_cons (ps_set (i := 2) scLaw.nd rfl (Or.inl rfl) (pe_call GL hr1 rfl gL kL bL .nil pass0 (pa_cons (pv 0) (pa_cons (pv 1) pa_nil))))
      (pss_cons (ps_set (i := 3) scLaw.nd rfl (Or.inl rfl) (pe_call GS hr4 rfl gS kS bS .nil pass0 (pa_cons (pv 2) (pa_cons pe_int pa_nil))))
      (pss_cons (ps_set (i := 4) scLaw.nd rfl (Or.inl rfl) (pe_call GC hr rfl gC kC bC .nil pass0 (pa_cons (pv 3) pa_nil)))
      (C8.pss_cut (ps_if (pt_val (pe_callB (cr_any rfl) (by rfl) T.any (by decide +kernel) (pa_cons
          (pe_lc (own := [("_law_free", 9), ("_law_near", 10)]) (g := gP K 9 10) (tt := tYes) rfl scLaw.nd (pi_list (pv 4)) (blkOk_by (N := NLaw) (sc := defScope sLaw) (by decide +kernel))
            (fun _ _ _ _ _ => pg_pair (i := 9) (j := 10) rfl scLaw.nd rfl rfl rfl rfl) (fun _ _ _ _ _ => pts_nil) (fun _ _ _ _ _ => pe_cmpR op_lt (pv 10) (pv 9) (nomark _))) pa_nil))) (pss_one (ps_ret pe_bl)) pss_nil)
      (C8.pss_cut (ps_for PassesOwn.never rfl (pi_zip (by rfl) T.zip (pa_cons (pv 4) (pa_cons (pe_slice sl_list (pv 4) (po_some pe_int) po_none) pa_nil))) (pg_pair (i := 5) (j := 6) rfl scLaw.nd rfl rfl rfl rfl)
        (pss_one (ps_if (PW.pt (pw_or (pt_cmpR op_gt (pe_ix ix_tup (pv 6) pe_int (fun _ _ => rfl)) (pe_ix ix_tup (pv 5) pe_int (fun _ _ => rfl)) (nomark _))
          (pw_or1 (pt_cmpR op_gt (pe_ix ix_tup (pv 6) pe_int (fun _ _ => rfl)) (pe_ix ix_tup (pv 5) pe_int (fun _ _ => rfl)) (nomark _))))) (pss_one (ps_ret pe_bl)) pss_nil)))
      (C8.pss_cut (ps_for PassesOwn.never rfl (pi_tup (pe_tup (pa_cons (pe_callB cr_sorted (by rfl) T.sorted (by decide +kernel) (pa_cons (pv 3) pa_nil)) (pa_cons (pe_revL (pe_callB cr_sorted (by rfl) T.sorted (by decide +kernel) (pa_cons (pv 3) pa_nil))) pa_nil)))) (pg_name (i := 7) scLaw.nd rfl (Or.inl rfl))
        (pss_one (ps_if (PW.pt (pw_or (pt_val (pe_callB (cr_any rfl) (by rfl) T.any (by decide +kernel) (pa_cons
            (pe_lc (own := [("_law_free", 9), ("_law_near", 10)]) (g := gP K 9 10) (tt := tYes) rfl scLaw.nd (pi_list (pe_call GC hr rfl gC kC bC .nil pass0 (pa_cons (pv 7) pa_nil))) (blkOk_by (N := NLaw) (sc := defScope sLaw) (by decide +kernel))
              (fun _ _ _ _ _ => pg_pair (i := 9) (j := 10) rfl scLaw.nd rfl rfl rfl rfl) (fun _ _ _ _ _ => pts_nil) (fun _ _ _ _ _ => pe_cmpR op_ne (pv 10) (pv 9) (nomark _))) pa_nil)))
          (pw_or1 (pt_cmpR op_ne (pe_ix ix_tup (pe_ix ix_list (pe_call GC hr rfl gC kC bC .nil pass0 (pa_cons (pv 7) pa_nil)) pe_int (fun _ _ => rfl)) pe_int (fun _ _ => rfl)) (pe_ix ix_tup (pe_ix ix_list (pv 4) pe_int (fun _ _ => rfl)) pe_int (fun _ _ => rfl)) (nomark _)))))
          (pss_one (ps_ret pe_bl)) pss_nil)))
      (C8.pss_cut (ps_set (i := 8) scLaw.nd rfl (Or.inl rfl) (pe_ifExp (pt_cmpR op_gt (pe_callB call_len_seq (by rfl) T.len PySem.boot_len (pa_cons (pv 3) pa_nil)) pe_int (nomark _)) (pe_callB (cr_sum rfl) (by rfl) T.sum (by decide +kernel) (pa_cons (pv 3) pa_nil)) pe_int))
      (pss_one (ps_if (PW.pt (pw_or (pt_cmpR op_lt (pe_callB (cr_min rfl) (by rfl) T.min boot_min (pa_cons
            (pe_lc (own := [("_law_pair", 11)]) (g := gName 11) (tt := tYes) (te := tCB (rMinT K) (tCons (tVar 11) tNil)) rfl scLaw.nd (pi_list (pv 4)) (blkOk_by (N := NLaw) (sc := defScope sLaw) (by decide +kernel))
              (fun _ _ _ _ _ => pg_name (i := 11) scLaw.nd rfl (Or.inl rfl)) (fun _ _ _ _ _ => pts_nil) (fun _ _ _ _ _ => pe_callB (cr_minT rfl hu10) (by rfl) T.min boot_min (pa_cons (pv 11) pa_nil))) pa_nil)) (pv 8) (nomark _))
          (pw_or1 (PW.pt (pw_and (pt_cmpR op_lt (pe_callB call_len_seq (by rfl) T.len PySem.boot_len (pa_cons (pv 3) pa_nil)) pe_int (nomark _))
            (pw_and1 (pt_cmpR (op_neD hr.units) (pe_ix ix_list (pv 4) (pe_un un_neg pe_int) (fun _ _ => rfl)) (pe_tup (pa_cons (pv 8) (pa_cons (pv 8) pa_nil))) (nomark _)))))))) (pss_one (ps_ret pe_bl)) pss_nil))))))))))
      (pss_one (ps_ret pe_bl)), ?_⟩
    refine ⟨_, rfl, a, _, rfl, .inl hS, _, _, rfl, _, _, rfl, rfl, 1 + (if (((ns.map V.int).length : Nat) : Int) < 8 then (((ns.map V.int).length : Nat) : Int) else 8), rfl, ?_, ?_, ?_⟩
    · split <;> omega
    · split <;> omega
    have hM : (1 + (if (((ns.map V.int).length : Nat) : Int) < 8 then (((ns.map V.int).length : Nat) : Int) else 8)).toNat ≤ 9 := by split <;> omega
    generalize (1 + (if (((ns.map V.int).length : Nat) : Int) < 8 then (((ns.map V.int).length : Nat) : Int) else 8)).toNat = M at hM ⊢
    refine for_range (lo := 0) (n := M) (fun i σ H' => ∃ (v1 v2 v3 v4 v5 v6 v7 v8 : Option V), σ = [some (.ref a), v1, v2, v3, v4, v5, v6, v7, v8, none, none, none] ∧ LamX.ExtN H H' ∧ LamX.TabS H' PT qLam) ⟨none, none, none, none, none, none, none, none, rfl, LamX.ExtN.refl H, hTab⟩ ?_ ?_
    · rintro i σ H1 hi ⟨v1, v2, v3, v4, v5, v6, v7, v8, rfl, e1, tb1⟩
      refine ⟨_, rfl, _, rfl, a, ns, i, ?_, extN_seq e1 hS, by omega, fun p H2 hp s2 L2 => ?_⟩
      · show [V.ref a, .int (0 + (i : Int))] = _
        rw [Int.zero_add]
      refine ⟨_, rfl, p, rfl, L2, fun sl s H3 hn1 hn12 h0 hsl k3 h3 => ?_⟩
      have s13 : Same H1 H3 := fun b o e => k3 b o (ne_of_none e hp) (s2 b o e)
      refine ⟨_, rfl, sl, s, rfl, SqL.of h3, hn1, hn12, h0, tb1.ext s13, fun cl xs H4 e4 tb4 h4 hx5 hcost => ?_⟩
      have h34 : H4 sl = some (.lst (s.map V.int)) := e4 _ _ h3 fun ps z => by cases z
      have e14 : LamX.ExtN H H4 := (e1.trans (same_ext s13)).trans e4
      have hc : ∀ j, j < 5 → ∃ t f n, xs[j]? = some (V.ref t) ∧ H4 t = some (.tup [.int f, .int n]) ∧ FN.IsMin (j + 2) s f ∧ FN.IsP (j + 2) s n := fun j hj => by
        have hx : xs[j]? = some xs[j] := List.getElem?_eq_getElem (by omega)
        obtain ⟨t, f, n, e, r⟩ := hcost j _ hx
        exact ⟨t, f, n, by rw [hx, e], r⟩
      -- near ones never cost less than free ones
      refine ⟨fun σ' H' => σ' = [some (.ref a), some (.int (0 + (i : Int))), some (.ref p), some (.ref sl), some (.ref cl), v5, v6, v7, v8, none, none, none] ∧ Same H4 H', ?_, ?_⟩
      · refine ⟨_, rfl, cl, rfl, ⟨_, SqL.of h4⟩, fun D hD => ?_⟩
        refine lc_list (K := K) (a := cl) (xs := xs) (fun j H' => Same H4 H' ∧ H' D = some (.lst ((List.replicate j false).map V.bl))) ?_ (fun j H' _ hP => SqL.of (hP.1 _ _ h4)) ?_ ?_
        · exact ⟨same_new hD _, upd_same⟩
        · rintro j x H5 hj ⟨s5, h5⟩
          obtain ⟨t, f, n, rfl, ht, hf, hn⟩ := hcost j x hj
          have hfn := FN.near_ge_free hf hn
          refine ⟨t, _, rfl, SqT.of (s5 _ _ ht), rfl, _, _, rfl, _, _, rfl, rfl, rfl, ?_⟩
          refine yes_then ?_
          refine ⟨_, rfl, _, rfl, _, _, rfl, rfl, _, h5, ?_, fun b o e => ?_, ?_⟩
          · rw [List.length_map, List.length_replicate]
            have := (List.getElem?_eq_some_iff.mp hj).1
            exact small1000 (by omega)
          · rw [upd_ne (ne_of_none e hD)]
            exact s5 _ _ e
          · rw [upd_same]
            exact congrArg (fun l => some (HO.lst l)) (falses_snoc j (decide_eq_false (by omega)))
        · rintro H5 ⟨s5, h5⟩
          refine ⟨D, List.replicate xs.length false, rfl, SqL.of h5, _, rfl, ?_⟩
          rw [any_false]
          exact iteF ⟨rfl, s5⟩
      rintro σ H5 ⟨rfl, s5⟩
      -- by more ways neither costs more
      refine ⟨fun σ' H' => ∃ v5 v6, σ' = [some (.ref a), some (.int (0 + (i : Int))), some (.ref p), some (.ref sl), some (.ref cl), v5, v6, v7, v8, none, none, none] ∧ Same H4 H', ?_, ?_⟩
      · refine ⟨_, rfl, _, rfl, 1, rfl, cl, xs, rfl, SqL.of (s5 _ _ h4), fun p6 hp6 => ?_⟩
        have s6 := s5.trans (same_new hp6 (.lst (cutV xs (some 1) none)))
        have h6 : (upd H5 p6 (.lst (cutV xs (some 1) none))) p6 = some (.lst (xs.drop 1)) := by
          rw [upd_same]
          exact congrArg (fun l => some (HO.lst l)) (cut_hi xs 1)
        refine ⟨cl, p6, xs, xs.drop 1, rfl, SqL.of (s6 _ _ h4), SqL.of h6, ?_⟩
        refine for_it (walk_zip (K := K) (a := cl) (b := p6) (xs := xs) (ys := xs.drop 1) (n := 4) (by rw [List.length_drop]; omega)) (fun j σ H' => ∃ v5 v6, σ = [some (.ref a), some (.int (0 + (i : Int))), some (.ref p), some (.ref sl), some (.ref cl), v5, v6, v7, v8, none, none, none] ∧ Same (upd H5 p6 (.lst (cutV xs (some 1) none))) H') ?_
          (fun j σ H' _ ⟨_, _, _, s7⟩ => ⟨SqL.of (s7 _ _ (s6 _ _ h4)), SqL.of (s7 _ _ h6)⟩) ?_ ?_
        · exact ⟨v5, v6, rfl, Same.refl _⟩
        · rintro j x σ H7 H8 hj ⟨w5, w6, rfl, s7⟩ ⟨T0, x0, y0, rfl, hT0, rfl, hx0, hy0⟩
          obtain ⟨t, f, n, hxt, ht, hf, hn⟩ := hc j (by omega)
          obtain ⟨t', f', n', hxt', ht', hf', hn'⟩ := hc (j + 1) (by omega)
          have hx0 : xs[j]? = some x0 := hx0
          have hy0 : (xs.drop 1)[j]? = some y0 := hy0
          rw [List.getElem?_drop, Nat.add_comm] at hy0
          rw [hxt] at hx0
          rw [hxt'] at hy0
          cases hx0
          cases hy0
          have s8 := (s6.trans s7).trans (same_new hT0 (.tup [.ref t, .ref t']))
          have hff := FN.IsMin.more hf hf' (by omega)
          have hnn := FN.near_more hn hn'
          refine ⟨T0, _, rfl, SqT.of upd_same, rfl, _, _, rfl, _, _, rfl, rfl, ?_⟩
          refine ⟨_, rfl, t', _, _, _, rfl, rfl, SqT.of (s8 _ _ ht'), atI_nat (j := 0) rfl, _, rfl, t, _, _, _, rfl, rfl, SqT.of (s8 _ _ ht), atI_nat (j := 0) rfl, _, _, rfl, rfl, _, rfl, ?_⟩
          refine ite2 (fun c => ?_) (fun _ => ?_)
          · exact absurd (of_decide_eq_true c) (show ¬ f' > f by omega)
          refine ⟨_, rfl, t', _, _, _, rfl, rfl, SqT.of (s8 _ _ ht'), atI_nat (j := 1) rfl, _, rfl, t, _, _, _, rfl, rfl, SqT.of (s8 _ _ ht), atI_nat (j := 1) rfl, _, _, rfl, rfl, _, rfl, ?_⟩
          refine ite2 (fun c => ?_) (fun _ => ?_)
          · exact absurd (of_decide_eq_true c) (show ¬ n' > n by omega)
          exact ⟨_, _, rfl, s7.trans (same_new hT0 _)⟩
        · rintro σ H7 ⟨w5, w6, rfl, s7⟩
          exact ⟨_, _, rfl, s6.trans s7⟩
      rintro σ H6 ⟨w5, w6, rfl, s6⟩
      -- the same in rising order, and in falling order
      refine ⟨fun σ' H' => ∃ v7, σ' = [some (.ref a), some (.int (0 + (i : Int))), some (.ref p), some (.ref sl), some (.ref cl), w5, w6, v7, v8, none, none, none] ∧ LamX.ExtN H4 H' ∧ LamX.TabS H' PT qLam, ?_, ?_⟩
      · refine ⟨_, rfl, sl, s, rfl, SqL.of (s6 _ _ h34), by omega, fun r1 p1 hperm1 hsort1 hp1 => ?_⟩
        have s7 := s6.trans (same_new hp1 (.lst (r1.map V.int)))
        refine ⟨_, rfl, sl, s, rfl, SqL.of (s7 _ _ h34), by omega, fun r2 p2 hperm2 hsort2 hp2 => ?_⟩
        have s8 := s7.trans (same_new hp2 (.lst (r2.map V.int)))
        refine ⟨p2, _, rfl, SqL.of upd_same, fun p3 hp3 => ?_⟩
        refine ⟨(by show 2 ≤ sizeLine; decide), fun p4 hp4 => ?_⟩
        have s23 := same_new hp2 (.lst (r2.map V.int))
        have s34 := same_new hp3 (.lst (r2.map V.int).reverse)
        have s45 := same_new hp4 (.tup [.ref p1, .ref p3])
        have s9 := (s8.trans s34).trans s45
        have hq1 := (s23.trans (s34.trans s45)) p1 _ upd_same
        have hq3 := s45 p3 _ upd_same
        refine ⟨p4, rfl, ⟨_, SqT.of upd_same⟩, ?_⟩
        have hq4 : (upd (upd (upd (upd H6 p1 (.lst (r1.map V.int))) p2 (.lst (r2.map V.int))) p3 (.lst (r2.map V.int).reverse)) p4 (.tup [.ref p1, .ref p3])) p4 = some (.tup [.ref p1, .ref p3]) := upd_same
        generalize (upd (upd (upd (upd H6 p1 (.lst (r1.map V.int))) p2 (.lst (r2.map V.int))) p3 (.lst (r2.map V.int).reverse)) p4 (.tup [.ref p1, .ref p3])) = H7 at s9 hq1 hq3 hq4 ⊢
        refine for_tup (K := K) (a := p4) (xs := [.ref p1, .ref p3]) (fun j σ H' => ∃ v7, σ = [some (.ref a), some (.int (0 + (i : Int))), some (.ref p), some (.ref sl), some (.ref cl), w5, w6, v7, v8, none, none, none] ∧ LamX.ExtN H7 H' ∧ LamX.TabS H' PT qLam) ?_ (fun j σ H' _ ⟨_, _, e, _⟩ => SqT.of (extN_tup e hq4)) ?_ ?_
        · exact ⟨v7, rfl, LamX.ExtN.refl _, tb4.ext s9⟩
        · rintro j x σ H8 hj ⟨w7, rfl, e8, tb8⟩
          obtain ⟨pr, s', rfl, hpr, hperm, hord⟩ : ∃ (pr : Addr) (s' : List Int), x = V.ref pr ∧ H7 pr = some (.lst (s'.map V.int)) ∧ s'.Perm s ∧ (s'.Pairwise (· ≤ ·) ∨ s'.reverse.Pairwise (· ≤ ·)) := by
            match j, hj with
            | 0, hj =>
              cases hj
              exact ⟨p1, r1, rfl, hq1, hperm1, .inl hsort1⟩
            | 1, hj =>
              cases hj
              exact ⟨p3, r2.reverse, rfl, by rw [List.map_reverse]; exact hq3, (List.reverse_perm _).trans hperm2, .inr (by rw [List.reverse_reverse]; exact hsort2)⟩
            | j + 2, hj => cases hj
          have hl' : s'.length = s.length := hperm.length_eq
          have h0' : ∀ x ∈ s', 0 ≤ x := fun x hx => h0 x (hperm.mem_iff.mp hx)
          have hord' : ∀ {w : Nat} {f n : Int}, 2 ≤ w → FN.IsMin w s' f → FN.IsP w s' n → n = f := fun {w f n} hw hf hn => by
            rcases hord with z | z
            · exact FN.near_eq_rising hw h0' (by omega) z hf hn
            · exact FN.near_eq_falling hw h0' (by omega) z hf hn
          refine ⟨_, rfl, pr, s', rfl, extN_seq e8 (SqL.of hpr), by omega, by omega, h0', tb8, fun r9 xs9 H9 e9 tb9 h9 hx9 hcost9 => ?_⟩
          refine ⟨r9, rfl, ⟨_, SqL.of h9⟩, fun D hD => ?_⟩
          refine lc_list (K := K) (a := r9) (xs := xs9) (fun j H' => Same H9 H' ∧ H' D = some (.lst ((List.replicate j false).map V.bl))) ?_ (fun j H' _ hP => SqL.of (hP.1 _ _ h9)) ?_ ?_
          · exact ⟨same_new hD _, upd_same⟩
          · rintro j' x H10 hj' ⟨s10, h10⟩
            obtain ⟨t, f, n, rfl, ht, hf, hn⟩ := hcost9 j' x hj'
            have hnf := hord' (by omega) hf hn
            refine ⟨t, _, rfl, SqT.of (s10 _ _ ht), rfl, _, _, rfl, _, _, rfl, rfl, rfl, ?_⟩
            refine yes_then ?_
            refine ⟨_, rfl, _, rfl, rfl, _, h10, ?_, fun b o e => ?_, ?_⟩
            · rw [List.length_map, List.length_replicate]
              have := (List.getElem?_eq_some_iff.mp hj').1
              exact small1000 (by omega)
            · rw [upd_ne (ne_of_none e hD)]
              exact s10 _ _ e
            · rw [upd_same]
              exact congrArg (fun l => some (HO.lst l)) (falses_snoc j' (by rw [hnf, decide_eq_true rfl]; rfl))
          · rintro H10 ⟨s10, h10⟩
            refine ⟨D, List.replicate xs9.length false, rfl, SqL.of h10, _, rfl, ?_⟩
            rw [any_false]
            refine iteF ?_
            have e10 := (e8.trans e9).trans (same_ext s10)
            refine ⟨_, rfl, pr, s', rfl, extN_seq e10 (SqL.of hpr), by omega, by omega, h0', tb9.ext s10, fun r11 xs11 H11 e11 tb11 h11 hx11 hcost11 => ?_⟩
            obtain ⟨t0, f0, n0, hxt0, ht0, hf0, hn0⟩ := hc 0 (by omega)
            have hx0 : xs11[0]? = some xs11[0] := List.getElem?_eq_getElem (by omega)
            obtain ⟨t1, f1, n1, et1, ht1, hf1, hn1'⟩ := hcost11 0 _ hx0
            rw [et1] at hx0
            have e411 : LamX.ExtN H4 H11 := ((same_ext s9).trans e10).trans e11
            refine ⟨r11, _, _, _, rfl, rfl, SqL.of h11, atI_nat (j := 0) hx0, t1, _, _, _, rfl, rfl, SqT.of ht1, atI_nat (j := 0) rfl, ?_⟩
            refine ⟨_, rfl, cl, _, _, _, rfl, rfl, extN_seq e411 (SqL.of h4), atI_nat (j := 0) hxt0, t0, _, _, _, rfl, rfl, SqT.of (extN_tup e411 ht0), atI_nat (j := 0) rfl, rfl, _, rfl, ?_⟩
            have hff : f1 = f0 := (FN.IsMin.perm hf1 hperm).unique hf0
            refine iteNS (congrArg V.int hff) ?_
            exact ⟨_, rfl, e10.trans e11, tb11⟩
        · rintro σ H8 ⟨w7, rfl, e8, tb8⟩
          exact ⟨_, rfl, (same_ext s9).trans e8, tb8⟩
      rintro σ H7 ⟨w7, rfl, e7, tb7⟩
      have h37 : SqL K H7 sl (s.map V.int) := extN_seq e7 (SqL.of h34)
      have h47 : SqL K H7 cl xs := extN_seq e7 (SqL.of h4)
      -- whole
      refine ⟨fun σ' H' => ∃ W : Int, σ' = [some (.ref a), some (.int (0 + (i : Int))), some (.ref p), some (.ref sl), some (.ref cl), w5, w6, w7, some (.int W), none, none, none] ∧ H' = H7 ∧ (2 ≤ s.length → W = s.sum) ∧ (s.length = 1 → W = 0), ?_, ?_⟩
      · refine ⟨_, rfl, sl, _, rfl, .inl h37, _, _, rfl, rfl, _, rfl, ?_⟩
        refine ite2 (fun c => ?_) (fun c => ?_)
        · have c' : (((s.map V.int).length : Nat) : Int) > 1 := of_decide_eq_true c
          rw [List.length_map] at c'
          exact ⟨_, rfl, sl, s, rfl, h37, s.sum, rfl, rfl, fun _ => rfl, fun z => by omega⟩
        · have c' : ¬ (((s.map V.int).length : Nat) : Int) > 1 := of_decide_eq_false (Bool.eq_false_iff.mpr c)
          rw [List.length_map] at c'
          exact ⟨0, rfl, rfl, fun z => by omega, fun _ => rfl⟩
      rintro σ H' ⟨W, rfl, rfl, hW2, hW1⟩
      have hWf : ∀ {w : Nat} {f : Int}, 2 ≤ w → FN.IsMin w s f → W ≤ f := fun {w f} hw hf => by
        by_cases z : 2 ≤ s.length
        · rw [hW2 z]
          exact FN.real_sum hw h0 z hf.1
        · rw [hW1 (by omega)]
          exact hf.1.nonneg h0
      refine ⟨_, rfl, cl, rfl, ⟨_, h47⟩, fun D hD => ?_⟩
      refine lc_list (K := K) (a := cl) (xs := xs) (fun j H'' => Same H' H'' ∧ ∃ ms : List Int, H'' D = some (.lst (ms.map V.int)) ∧ ms.length = j ∧ ∀ m ∈ ms, W ≤ m) ?_ (fun j H'' _ hP => hP.1.seq h47) ?_ ?_
      · exact ⟨same_new hD _, [], upd_same, rfl, fun m hm => (by simp at hm)⟩
      · rintro j x H8 hj ⟨s8, ms, h8, hml, hms⟩
        obtain ⟨t, f, n, rfl, ht, hf, hn⟩ := hcost j x hj
        have hfn := FN.near_ge_free hf hn
        have hWf' := hWf (by omega) hf
        refine ⟨rfl, ?_⟩
        refine yes_then ?_
        refine ⟨_, rfl, t, [f, n], rfl, SqT.of (s8 _ _ (extN_tup e7 ht)), (by simp), fun m hm hle => ?_⟩
        refine ⟨_, h8, ?_, fun b o e => ?_, ms ++ [m], ?_, by rw [List.length_append, List.length_singleton, hml], fun m' hm' => ?_⟩
        · rw [List.length_map, hml]
          have := (List.getElem?_eq_some_iff.mp hj).1
          exact small1000 (by omega)
        · rw [upd_ne (ne_of_none e hD)]
          exact s8 _ _ e
        · rw [upd_same, List.map_append]
          rfl
        · rcases List.mem_append.mp hm' with z | z
          · exact hms m' z
          · rw [List.mem_singleton.mp z]
            rcases List.mem_cons.mp hm with z | z
            · omega
            · have := List.mem_singleton.mp z
              omega
      · rintro H8 ⟨s8, ms, h8, hml, hms⟩
        refine ⟨D, ms, rfl, SqL.of h8, by omega, fun m hm hle => ?_⟩
        refine ⟨_, rfl, _, _, rfl, rfl, _, rfl, ?_⟩
        have hWm := hms m hm
        refine ite2 (fun c => ?_) (fun _ => ?_)
        · exact absurd (of_decide_eq_true c) (show ¬ m < W by omega)
        have fin : ∀ {H9 : Hp}, Same H8 H9 → LamX.ExtN H H9 ∧ LamX.TabS H9 PT qLam := fun {H9} s9 => ⟨(e14.trans e7).trans (same_ext (s8.trans s9)), tb7.ext (s8.trans s9)⟩
        refine ⟨_, rfl, sl, _, rfl, .inl (s8.seq h37), _, _, rfl, rfl, _, rfl, ?_⟩
        refine ite2 (fun c => ?_) (fun _ => ?_)
        · have c' : (((s.map V.int).length : Nat) : Int) < 7 := of_decide_eq_true c
          rw [List.length_map] at c'
          obtain ⟨t4, fa, na, hxt4, ht4, hf4, hn4⟩ := hc 4 (by omega)
          have hfn4 : fa = W ∧ na = W := by
            by_cases z : 2 ≤ s.length
            · rw [hW2 z]
              exact FN.whole_eq (by omega) h0 z (by omega) hf4 hn4
            · rw [hW1 (by omega)]
              exact FN.single_eq (by omega) hf4 hn4 h0
          rw [hfn4.1, hfn4.2] at ht4
          refine ⟨_, rfl, 1, rfl, cl, _, -1, _, rfl, rfl, s8.seq h47, atI_m1 hx5 hxt4, _, rfl, _, rfl, (by show 2 ≤ sizeLine; decide), fun t9 ht9 => ?_⟩
          have s9 := same_new ht9 (.tup [.int W, .int W])
          refine ⟨.tuple [.int W, .int W], .tuple [.int W, .int W], .tup (SqT.of (s9 _ _ (s8 _ _ (extN_tup e7 ht4)))) (.cons (.int _) (.cons (.int _) .nil)), .tup (SqT.of upd_same) (.cons (.int _) (.cons (.int _) .nil)), rfl, rfl, _, rfl, ?_⟩
          have heq : PyData.eqv (.tuple [.int W, .int W]) (.tuple [.int W, .int W]) = true := by simp [PyData.eqv, PyData.eqvAll]
          rw [heq]
          refine iteF ?_
          exact ⟨_, _, _, _, _, _, _, _, rfl, fin s9⟩
        · refine iteF ?_
          exact ⟨_, _, _, _, _, _, _, _, rfl, fin (Same.refl _)⟩
    · rintro σ H1 ⟨v1, v2, v3, v4, v5, v6, v7, v8, rfl, e1, tb1⟩
      exact q _
end
end K71

/-! What the top has written; the head; the end. -/
namespace K71
open PySem PySem.Spec PyProof.Rows L2 R1
theorem all_mk {l : PySem.W.OpenLaw} {w : World} {K : PySem.W.Frag} {h : Heap} {mg : Str → Option Value} {fa C cF PT : Addr} {f1 f2 f3 f4 f5 f6 f7 f8 f9 f10 f11 f12 f13 f14 f15 f16 : Addr} {od1 an1 od2 an2 od3 an3 od4 an4 od5 an5 od6 an6 od7 an7 od8 an8 od9 an9 od10 an10 od11 an11 od12 an12 od13 an13 od14 an14 od15 an15 od16 an16 : Option Addr} {sl1 sl2 sl3 sl4 sl5 sl6 sl7 sl8 sl9 sl10 sl11 sl12 sl13 sl14 sl15 sl16 : Array (Option Value)} {oc1 kV1 dc1 pm1 cd1 ct1 oc2 kV2 dc2 pm2 cd2 ct2 oc3 kV3 dc3 pm3 cd3 ct3 oc4 kV4 dc4 pm4 cd4 ct4 oc5 kV5 dc5 pm5 cd5 ct5 oc6 kV6 dc6 pm6 cd6 ct6 oc7 kV7 dc7 pm7 cd7 ct7 oc8 kV8 dc8 pm8 cd8 ct8 oc9 kV9 dc9 pm9 ct9 oc10 kV10 dc10 pm10 cd10 ct10 oc11 kV11 dc11 pm11 cd11 ct11 oc12 kV12 dc12 pm12 cd12 ct12 oc13 kV13 dc13 pm13 cd13 ct13 oc14 kV14 dc14 pm14 cd14 ct14 oc15 kV15 dc15 pm15 cd15 ct15 oc16 kV16 dc16 pm16 cd16 ct16 : Value} (X : K.In h) (G : h.Ns mainGlobals mg) (hfa : mg "law" = some (.ref fa))
    (aC : PySem.W.nsIn K mainGlobals "Prices" = some (some (.ref C)))
    (a1 : PySem.W.findIn K (.ref C) "__init__" = some (some (.ref f1)))
    (i1 : PySem.W.isFn K (.ref f1) = true)
    (l1 : K.lookup f1 = some ⟨oc1, od1, .func (PySem.W.fnOf "__init__" "Prices.__init__" (defArgs sInit) (defBody sInit) (defScope sInit) .none kV1 dc1 pm1 an1 cd1 ct1), sl1⟩)
    (c1 : PySem.W.codeIn K cd1 "Prices.__init__" = true)
    (k1 : PySem.W.keepIn K (.ref f1) = true)
    (a2 : PySem.W.findIn K (.ref C) "size_of" = some (some (.ref f2)))
    (i2 : PySem.W.isFn K (.ref f2) = true)
    (l2 : K.lookup f2 = some ⟨oc2, od2, .func (PySem.W.fnOf "size_of" "Prices.size_of" (defArgs sSize) (defBody sSize) (defScope sSize) .none kV2 dc2 pm2 an2 cd2 ct2), sl2⟩)
    (c2 : PySem.W.codeIn K cd2 "Prices.size_of" = true)
    (k2 : PySem.W.keepIn K (.ref f2) = true)
    (a3 : PySem.W.findIn K (.ref C) "cuts_of" = some (some (.ref f3)))
    (i3 : PySem.W.isFn K (.ref f3) = true)
    (l3 : K.lookup f3 = some ⟨oc3, od3, .func (PySem.W.fnOf "cuts_of" "Prices.cuts_of" (defArgs sCuts) (defBody sCuts) (defScope sCuts) .none kV3 dc3 pm3 an3 cd3 ct3), sl3⟩)
    (c3 : PySem.W.codeIn K cd3 "Prices.cuts_of" = true)
    (k3 : PySem.W.keepIn K (.ref f3) = true)
    (a4 : PySem.W.findIn K (.ref C) "put_price" = some (some (.ref f4)))
    (i4 : PySem.W.isFn K (.ref f4) = true)
    (l4 : K.lookup f4 = some ⟨oc4, od4, .func (PySem.W.fnOf "put_price" "Prices.put_price" (defArgs sPut) (defBody sPut) (defScope sPut) .none kV4 dc4 pm4 an4 cd4 ct4), sl4⟩)
    (c4 : PySem.W.codeIn K cd4 "Prices.put_price" = true)
    (k4 : PySem.W.keepIn K (.ref f4) = true)
    (a5 : PySem.W.findIn K (.ref C) "price_of" = some (some (.ref f5)))
    (i5 : PySem.W.isFn K (.ref f5) = true)
    (l5 : K.lookup f5 = some ⟨oc5, od5, .func (PySem.W.fnOf "price_of" "Prices.price_of" (defArgs sPrice) (defBody sPrice) (defScope sPrice) .none kV5 dc5 pm5 an5 cd5 ct5), sl5⟩)
    (c5 : PySem.W.codeIn K cd5 "Prices.price_of" = true)
    (k5 : PySem.W.keepIn K (.ref f5) = true)
    (a6 : PySem.W.findIn K (.ref C) "parts_of" = some (some (.ref f6)))
    (i6 : PySem.W.isFn K (.ref f6) = true)
    (l6 : K.lookup f6 = some ⟨oc6, od6, .func (PySem.W.fnOf "parts_of" "Prices.parts_of" (defArgs sParts) (defBody sParts) (defScope sParts) .none kV6 dc6 pm6 an6 cd6 ct6), sl6⟩)
    (c6 : PySem.W.codeIn K cd6 "Prices.parts_of" = true)
    (k6 : PySem.W.keepIn K (.ref f6) = true)
    (a7 : PySem.W.findIn K (.ref C) "tree_of" = some (some (.ref f7)))
    (i7 : PySem.W.isFn K (.ref f7) = true)
    (l7 : K.lookup f7 = some ⟨oc7, od7, .func (PySem.W.fnOf "tree_of" "Prices.tree_of" (defArgs sTree) (defBody sTree) (defScope sTree) .none kV7 dc7 pm7 an7 cd7 ct7), sl7⟩)
    (c7 : PySem.W.codeIn K cd7 "Prices.tree_of" = true)
    (k7 : PySem.W.keepIn K (.ref f7) = true)
    (a8 : PySem.W.nsIn K mainGlobals "near_plan" = some (some (.ref f8)))
    (l8 : K.lookup f8 = some ⟨oc8, od8, .func (PySem.W.fnOf "near_plan" "near_plan" (defArgs sNear) (defBody sNear) (defScope sNear) .none kV8 dc8 pm8 an8 cd8 ct8), sl8⟩)
    (c8 : PySem.W.codeIn K cd8 "near_plan" = true)
    (k8 : PySem.W.keepIn K (.ref f8) = true)
    (a9 : PySem.W.nsIn K mainGlobals "free_plan" = some (some (.ref f9)))
    (l9 : K.lookup f9 = some ⟨oc9, od9, .func (PySem.W.fnOf "free_plan" "free_plan" (defArgs sFree) (defBody sFree) (defScope sFree) .none kV9 dc9 pm9 an9 (.ref cF) ct9), sl9⟩)
    (c9 : PySem.W.codeIn K (.ref cF) "free_plan" = true)
    (k9 : PySem.W.keepIn K (.ref f9) = true)
    (a10 : PySem.W.nsIn K mainGlobals "_law_mix" = some (some (.ref f10)))
    (l10 : K.lookup f10 = some ⟨oc10, od10, .func (PySem.W.fnOf "_law_mix" "_law_mix" (defArgs sMix) (defBody sMix) (defScope sMix) .none kV10 dc10 pm10 an10 cd10 ct10), sl10⟩)
    (c10 : PySem.W.codeIn K cd10 "_law_mix" = true)
    (k10 : PySem.W.keepIn K (.ref f10) = true)
    (a11 : PySem.W.nsIn K mainGlobals "_law_left" = some (some (.ref f11)))
    (l11 : K.lookup f11 = some ⟨oc11, od11, .func (PySem.W.fnOf "_law_left" "_law_left" (defArgs sLeft) (defBody sLeft) (defScope sLeft) .none kV11 dc11 pm11 an11 cd11 ct11), sl11⟩)
    (c11 : PySem.W.codeIn K cd11 "_law_left" = true)
    (k11 : PySem.W.keepIn K (.ref f11) = true)
    (a12 : PySem.W.nsIn K mainGlobals "_law_pick" = some (some (.ref f12)))
    (l12 : K.lookup f12 = some ⟨oc12, od12, .func (PySem.W.fnOf "_law_pick" "_law_pick" (defArgs sPick) (defBody sPick) (defScope sPick) .none kV12 dc12 pm12 an12 cd12 ct12), sl12⟩)
    (c12 : PySem.W.codeIn K cd12 "_law_pick" = true)
    (k12 : PySem.W.keepIn K (.ref f12) = true)
    (a13 : PySem.W.nsIn K mainGlobals "_law_many" = some (some (.ref f13)))
    (l13 : K.lookup f13 = some ⟨oc13, od13, .func (PySem.W.fnOf "_law_many" "_law_many" (defArgs sMany) (defBody sMany) (defScope sMany) .none kV13 dc13 pm13 an13 cd13 ct13), sl13⟩)
    (c13 : PySem.W.codeIn K cd13 "_law_many" = true)
    (k13 : PySem.W.keepIn K (.ref f13) = true)
    (a14 : PySem.W.nsIn K mainGlobals "_law_sizes" = some (some (.ref f14)))
    (l14 : K.lookup f14 = some ⟨oc14, od14, .func (PySem.W.fnOf "_law_sizes" "_law_sizes" (defArgs sSizes) (defBody sSizes) (defScope sSizes) .none kV14 dc14 pm14 an14 cd14 ct14), sl14⟩)
    (c14 : PySem.W.codeIn K cd14 "_law_sizes" = true)
    (k14 : PySem.W.keepIn K (.ref f14) = true)
    (a15 : PySem.W.nsIn K mainGlobals "_law_costs" = some (some (.ref f15)))
    (l15 : K.lookup f15 = some ⟨oc15, od15, .func (PySem.W.fnOf "_law_costs" "_law_costs" (defArgs sCosts) (defBody sCosts) (defScope sCosts) .none kV15 dc15 pm15 an15 cd15 ct15), sl15⟩)
    (c15 : PySem.W.codeIn K cd15 "_law_costs" = true)
    (k15 : PySem.W.keepIn K (.ref f15) = true)
    (a16 : PySem.W.nsIn K mainGlobals "law" = some (some (.ref f16)))
    (l16 : K.lookup f16 = some ⟨oc16, od16, .func (PySem.W.fnOf "law" "law" (defArgs sLaw) (defBody sLaw) (defScope sLaw) .none kV16 dc16 pm16 an16 cd16 ct16), sl16⟩)
    (c16 : PySem.W.codeIn K cd16 "law" = true)
    (k16 : PySem.W.keepIn K (.ref f16) = true)
    (pg : PySem.W.plainGet K C Str.empty = true)
    (hd : PySem.W.hasDictIn K C = true)
    (po : PySem.W.plainOver K C = true)
    (sa : PySem.W.findIn K (.ref C) "__setattr__" = some (some (.builtin "object.__setattr__")))
    (mk : PySem.W.makesIn K C = true)
    (kc : PySem.W.keepIn K (.ref C) = true)
    (n_own_ways : PySem.W.findIn K (.ref C) "own_ways" = some none)
    (n_own_many : PySem.W.findIn K (.ref C) "own_many" = some none)
    (n_own_sums : PySem.W.findIn K (.ref C) "own_sums" = some none)
    (n_own_prices : PySem.W.findIn K (.ref C) "own_prices" = some none)
    (n_own_beside : PySem.W.findIn K (.ref C) "own_beside" = some none)
    (z_len : PySem.W.nsIn K mainGlobals "len" = some none)
    (z_range : PySem.W.nsIn K mainGlobals "range" = some none)
    (z_min : PySem.W.nsIn K mainGlobals "min" = some none)
    (z_max : PySem.W.nsIn K mainGlobals "max" = some none)
    (z_tuple : PySem.W.nsIn K mainGlobals "tuple" = some none)
    (z_sum : PySem.W.nsIn K mainGlobals "sum" = some none)
    (z_sorted : PySem.W.nsIn K mainGlobals "sorted" = some none)
    (z_enumerate : PySem.W.nsIn K mainGlobals "enumerate" = some none)
    (z_any : PySem.W.nsIn K mainGlobals "any" = some none)
    (z_zip : PySem.W.nsIn K mainGlobals "zip" = some none)
    (z_abs : PySem.W.nsIn K mainGlobals "abs" = some none)
    (z_int : PySem.W.nsIn K mainGlobals "int" = some none)
    (tT : h.get? PT = some { cls := .none, data := .fields #[] }) (tK : K.lookup PT = none) (tC : PySem.W.CodeHd h cF PT) :
    LamX.LawAtS l w K CX0 17 63 "_law_script" mg fa h := by
  have e := hfa.symm.trans (PySem.W.mg_of X G a16)
  cases e
  have T : Txt K mg C := ⟨⟨pg, hd, po, sa⟩, n_own_ways, n_own_many, n_own_sums, n_own_prices, n_own_beside, PySem.W.mg_of X G aC, PySem.W.mg_none_of X G z_len, PySem.W.mg_none_of X G z_range, PySem.W.mg_none_of X G z_min, PySem.W.mg_none_of X G z_tuple⟩
  have TN : TxtN mg := ⟨PySem.W.mg_none_of X G z_len, PySem.W.mg_none_of X G z_range, PySem.W.mg_none_of X G z_min, PySem.W.mg_none_of X G z_max, PySem.W.mg_none_of X G z_tuple, PySem.W.mg_none_of X G z_sum, PySem.W.mg_none_of X G z_sorted, PySem.W.mg_none_of X G z_enumerate, PySem.W.mg_none_of X G z_any, PySem.W.mg_none_of X G z_zip, PySem.W.mg_none_of X G z_abs, PySem.W.mg_none_of X G z_int⟩
  have F1 := fun_mk (st := sInit) l1 c1 k1
  have b1 := F1.binds (ps := ["self", "sizes", "ways"]) fun _ _ _ _ _ _ us hl => match us, hl with | [_, _, _], _ => rfl
  have F2 := fun_mk (st := sSize) l2 c2 k2
  have b2 := F2.binds (ps := ["self", "begin", "end"]) fun _ _ _ _ _ _ us hl => match us, hl with | [_, _, _], _ => rfl
  have F3 := fun_mk (st := sCuts) l3 c3 k3
  have b3 := F3.binds (ps := ["self", "begin", "end", "parts"]) fun _ _ _ _ _ _ us hl => match us, hl with | [_, _, _, _], _ => rfl
  have F4 := fun_mk (st := sPut) l4 c4 k4
  have b4 := F4.binds (ps := ["self", "begin", "end"]) fun _ _ _ _ _ _ us hl => match us, hl with | [_, _, _], _ => rfl
  have F5 := fun_mk (st := sPrice) l5 c5 k5
  have b5 := F5.binds (ps := ["self", "begin", "end"]) fun _ _ _ _ _ _ us hl => match us, hl with | [_, _, _], _ => rfl
  have F6 := fun_mk (st := sParts) l6 c6 k6
  have b6 := F6.binds (ps := ["self", "begin", "end"]) fun _ _ _ _ _ _ us hl => match us, hl with | [_, _, _], _ => rfl
  have F7 := fun_mk (st := sTree) l7 c7 k7
  have b7 := F7.binds (ps := ["self", "begin", "end"]) fun _ _ _ _ _ _ us hl => match us, hl with | [_, _, _], _ => rfl
  have F8 := fun_mk (st := sNear) l8 c8 k8
  have b8 := F8.binds (ps := ["sizes", "ways"]) fun _ _ _ _ _ _ us hl => match us, hl with | [_, _], _ => rfl
  have F9 := fun_mk (st := sFree) l9 c9 k9
  have b9 := F9.binds (ps := ["sizes", "ways"]) fun _ _ _ _ _ _ us hl => match us, hl with | [_, _], _ => rfl
  have F10 := fun_mk (st := sMix) l10 c10 k10
  have b10 := F10.binds (ps := ["_law_cell", "_law_k"]) fun _ _ _ _ _ _ us hl => match us, hl with | [_, _], _ => rfl
  have F11 := fun_mk (st := sLeft) l11 c11 k11
  have b11 := F11.binds (ps := ["_law_script", "_law_k"]) fun _ _ _ _ _ _ us hl => match us, hl with | [_, _], _ => rfl
  have F12 := fun_mk (st := sPick) l12 c12 k12
  have b12 := F12.binds (ps := ["_law_left_here", "_law_many_here"]) fun _ _ _ _ _ _ us hl => match us, hl with | [_, _], _ => rfl
  have F13 := fun_mk (st := sMany) l13 c13 k13
  have b13 := F13.binds (ps := ["_law_left_here"]) fun _ _ _ _ _ _ us hl => match us, hl with | [_], _ => rfl
  have F14 := fun_mk (st := sSizes) l14 c14 k14
  have b14 := F14.binds (ps := ["_law_left_here", "_law_most"]) fun _ _ _ _ _ _ us hl => match us, hl with | [_, _], _ => rfl
  have F15 := fun_mk (st := sCosts) l15 c15 k15
  have b15 := F15.binds (ps := ["_law_sizes_here"]) fun _ _ _ _ _ _ us hl => match us, hl with | [_], _ => rfl
  have F16 := fun_mk (st := sLaw) l16 c16 k16
  have b16 := F16.binds (ps := ["_law_script"]) fun _ _ _ _ _ _ us hl => match us, hl with | [_], _ => rfl
  refine ⟨PySem.W.fnOf "law" "law" (defArgs sLaw) (defBody sLaw) (defScope sLaw) .none kV16 dc16 pm16 an16 cd16 ct16, [(cF, PT)], spLaw K PT, fun p hp => by rw [List.mem_singleton.mp hp]; exact tT, fun p hp => by rw [List.mem_singleton.mp hp]; exact tK, fun p hp => by rw [List.mem_singleton.mp hp]; exact tC, fun s v => .of_eq rfl, fun H a ns hl _ hH hS => ⟨a, ns, rfl, hS, hl, LamX.TabS.nil (hH (cF, PT) List.mem_cons_self), fun _ => rfl⟩, fun base _ _ hTB => ?_⟩
  have TB := hTB (cF, PT) List.mem_cons_self
  have GS := ok_size (P := l.prog) (w := w) (base := base) F2 T
  have GR := ok_price (P := l.prog) (w := w) (base := base) F5 T
  have GP := ok_put (P := l.prog) (w := w) (base := base) F4 T F2 b2 ⟨a2, i2, k2⟩ F3 b3 ⟨a3, i3, k3⟩
  have GI := ok_init (P := l.prog) (w := w) (base := base) F1 T GP b4 ⟨a4, i4, k4⟩
  have GQ := ok_parts (P := l.prog) (w := w) (base := base) F6 T F3 b3 ⟨a3, i3, k3⟩
  have GT := ok_trees (P := l.prog) (w := w) (base := base) F7 T GQ b6 ⟨a6, i6, k6⟩ b7 ⟨a7, i7, k7⟩ 12
  have GN := ok_near (P := l.prog) (w := w) (base := base) F8 T ⟨mk, a1, i1, kc⟩ GI b1 GR b5 ⟨a5, i5, k5⟩ GT b7 ⟨a7, i7, k7⟩
  have GF := ok_free (P := l.prog) (w := w) (base := base) l9 c9 TB TN
  have GC := ok_costs (P := l.prog) (w := w) (base := base) F15 TN GF k9 b9 (PySem.W.mg_of X G a9) GN k8 b8 (PySem.W.mg_of X G a8)
  have GL := ok_left (P := l.prog) (w := w) (base := base) F11 TN
  have GK := ok_pick (P := l.prog) (w := w) (base := base) F12 F10 b10 (PySem.W.mg_of X G a10)
  have GM := ok_many (P := l.prog) (w := w) (base := base) F13 GK k12 b12 (PySem.W.mg_of X G a12)
  have GZ := ok_sizes (P := l.prog) (w := w) (base := base) F14 TN GK k12 b12 (PySem.W.mg_of X G a12) GM k13 b13 (PySem.W.mg_of X G a13)
  exact ok_law (P := l.prog) (w := w) (base := base) F16 TN GL k11 b11 (PySem.W.mg_of X G a11) GZ k14 b14 (PySem.W.mg_of X G a14) GC k15 b15 (PySem.W.mg_of X G a15)
end K71
open PySem PySem.W PyProof.Rows in
set_option maxRecDepth 100000 in
set_option maxHeartbeats 0 in
theorem PySem.Challenge.cw_mergetree_k71_whole_near_and_free_holds : PySem.Challenge.rw_mergetree_k71_whole_near_and_free.Holds := by
  w_on; o_law; k_head; (case hw => w_witness2)
  k_fill
  refine LamX.walk_ofTs (l := PySem.Challenge.rw_mergetree_k71_whole_near_and_free) (n := 63) (k := 17) (x := "_law_script") (CX := fun _ => L2.CX0) rfl (by decide) rfl ⟨rfl, by decide, by decide⟩ (fun w h Y => PySem.W.km_in_of Y) ?F fun _ _ _ _ _ z => z
  case F =>
    intro w mg fa h Y KX G hmg
    refine' K71.all_mk KX G hmg ?aC ?a1 ?i1 ?l1 ?c1 ?k1 ?a2 ?i2 ?l2 ?c2 ?k2 ?a3 ?i3 ?l3 ?c3 ?k3 ?a4 ?i4 ?l4 ?c4 ?k4 ?a5 ?i5 ?l5 ?c5 ?k5 ?a6 ?i6 ?l6 ?c6 ?k6 ?a7 ?i7 ?l7 ?c7 ?k7 ?a8 ?l8 ?c8 ?k8 ?a9 ?l9 ?c9 ?k9 ?a10 ?l10 ?c10 ?k10 ?a11 ?l11 ?c11 ?k11 ?a12 ?l12 ?c12 ?k12 ?a13 ?l13 ?c13 ?k13 ?a14 ?l14 ?c14 ?k14 ?a15 ?l15 ?c15 ?k15 ?a16 ?l16 ?c16 ?k16 ?pg ?hd ?po ?sa ?mk ?kc ?n_own_ways ?n_own_many ?n_own_sums ?n_own_prices ?n_own_beside ?z_len ?z_range ?z_min ?z_max ?z_tuple ?z_sum ?z_sorted ?z_enumerate ?z_any ?z_zip ?z_abs ?z_int (PySem.W.km_tabs_of Y _ List.mem_cons_self) ?tK ?tC
    (case aC => k_is); (case a1 => k_is); (case i1 => k_is); (case l1 => k_is); (case c1 => k_is); (case k1 => k_is); (case a2 => k_is); (case i2 => k_is); (case l2 => k_is); (case c2 => k_is); (case k2 => k_is); (case a3 => k_is); (case i3 => k_is); (case l3 => k_is); (case c3 => k_is); (case k3 => k_is); (case a4 => k_is); (case i4 => k_is); (case l4 => k_is); (case c4 => k_is); (case k4 => k_is); (case a5 => k_is); (case i5 => k_is); (case l5 => k_is); (case c5 => k_is); (case k5 => k_is); (case a6 => k_is); (case i6 => k_is); (case l6 => k_is); (case c6 => k_is); (case k6 => k_is); (case a7 => k_is); (case i7 => k_is); (case l7 => k_is); (case c7 => k_is); (case k7 => k_is); (case a8 => k_is); (case l8 => k_is); (case c8 => k_is); (case k8 => k_is); (case a9 => k_is); (case l9 => k_is); (case c9 => k_is); (case k9 => k_is); (case a10 => k_is); (case l10 => k_is); (case c10 => k_is); (case k10 => k_is); (case a11 => k_is); (case l11 => k_is); (case c11 => k_is); (case k11 => k_is); (case a12 => k_is); (case l12 => k_is); (case c12 => k_is); (case k12 => k_is); (case a13 => k_is); (case l13 => k_is); (case c13 => k_is); (case k13 => k_is); (case a14 => k_is); (case l14 => k_is); (case c14 => k_is); (case k14 => k_is); (case a15 => k_is); (case l15 => k_is); (case c15 => k_is); (case k15 => k_is); (case a16 => k_is); (case l16 => k_is); (case c16 => k_is); (case k16 => k_is); (case pg => k_is); (case hd => k_is); (case po => k_is); (case sa => k_is); (case mk => k_is); (case kc => k_is); (case n_own_ways => k_is); (case n_own_many => k_is); (case n_own_sums => k_is); (case n_own_prices => k_is); (case n_own_beside => k_is); (case z_len => k_is); (case z_range => k_is); (case z_min => k_is); (case z_max => k_is); (case z_tuple => k_is); (case z_sum => k_is); (case z_sorted => k_is); (case z_enumerate => k_is); (case z_any => k_is); (case z_zip => k_is); (case z_abs => k_is); (case z_int => k_is)
    (case tK => rfl)
    (case tC => exact PySem.W.codeHd_of_K KX (by kernel_rfl))
