import PyProof.Rows.All
import Wide.All
import OpenK.AllK
import Wide.FinOn
import KE.KTupSum
import KE.DataMinMax
import HandS.ForMost
import HandS.ForExc
import HandS.Property
import HandS.Star
import HandS.IsInst
import HandS.OwnEq
import HandS.TupLe
import HandS.TupAny
import HandS.SortRule
import HandS.Style
import HandS.Flow
import HandS.Deep
import HandS.Defaults
import HandS.Sort
import HandS.Small
import HandS.Evl
import PySem.Challenge.RW_cleanspans_k93_whole_a_cleaner_left_out
import KE.KSuper
import KE.KExcSuper
import KE.KExcInit
import HandS.Walk
import KE.KStateDown
import HandS.Head0
import HandS.Head1
import HandS.Head2
import HandS.HeadEnd
import HandS.HeadHook1
import HandS.HeadHook2
import HandS.HeadHook3
import HandS.HeadNt
set_option Elab.async false
set_option linter.all false
set_option maxRecDepth 100000
set_option maxHeartbeats 0
namespace Cs
abbrev Pr := Int × Int
/-- a time that a list of pairs has -/
def Has (t : Int) (S : List Pr) : Prop := ∃ p ∈ S, p.1 ≤ t ∧ t < p.2
/-- ascending pairs of which no two overlap or touch -/
def Norm (S : List Pr) : Prop := (∀ p ∈ S, p.1 < p.2) ∧ S.Pairwise (fun p q => p.2 < q.1)
theorem has_nil (t : Int) : ¬ Has t [] := fun ⟨p, h, _⟩ => by cases h
theorem has_cons (t : Int) (p : Pr) (S : List Pr) : Has t (p :: S) ↔ (p.1 ≤ t ∧ t < p.2) ∨ Has t S := by
  constructor
  · rintro ⟨q, h, h1⟩
    rcases List.mem_cons.mp h with e | h
    · exact .inl (e ▸ h1)
    · exact .inr ⟨q, h, h1⟩
  · rintro (h | ⟨q, h, h1⟩)
    · exact ⟨p, List.mem_cons_self, h⟩
    · exact ⟨q, List.mem_cons_of_mem _ h, h1⟩
theorem has_append (t : Int) (S T : List Pr) : Has t (S ++ T) ↔ Has t S ∨ Has t T := by
  constructor
  · rintro ⟨q, h, h1⟩
    rcases List.mem_append.mp h with h | h
    · exact .inl ⟨q, h, h1⟩
    · exact .inr ⟨q, h, h1⟩
  · rintro (⟨q, h, h1⟩ | ⟨q, h, h1⟩)
    · exact ⟨q, List.mem_append_left _ h, h1⟩
    · exact ⟨q, List.mem_append_right _ h, h1⟩
theorem has_one (t a b : Int) : Has t [(a, b)] ↔ a ≤ t ∧ t < b := by
  rw [has_cons]
  constructor
  · rintro (h | h)
    · exact h
    · exact absurd h (has_nil t)
  · exact .inl
theorem norm_nil : Norm [] := ⟨fun _ h => (by cases h), .nil⟩
theorem norm_one {a b : Int} (h : a < b) : Norm [(a, b)] := ⟨fun p hp => by rw [List.mem_singleton.mp hp]; exact h, List.pairwise_singleton _ _⟩
theorem norm_cons {p : Pr} {S : List Pr} : Norm (p :: S) ↔ p.1 < p.2 ∧ (∀ q ∈ S, p.2 < q.1) ∧ Norm S := by
  constructor
  · rintro ⟨h1, h2⟩
    obtain ⟨h3, h4⟩ := List.pairwise_cons.mp h2
    exact ⟨h1 _ List.mem_cons_self, h3, fun q hq => h1 q (List.mem_cons_of_mem _ hq), h4⟩
  · rintro ⟨h1, h2, h3, h4⟩
    refine ⟨fun q hq => ?_, List.pairwise_cons.mpr ⟨h2, h4⟩⟩
    rcases List.mem_cons.mp hq with e | hq
    · rw [e]; exact h1
    · exact h3 q hq
theorem has_ge {S : List Pr} {b t : Int} (h : ∀ q ∈ S, b < q.1) (ht : Has t S) : b < t := by
  obtain ⟨q, hq, h1, _⟩ := ht
  have := h q hq
  omega
/-- the list is told by its times -/
theorem norm_ext : ∀ {S T : List Pr}, Norm S → Norm T → (∀ t, Has t S ↔ Has t T) → S = T
  | [], [], _, _, _ => rfl
  | [], q :: T, _, hT, h => by
    obtain ⟨h1, _, _⟩ := norm_cons.mp hT
    exact absurd ((h q.1).mpr ((has_cons _ _ _).mpr (.inl ⟨Int.le_refl _, h1⟩))) (has_nil _)
  | p :: S, [], hS, _, h => by
    obtain ⟨h1, _, _⟩ := norm_cons.mp hS
    exact absurd ((h p.1).mp ((has_cons _ _ _).mpr (.inl ⟨Int.le_refl _, h1⟩))) (has_nil _)
  | (a, b) :: S, (c, d) :: T, hS, hT, h => by
    obtain ⟨h1, h2, h3⟩ := norm_cons.mp hS
    obtain ⟨k1, k2, k3⟩ := norm_cons.mp hT
    dsimp only at h1 h2 k1 k2
    have g := fun t => (has_cons t (a, b) S).symm.trans ((h t).trans (has_cons t (c, d) T))
    dsimp only at g
    have eac : a = c := by
      have e1 := (g a).mp (.inl ⟨Int.le_refl _, h1⟩)
      have e2 := (g c).mpr (.inl ⟨Int.le_refl _, k1⟩)
      have f1 : c ≤ a := by
        rcases e1 with e | e
        · exact e.1
        · have := has_ge k2 e; omega
      have f2 : a ≤ c := by
        rcases e2 with e | e
        · exact e.1
        · have := has_ge h2 e; omega
      omega
    subst eac
    have ebd : b = d := by
      have e1 : ¬ (a ≤ b ∧ b < b ∨ Has b S) := fun z => by
        rcases z with z | z
        · omega
        · have := has_ge h2 z; omega
      have e2 : ¬ (a ≤ d ∧ d < d ∨ Has d T) := fun z => by
        rcases z with z | z
        · omega
        · have := has_ge k2 z; omega
      have f1 : d ≤ b := by
        apply Classical.byContradiction
        intro z
        exact e1 ((g b).mpr (.inl ⟨by omega, by omega⟩))
      have f2 : b ≤ d := by
        apply Classical.byContradiction
        intro z
        exact e2 ((g d).mp (.inl ⟨by omega, by omega⟩))
      omega
    subst ebd
    have er : S = T := norm_ext h3 k3 fun t => by
      constructor
      · intro z
        have l := has_ge h2 z
        rcases (g t).mp (.inr z) with y | y
        · omega
        · exact y
      · intro z
        have l := has_ge k2 z
        rcases (g t).mpr (.inr z) with y | y
        · omega
        · exact y
    rw [er]

/-! ### pairs in order put together -/
def mstep (found : List Pr) (p : Pr) : List Pr := match found.getLast? with
  | none => found ++ [p]
  | some q => if p.1 ≤ q.2 then found.dropLast ++ [(q.1, if p.2 > q.2 then p.2 else q.2)] else found ++ [p]
def merge (L : List Pr) : List Pr := L.foldl mstep []
theorem norm_snoc {S : List Pr} {q : Pr} : Norm (S ++ [q]) ↔ Norm S ∧ q.1 < q.2 ∧ ∀ p ∈ S, p.2 < q.1 := by
  unfold Norm
  rw [List.pairwise_append]
  constructor
  · rintro ⟨h1, h2, _, h3⟩
    exact ⟨⟨fun p hp => h1 p (List.mem_append_left _ hp), h2⟩, h1 q (List.mem_append_right _ (List.mem_singleton.mpr rfl)), fun p hp => h3 p hp q (List.mem_singleton.mpr rfl)⟩
  · rintro ⟨⟨h1, h2⟩, h3, h4⟩
    refine ⟨fun p hp => ?_, h2, List.pairwise_singleton _ _, fun p hp r hr => ?_⟩
    · rcases List.mem_append.mp hp with hp | hp
      · exact h1 p hp
      · rw [List.mem_singleton.mp hp]; exact h3
    · rw [List.mem_singleton.mp hr]; exact h4 p hp
theorem snoc_cases {α : Type} (l : List α) : l = [] ∨ ∃ i x, l = i ++ [x] := by
  rcases List.eq_nil_or_concat l with h | ⟨i, x, h⟩
  · exact .inl h
  · exact .inr ⟨i, x, by simpa using h⟩
theorem mstep_nil (p : Pr) : mstep [] p = [p] := rfl
theorem mstep_snoc (i : List Pr) (q p : Pr) : mstep (i ++ [q]) p = if p.1 ≤ q.2 then i ++ [(q.1, if p.2 > q.2 then p.2 else q.2)] else (i ++ [q]) ++ [p] := by
  unfold mstep
  rw [List.getLast?_concat]
  dsimp only
  rw [List.dropLast_concat]
theorem mstep_ok {F : List Pr} {p : Pr} (hF : Norm F) (hp : p.1 < p.2) (hb : ∀ q ∈ F, q.1 ≤ p.1) :
    Norm (mstep F p) ∧ (∀ t, Has t (mstep F p) ↔ Has t F ∨ (p.1 ≤ t ∧ t < p.2)) ∧ ∀ q ∈ mstep F p, q.1 ≤ p.1 := by
  obtain ⟨a, b⟩ := p
  rcases snoc_cases F with rfl | ⟨i, ⟨c, d⟩, rfl⟩
  · rw [mstep_nil]
    refine ⟨norm_one hp, fun t => ?_, fun q hq => ?_⟩
    · rw [has_one]
      exact ⟨.inr, fun z => z.elim (fun z => absurd z (has_nil t)) id⟩
    · rw [List.mem_singleton.mp hq]; exact Int.le_refl _
  · obtain ⟨n1, n2, n3⟩ := norm_snoc.mp hF
    have hc : c ≤ a := hb (c, d) (List.mem_append_right _ (List.mem_singleton.mpr rfl))
    dsimp only at hp n2 n3
    rw [mstep_snoc]
    dsimp only
    by_cases h : a ≤ d
    · rw [if_pos h]
      refine ⟨norm_snoc.mpr ⟨n1, ?_, n3⟩, fun t => ?_, fun q hq => ?_⟩
      · dsimp only; split <;> omega
      · rw [has_append, has_append, has_one, has_one]
        constructor
        · rintro (z | z)
          · exact .inl (.inl z)
          · split at z
            · by_cases y : t < d
              · exact .inl (.inr ⟨z.1, y⟩)
              · exact .inr ⟨by omega, z.2⟩
            · exact .inl (.inr z)
        · rintro ((z | z) | z)
          · exact .inl z
          · refine .inr ⟨z.1, ?_⟩
            split <;> omega
          · refine .inr ⟨by omega, ?_⟩
            split <;> omega
      · rcases List.mem_append.mp hq with hq | hq
        · exact hb q (List.mem_append_left _ hq)
        · rw [List.mem_singleton.mp hq]; exact hc
    · rw [if_neg h]
      refine ⟨norm_snoc.mpr ⟨hF, hp, fun q hq => ?_⟩, fun t => ?_, fun q hq => ?_⟩
      · rcases List.mem_append.mp hq with hq | hq
        · have := n3 q hq
          dsimp only
          omega
        · rw [List.mem_singleton.mp hq]
          dsimp only
          omega
      · rw [has_append, has_one]
      · rcases List.mem_append.mp hq with hq | hq
        · exact hb q hq
        · rw [List.mem_singleton.mp hq]
          exact Int.le_refl _
theorem foldl_mstep : ∀ (L : List Pr) (F : List Pr), Norm F → (∀ p ∈ L, p.1 < p.2) → L.Pairwise (fun p q => p.1 ≤ q.1) → (∀ q ∈ F, ∀ p ∈ L, q.1 ≤ p.1) →
    Norm (L.foldl mstep F) ∧ ∀ t, Has t (L.foldl mstep F) ↔ Has t F ∨ Has t L
  | [], F, hF, _, _, _ => ⟨hF, fun t => ⟨.inl, fun z => z.elim id fun z => absurd z (has_nil t)⟩⟩
  | p :: L, F, hF, h1, h2, h3 => by
    obtain ⟨k1, k2⟩ := List.pairwise_cons.mp h2
    obtain ⟨m1, m2, m3⟩ := mstep_ok hF (h1 p List.mem_cons_self) fun q hq => h3 q hq p List.mem_cons_self
    obtain ⟨r1, r2⟩ := foldl_mstep L (mstep F p) m1 (fun q hq => h1 q (List.mem_cons_of_mem _ hq)) k2 fun q hq r hr => Int.le_trans (m3 q hq) (k1 r hr)
    refine ⟨r1, fun t => ?_⟩
    rw [List.foldl_cons, r2, m2, has_cons, or_assoc]
theorem merge_ok {L : List Pr} (h1 : ∀ p ∈ L, p.1 < p.2) (h2 : L.Pairwise (fun p q => p.1 ≤ q.1)) : Norm (merge L) ∧ ∀ t, Has t (merge L) ↔ Has t L := by
  obtain ⟨r1, r2⟩ := foldl_mstep L [] norm_nil h1 h2 fun q hq => by cases hq
  exact ⟨r1, fun t => (r2 t).trans ⟨fun z => z.elim (fun z => absurd z (has_nil t)) id, .inr⟩⟩

/-! ### the one row of some pairs -/
def ins (p : Pr) : List Pr → List Pr
  | [] => [p]
  | q :: r => if p.1 ≤ q.1 then p :: q :: r else q :: ins p r
def isort : List Pr → List Pr
  | [] => []
  | p :: r => ins p (isort r)
theorem ins_perm (p : Pr) : ∀ l : List Pr, (ins p l).Perm (p :: l)
  | [] => .refl _
  | q :: r => by
    unfold ins
    split
    · exact .refl _
    · exact ((ins_perm p r).cons q).trans (.swap p q r)
theorem isort_perm : ∀ l : List Pr, (isort l).Perm l
  | [] => .refl _
  | p :: r => (ins_perm p _).trans ((isort_perm r).cons p)
theorem ins_sorted (p : Pr) : ∀ l : List Pr, l.Pairwise (fun p q => p.1 ≤ q.1) → (ins p l).Pairwise (fun p q => p.1 ≤ q.1)
  | [], _ => List.pairwise_singleton _ _
  | q :: r, h => by
    obtain ⟨h1, h2⟩ := List.pairwise_cons.mp h
    unfold ins
    split
    · rename_i c
      refine List.pairwise_cons.mpr ⟨fun z hz => ?_, h⟩
      rcases List.mem_cons.mp hz with e | hz
      · rw [e]; exact c
      · exact Int.le_trans c (h1 z hz)
    · rename_i c
      refine List.pairwise_cons.mpr ⟨fun z hz => ?_, ins_sorted p r h2⟩
      rcases List.mem_cons.mp ((ins_perm p r).mem_iff.mp hz) with e | hz
      · rw [e]; omega
      · exact h1 z hz
theorem isort_sorted : ∀ l : List Pr, (isort l).Pairwise (fun p q => p.1 ≤ q.1)
  | [] => .nil
  | p :: r => ins_sorted p _ (isort_sorted r)
theorem has_perm {S T : List Pr} (h : S.Perm T) (t : Int) : Has t S ↔ Has t T :=
  ⟨fun ⟨p, hp, z⟩ => ⟨p, h.mem_iff.mp hp, z⟩, fun ⟨p, hp, z⟩ => ⟨p, h.mem_iff.mpr hp, z⟩⟩
/-- the spans of all times of some pairs -/
def nf (L : List Pr) : List Pr := merge (isort L)
def Pos (L : List Pr) : Prop := ∀ p ∈ L, p.1 < p.2
theorem nf_ok {L : List Pr} (h : Pos L) : Norm (nf L) ∧ ∀ t, Has t (nf L) ↔ Has t L := by
  obtain ⟨h1, h2⟩ := merge_ok (L := isort L) (fun p hp => h p ((isort_perm L).mem_iff.mp hp)) (isort_sorted L)
  exact ⟨h1, fun t => (h2 t).trans (has_perm (isort_perm L) t)⟩
/-- whatever order by the first numbers they are taken in -/
theorem merge_nf {L M : List Pr} (h : Pos L) (hp : M.Perm L) (hs : M.Pairwise (fun p q => p.1 ≤ q.1)) : merge M = nf L := by
  obtain ⟨a1, a2⟩ := merge_ok (L := M) (fun p q => h p (hp.mem_iff.mp q)) hs
  obtain ⟨b1, b2⟩ := nf_ok h
  exact norm_ext a1 b1 fun t => (a2 t).trans ((has_perm hp t).trans (b2 t).symm)
theorem nf_norm {S : List Pr} (h : Norm S) : nf S = S := by
  obtain ⟨a1, a2⟩ := nf_ok (L := S) h.1
  exact norm_ext a1 h a2
theorem nf_nil : nf [] = [] := rfl
theorem nf_eq {S T : List Pr} (hS : Pos S) (hT : Pos T) (h : ∀ t, Has t S ↔ Has t T) : nf S = nf T := by
  obtain ⟨a1, a2⟩ := nf_ok hS
  obtain ⟨b1, b2⟩ := nf_ok hT
  exact norm_ext a1 b1 fun t => (a2 t).trans ((h t).trans (b2 t).symm)
end Cs
namespace Cs
/-! ### sets of times: later (dilated), earlier (eroded), shifted -/
abbrev Ts := Int → Prop
def Di (n : Int) (A : Ts) : Ts := fun t => ∃ k, 0 ≤ k ∧ k ≤ n ∧ A (t - k)
def Er (n : Int) (A : Ts) : Ts := fun t => ∀ k, 0 ≤ k → k ≤ n → A (t + k)
def Sh (n : Int) (A : Ts) : Ts := fun t => A (t - n)
def Un (A B : Ts) : Ts := fun t => A t ∨ B t
theorem ts_ext {A B : Ts} (h : ∀ t, A t ↔ B t) : A = B := funext fun t => propext (h t)
theorem di_zero (A : Ts) : Di 0 A = A := ts_ext fun t => by
  constructor
  · rintro ⟨k, h1, h2, h⟩
    have : t - k = t := by omega
    rwa [this] at h
  · intro h
    exact ⟨0, by omega, by omega, by simpa using h⟩
theorem er_zero (A : Ts) : Er 0 A = A := ts_ext fun t => by
  constructor
  · intro h
    simpa using h 0 (by omega) (by omega)
  · intro h k h1 h2
    have : t + k = t := by omega
    rwa [this]
theorem di_di {a b : Int} (ha : 0 ≤ a) (hb : 0 ≤ b) (A : Ts) : Di a (Di b A) = Di (a + b) A := ts_ext fun t => by
  constructor
  · rintro ⟨k, h1, h2, j, h3, h4, h⟩
    exact ⟨k + j, by omega, by omega, by rwa [show t - (k + j) = t - k - j by omega]⟩
  · rintro ⟨k, h1, h2, h⟩
    by_cases c : k ≤ a
    · exact ⟨k, h1, c, 0, by omega, by omega, by rwa [show t - k - 0 = t - k by omega]⟩
    · exact ⟨a, by omega, by omega, k - a, by omega, by omega, by rwa [show t - a - (k - a) = t - k by omega]⟩
theorem er_er {a b : Int} (ha : 0 ≤ a) (hb : 0 ≤ b) (A : Ts) : Er a (Er b A) = Er (a + b) A := ts_ext fun t => by
  constructor
  · intro h k h1 h2
    by_cases c : k ≤ a
    · have := h k h1 c 0 (by omega) (by omega)
      rwa [show t + k + 0 = t + k by omega] at this
    · have := h a (by omega) (by omega) (k - a) (by omega) (by omega)
      rwa [show t + a + (k - a) = t + k by omega] at this
  · intro h k h1 h2 j h3 h4
    rw [show t + k + j = t + (k + j) by omega]
    exact h (k + j) (by omega) (by omega)
theorem di_un (n : Int) (A B : Ts) : Di n (Un A B) = Un (Di n A) (Di n B) := ts_ext fun t => by
  constructor
  · rintro ⟨k, h1, h2, h | h⟩
    · exact .inl ⟨k, h1, h2, h⟩
    · exact .inr ⟨k, h1, h2, h⟩
  · rintro (⟨k, h1, h2, h⟩ | ⟨k, h1, h2, h⟩)
    · exact ⟨k, h1, h2, .inl h⟩
    · exact ⟨k, h1, h2, .inr h⟩
/-- filled ahead, nothing more is filled -/
theorem di_er_di (n : Int) (A : Ts) : Di n (Er n (Di n A)) = Di n A := ts_ext fun t => by
  constructor
  · rintro ⟨k, h1, h2, h⟩
    have := h k h1 h2
    rwa [show t - k + k = t by omega] at this
  · rintro ⟨k, h1, h2, h⟩
    refine ⟨k, h1, h2, fun j h3 h4 => ⟨j, h3, h4, ?_⟩⟩
    rwa [show t - k + j - j = t - k by omega]
/-- the heights between nothing and m, up again by w below m -/
theorem di_er_up {w j h : Int} (hw : 0 ≤ w) (hj : 0 ≤ j) (hh : 0 ≤ h) (A : Ts) : Di w (Er (j + w) (Di (j + w + h) A)) = Er j (Di (j + w + h) A) := by
  have e : ∀ B : Ts, Di w (Er (j + w) (Di (j + w) B)) = Er j (Di (j + w) B) := fun B => ts_ext fun t => by
    constructor
    · rintro ⟨k, h1, h2, q⟩ i h3 h4
      have := q (k + i) (by omega) (by omega)
      rwa [show t - k + (k + i) = t + i by omega] at this
    · intro q
      obtain ⟨c, c1, c2, hc⟩ := q 0 (by omega) (by omega)
      rw [show t + 0 - c = t - c by omega] at hc
      by_cases y : c ≤ w
      · refine ⟨c, c1, y, fun i h3 h4 => ⟨i, h3, h4, ?_⟩⟩
        rwa [show t - c + i - i = t - c by omega]
      · refine ⟨w, hw, by omega, fun i h3 h4 => ?_⟩
        by_cases z : w ≤ i
        · have := q (i - w) (by omega) (by omega)
          rwa [show t + (i - w) = t - w + i by omega] at this
        · exact ⟨i + (c - w), by omega, by omega, by rwa [show t - w + i - (i + (c - w)) = t - c by omega]⟩
  have := e (Di h A)
  rwa [di_di (by omega) hh] at this
theorem sh_di (a n : Int) (A : Ts) : Di n (Sh a A) = Sh a (Di n A) := ts_ext fun t => by
  constructor
  · rintro ⟨k, h1, h2, h⟩
    exact ⟨k, h1, h2, by show A (t - a - k); rw [show t - a - k = t - k - a by omega]; exact h⟩
  · rintro ⟨k, h1, h2, h⟩
    exact ⟨k, h1, h2, by show A (t - k - a); rw [show t - k - a = t - a - k by omega]; exact h⟩
theorem sh_er (a n : Int) (A : Ts) : Er n (Sh a A) = Sh a (Er n A) := ts_ext fun t => by
  constructor
  · intro h k h1 h2
    have := h k h1 h2
    show A (t - a + k)
    rw [show t - a + k = t + k - a by omega]
    exact this
  · intro h k h1 h2
    show A (t + k - a)
    rw [show t + k - a = t - a + k by omega]
    exact h k h1 h2
theorem sh_sh (a b : Int) (A : Ts) : Sh a (Sh b A) = Sh (b + a) A := ts_ext fun t => by
  show A (t - a - b) ↔ A (t - (b + a))
  rw [show t - a - b = t - (b + a) by omega]
theorem sh_zero (A : Ts) : Sh 0 A = A := ts_ext fun t => by
  show A (t - 0) ↔ A t
  rw [show t - 0 = t by omega]

/-! ### a way over heights -/
def mv (w : Int) (A : Ts) : Ts := if 0 ≤ w then Di w A else Er (-w) A
def path (ws : List Int) (A : Ts) : Ts := ws.foldl (fun A w => mv w A) A
theorem mv_sh (w a : Int) (A : Ts) : mv w (Sh a A) = Sh a (mv w A) := by
  unfold mv
  split
  · exact sh_di ..
  · exact sh_er ..
theorem path_sh (a : Int) : ∀ (ws : List Int) (A : Ts), path ws (Sh a A) = Sh a (path ws A)
  | [], _ => rfl
  | w :: ws, A => by
    show path ws (mv w (Sh a A)) = Sh a (path ws (mv w A))
    rw [mv_sh, path_sh a ws]
theorem path_append (us ws : List Int) (A : Ts) : path (us ++ ws) A = path ws (path us A) := List.foldl_append ..
/-- the way stays from nothing on: what it comes to, by its highest height m and its last one h -/
theorem path_up : ∀ (ws : List Int) (m h : Int) (A : Ts), 0 ≤ h → h ≤ m → (∀ us vs, ws = us ++ vs → 0 ≤ h + us.sum) →
    ∃ m' h', m' = (ws.foldl (fun (p : Int × Int) w => (p.1 + w, max p.2 (p.1 + w))) (h, m)).2 ∧ h' = h + ws.sum ∧ 0 ≤ h' ∧ h' ≤ m' ∧ path ws (Er (m - h) (Di m A)) = Er (m' - h') (Di m' A)
  | [], m, h, A, h0, hm, _ => ⟨m, h, rfl, by simp, h0, hm, rfl⟩
  | w :: ws, m, h, A, h0, hm, st => by
    have s1 := st [w] ws rfl
    simp only [List.sum_cons, List.sum_nil] at s1
    have step : mv w (Er (m - h) (Di m A)) = Er (max m (h + w) - (h + w)) (Di (max m (h + w)) A) := by
      unfold mv
      by_cases c : 0 ≤ w
      · rw [if_pos c]
        by_cases d : h + w ≤ m
        · rw [show max m (h + w) = m by omega]
          have := di_er_up (w := w) (j := m - h - w) (h := h) c (by omega) h0 A
          rw [show m - h - w + w = m - h by omega, show m - h + h = m by omega] at this
          rw [this, show m - h - w = m - (h + w) by omega]
        · rw [show max m (h + w) = h + w by omega]
          have e1 : w = (w - (m - h)) + (m - h) := by omega
          rw [e1, ← di_di (by omega) (by omega)]
          have e2 : m = (m - h) + h := by omega
          have e3 : Di m A = Di (m - h) (Di h A) := by rw [di_di (by omega) h0, ← e2]
          rw [e3, di_er_di, di_di (by omega) h0, di_di (by omega) (by omega), show h + (w - (m - h) + (m - h)) - (h + (w - (m - h) + (m - h))) = 0 by omega, er_zero]
          rw [show w - (m - h) + (m - h + h) = h + (w - (m - h) + (m - h)) by omega]
      · rw [if_neg c, er_er (by omega) (by omega), show max m (h + w) = m by omega, show -w + (m - h) = m - (h + w) by omega]
    obtain ⟨m', h', e1, e2, e3, e4, e5⟩ := path_up ws (max m (h + w)) (h + w) A (by omega) (by omega) (fun us vs e => by
      have := st (w :: us) vs (by rw [e]; rfl)
      rw [List.sum_cons] at this
      omega)
    refine ⟨m', h', e1, ?_, e3, e4, ?_⟩
    · rw [List.sum_cons]; omega
    · show path ws (mv w _) = _
      rw [step, e5]
end Cs
namespace Cs
/-! ### the steps: what a step makes of spans, by the law's own road and by the program's -/
inductive Stp where
  | fill (g : Int) | drop (d : Int) | widen (a b : Int) | trim (a b : Int) | shift (n : Int)
  deriving DecidableEq, Repr
def Stp.good : Stp → Prop
  | .fill g => 0 ≤ g
  | .drop d => 0 ≤ d
  | .widen a b => 0 ≤ a ∧ 0 ≤ b
  | .trim a b => 0 ≤ a ∧ 0 ≤ b
  | .shift _ => True
def Stp.nums : Stp → List Int
  | .fill g => [g]
  | .drop d => [d]
  | .widen a b => [a, b]
  | .trim a b => [a, b]
  | .shift n => [n]
/-- what the height moves by -/
def Stp.swings : Stp → List Int
  | .fill g => [g, -g]
  | .drop d => [-d, d]
  | .widen a b => [a + b]
  | .trim a b => [-(a + b)]
  | .shift _ => []
def Stp.edges : Stp → Int × Int
  | .fill _ => (0, 0)
  | .drop _ => (0, 0)
  | .widen a b => (-a, b)
  | .trim a b => (a, -b)
  | .shift n => (n, n)
abbrev Line := List Stp
def Line.good (l : Line) : Prop := ∀ s ∈ l, s.good
def Line.sw (l : Line) : List Int := l.flatMap Stp.swings
def Line.starts (l : Line) : Int := (l.map fun s => s.edges.1).sum
def Line.ends (l : Line) : Int := (l.map fun s => s.edges.2).sum
/-- what a step is to sets of times -/
def Stp.sem : Stp → Ts → Ts
  | .fill g, A => Er g (Di g A)
  | .drop d, A => Di d (Er d A)
  | .widen a b, A => Sh (-a) (Di (a + b) A)
  | .trim a b, A => Sh a (Er (a + b) A)
  | .shift n, A => Sh n A
theorem mv_pos {w : Int} (h : 0 ≤ w) (A : Ts) : mv w A = Di w A := if_pos h
theorem mv_neg {w : Int} (h : 0 ≤ w) (A : Ts) : mv (-w) A = Er w A := by
  unfold mv
  split
  · have : w = 0 := by omega
    subst this
    rw [show (-0 : Int) = 0 from rfl, di_zero, er_zero]
  · rw [Int.neg_neg]
theorem Stp.sem_path {s : Stp} (h : s.good) (A : Ts) : s.sem A = Sh s.edges.1 (path s.swings A) := by
  cases s with
  | fill g => show Er g (Di g A) = Sh 0 (mv (-g) (mv g A)); rw [sh_zero, mv_pos h, mv_neg h]
  | drop d => show Di d (Er d A) = Sh 0 (mv d (mv (-d) A)); rw [sh_zero, mv_pos h, mv_neg h]
  | widen a b => show Sh (-a) (Di (a + b) A) = Sh (-a) (mv (a + b) A); rw [mv_pos (by have := h.1; have := h.2; omega)]
  | trim a b => show Sh a (Er (a + b) A) = Sh a (mv (-(a + b)) A); rw [mv_neg (by have := h.1; have := h.2; omega)]
  | shift n => rfl
def Line.sem (l : Line) (A : Ts) : Ts := l.foldl (fun A s => s.sem A) A
theorem Line.sem_path : ∀ {l : Line}, l.good → ∀ A : Ts, l.sem A = Sh l.starts (path l.sw A)
  | [], _, A => (sh_zero A).symm
  | s :: l, h, A => by
    show Line.sem l (s.sem A) = _
    rw [Line.sem_path (l := l) (fun z hz => h z (List.mem_cons_of_mem _ hz)), Stp.sem_path (h s List.mem_cons_self), path_sh, sh_sh]
    have e1 : Line.starts (s :: l) = s.edges.1 + Line.starts l := by unfold Line.starts; rw [List.map_cons, List.sum_cons]
    have e2 : Line.sw (s :: l) = s.swings ++ Line.sw l := by unfold Line.sw; rw [List.flatMap_cons]
    rw [e1, e2, path_append]

/-! ### the law's steps -/
def Stp.law : Stp → List Pr → List Pr
  | .fill g, S => (nf (S.map fun p => (p.1, p.2 + g))).map fun p => (p.1, p.2 - g)
  | .drop d, S => S.filter fun p => decide (d < p.2 - p.1)
  | .widen a b, S => nf (S.map fun p => (p.1 - a, p.2 + b))
  | .trim a b, S => (S.filter fun p => decide (a + b < p.2 - p.1)).map fun p => (p.1 + a, p.2 - b)
  | .shift n, S => S.map fun p => (p.1 + n, p.2 + n)
def Set (S : List Pr) : Ts := fun t => Has t S
/-- no time right behind a span -/
theorem not_behind {S : List Pr} (h : Norm S) : ∀ p ∈ S, ¬ Has p.2 S := by
  induction S with
  | nil => intro p hp; cases hp
  | cons q S ih =>
    obtain ⟨h1, h2, h3⟩ := norm_cons.mp h
    intro p hp z
    rcases List.mem_cons.mp hp with e | hp
    · subst e
      rcases (has_cons _ _ _).mp z with z | z
      · omega
      · have := has_ge h2 z; omega
    · rcases (has_cons _ _ _).mp z with z | z
      · have := h2 p hp
        have := h3.1 p hp
        omega
      · exact ih h3 p hp z
/-- a stretch within a row lies within one span of it -/
theorem stretch {S : List Pr} (h : Norm S) {t : Int} : ∀ n : Nat, (∀ k : Int, 0 ≤ k → k ≤ n → Has (t + k) S) → ∃ p ∈ S, p.1 ≤ t ∧ t + n < p.2
  | 0, q => by
    obtain ⟨p, hp, h1, h2⟩ := q 0 (by omega) (by omega)
    exact ⟨p, hp, by omega, by omega⟩
  | n + 1, q => by
    obtain ⟨p, hp, h1, h2⟩ := stretch h n fun k k1 k2 => q k k1 (by omega)
    refine ⟨p, hp, h1, ?_⟩
    have z := q (n + 1) (by omega) (by omega)
    have nb := not_behind h p hp
    have : t + (n + 1) ≠ p.2 := fun e => nb (e ▸ z)
    push_cast
    omega
theorem er_set {S : List Pr} (h : Norm S) {n : Int} (hn : 0 ≤ n) (t : Int) : Er n (Set S) t ↔ ∃ p ∈ S, p.1 ≤ t ∧ t + n < p.2 := by
  constructor
  · intro q
    obtain ⟨p, hp, h1, h2⟩ := stretch h n.toNat (t := t) fun k k1 k2 => q k k1 (by omega)
    exact ⟨p, hp, h1, by omega⟩
  · rintro ⟨p, hp, h1, h2⟩ k k1 k2
    exact ⟨p, hp, by omega, by omega⟩
theorem di_set {S : List Pr} {n : Int} (hn : 0 ≤ n) (hS : Pos S) (t : Int) : Di n (Set S) t ↔ ∃ p ∈ S, p.1 ≤ t ∧ t < p.2 + n := by
  constructor
  · rintro ⟨k, k1, k2, p, hp, h1, h2⟩
    exact ⟨p, hp, by omega, by omega⟩
  · rintro ⟨p, hp, h1, h2⟩
    have := hS p hp
    by_cases c : t < p.2
    · exact ⟨0, by omega, hn, p, hp, by omega, by omega⟩
    · exact ⟨t - p.2 + 1, by omega, by omega, p, hp, by omega, by omega⟩
theorem norm_map {S : List Pr} {f : Pr → Pr} (h : Norm S) (h1 : ∀ p ∈ S, (f p).1 < (f p).2) (h2 : ∀ p ∈ S, ∀ q ∈ S, p.2 < q.1 → (f p).2 < (f q).1) : Norm (S.map f) := by
  refine ⟨fun p hp => ?_, ?_⟩
  · obtain ⟨q, hq, rfl⟩ := List.mem_map.mp hp
    exact h1 q hq
  · rw [List.pairwise_map]
    exact h.2.imp_of_mem fun {a b} ha hb c => h2 a ha b hb c
theorem norm_filter {S : List Pr} {f : Pr → Bool} (h : Norm S) : Norm (S.filter f) := ⟨fun p hp => h.1 p (List.mem_filter.mp hp).1, h.2.filter f⟩
theorem has_map {S : List Pr} {f : Pr → Pr} {t : Int} : Has t (S.map f) ↔ ∃ p ∈ S, (f p).1 ≤ t ∧ t < (f p).2 := by
  constructor
  · rintro ⟨q, hq, h⟩
    obtain ⟨p, hp, rfl⟩ := List.mem_map.mp hq
    exact ⟨p, hp, h⟩
  · rintro ⟨p, hp, h⟩
    exact ⟨f p, List.mem_map.mpr ⟨p, hp, rfl⟩, h⟩
theorem Stp.law_ok {s : Stp} (hs : s.good) {S : List Pr} (h : Norm S) : Norm (s.law S) ∧ Set (s.law S) = s.sem (Set S) := by
  cases s with
  | fill g =>
    have hg : 0 ≤ g := hs
    have hp : Pos (S.map fun p => (p.1, p.2 + g)) := fun p hp => by
      obtain ⟨q, hq, rfl⟩ := List.mem_map.mp hp
      have := h.1 q hq
      dsimp only
      omega
    obtain ⟨n1, n2⟩ := nf_ok hp
    have e : Set (nf (S.map fun p => (p.1, p.2 + g))) = Di g (Set S) := ts_ext fun t => by
      rw [di_set hg h.1]
      exact (n2 t).trans has_map
    -- every span of it is longer than g
    have long : ∀ p ∈ nf (S.map fun p => (p.1, p.2 + g)), g < p.2 - p.1 := fun p hp' => by
      have q1 : Di g (Set S) p.1 := e ▸ (⟨p, hp', by omega, n1.1 p hp'⟩ : Has p.1 _)
      obtain ⟨r, hr, r1, r2⟩ := (di_set hg h.1 _).mp q1
      have hr3 := h.1 r hr
      have all : ∀ k : Int, 0 ≤ k → k ≤ g → Has (r.1 + k) (nf (S.map fun p => (p.1, p.2 + g))) := fun k k1 k2 => by
        have : Di g (Set S) (r.1 + k) := (di_set hg h.1 _).mpr ⟨r, hr, by omega, by omega⟩
        exact (show Set (nf (S.map fun p => (p.1, p.2 + g))) (r.1 + k) by rw [e]; exact this)
      have all2 : ∀ k : Int, 0 ≤ k → k ≤ (r.2 + g - 1 - r.1) → Has (r.1 + k) (nf (S.map fun p => (p.1, p.2 + g))) := fun k k1 k2 => by
        have : Di g (Set S) (r.1 + k) := (di_set hg h.1 _).mpr ⟨r, hr, by omega, by omega⟩
        exact (show Set (nf (S.map fun p => (p.1, p.2 + g))) (r.1 + k) by rw [e]; exact this)
      obtain ⟨x, hx, x1, x2⟩ := stretch n1 (t := r.1) (r.2 + g - 1 - r.1).toNat fun k k1 k2 => all2 k k1 (by omega)
      -- x and p are one
      have same : x = p := by
        rcases Classical.em (x = p) with z | z
        · exact z
        · exfalso
          have pw := n1.2
          -- both have the time p.1
          have hxp : x.1 ≤ p.1 ∧ p.1 < x.2 := by omega
          have key : ∀ {L : List Pr}, L.Pairwise (fun p q => p.2 < q.1) → (∀ p ∈ L, p.1 < p.2) → x ∈ L → p ∈ L → x ≠ p → x.2 < p.1 ∨ p.2 < x.1 := by
            intro L
            induction L with
            | nil => intro _ _ hx _ _; cases hx
            | cons a L ih =>
              intro hL hpos hx hp hne
              obtain ⟨c1, c2⟩ := List.pairwise_cons.mp hL
              rcases List.mem_cons.mp hx with e1 | hx
              · rcases List.mem_cons.mp hp with e2 | hp
                · exact absurd (e1.trans e2.symm) hne
                · left; rw [e1]; exact c1 p hp
              · rcases List.mem_cons.mp hp with e2 | hp
                · right; rw [e2]; exact c1 x hx
                · exact ih c2 (fun q hq => hpos q (List.mem_cons_of_mem _ hq)) hx hp hne
          have := n1.1 p hp'
          rcases key pw n1.1 hx hp' z with c | c <;> omega
      subst same
      omega
    refine ⟨norm_map n1 (fun p hp' => by have := long p hp'; dsimp only; omega) (fun p hp' q hq c => by dsimp only; omega), ts_ext fun t => ?_⟩
    show Has t _ ↔ Er g (Di g (Set S)) t
    rw [← e, er_set n1 hg]
    refine has_map.trans ?_
    constructor
    · rintro ⟨p, hp', c1, c2⟩; exact ⟨p, hp', c1, by dsimp only at c2; omega⟩
    · rintro ⟨p, hp', c1, c2⟩; exact ⟨p, hp', c1, by dsimp only; omega⟩
  | drop d =>
    have hd : 0 ≤ d := hs
    refine ⟨norm_filter h, ts_ext fun t => ?_⟩
    show Has t _ ↔ Di d (Er d (Set S)) t
    constructor
    · rintro ⟨p, hp, c1, c2⟩
      obtain ⟨hp, c3⟩ := List.mem_filter.mp hp
      have c3 := of_decide_eq_true c3
      by_cases c : t + d < p.2
      · exact ⟨0, by omega, hd, (er_set h hd _).mpr ⟨p, hp, by omega, by omega⟩⟩
      · exact ⟨t + d - p.2 + 1, by omega, by omega, (er_set h hd _).mpr ⟨p, hp, by omega, by omega⟩⟩
    · rintro ⟨k, k1, k2, q⟩
      obtain ⟨p, hp, c1, c2⟩ := (er_set h hd _).mp q
      exact ⟨p, List.mem_filter.mpr ⟨hp, decide_eq_true (by omega)⟩, by omega, by omega⟩
  | widen a b =>
    obtain ⟨ha, hb⟩ : 0 ≤ a ∧ 0 ≤ b := hs
    have hp : Pos (S.map fun p => (p.1 - a, p.2 + b)) := fun p hp => by
      obtain ⟨q, hq, rfl⟩ := List.mem_map.mp hp
      have := h.1 q hq
      dsimp only
      omega
    obtain ⟨n1, n2⟩ := nf_ok hp
    refine ⟨n1, ts_ext fun t => ?_⟩
    show Has t _ ↔ Di (a + b) (Set S) (t - -a)
    rw [di_set (by omega) h.1]
    refine (n2 t).trans (has_map.trans ?_)
    constructor
    · rintro ⟨p, hp', c1, c2⟩; exact ⟨p, hp', by dsimp only at c1; omega, by dsimp only at c2; omega⟩
    · rintro ⟨p, hp', c1, c2⟩; exact ⟨p, hp', by dsimp only; omega, by dsimp only; omega⟩
  | trim a b =>
    obtain ⟨ha, hb⟩ : 0 ≤ a ∧ 0 ≤ b := hs
    refine ⟨norm_map (norm_filter h) (fun p hp => ?_) (fun p hp q hq c => by dsimp only; omega), ts_ext fun t => ?_⟩
    · have := of_decide_eq_true (List.mem_filter.mp hp).2
      dsimp only
      omega
    · show Has t _ ↔ Er (a + b) (Set S) (t - a)
      rw [er_set h (by omega)]
      refine has_map.trans ?_
      constructor
      · rintro ⟨p, hp', c1, c2⟩
        exact ⟨p, (List.mem_filter.mp hp').1, by dsimp only at c1; omega, by dsimp only at c2; omega⟩
      · rintro ⟨p, hp', c1, c2⟩
        exact ⟨p, List.mem_filter.mpr ⟨hp', decide_eq_true (by omega)⟩, by dsimp only; omega, by dsimp only; omega⟩
  | shift n =>
    refine ⟨norm_map h (fun p hp => by have := h.1 p hp; dsimp only; omega) (fun p hp q hq c => by dsimp only; omega), ts_ext fun t => ?_⟩
    show Has t _ ↔ Has (t - n) S
    refine has_map.trans ?_
    constructor
    · rintro ⟨p, hp', c1, c2⟩; exact ⟨p, hp', by dsimp only at c1; omega, by dsimp only at c2; omega⟩
    · rintro ⟨p, hp', c1, c2⟩; exact ⟨p, hp', by dsimp only; omega, by dsimp only; omega⟩
def Line.law (l : Line) (S : List Pr) : List Pr := l.foldl (fun S s => s.law S) S
theorem Line.law_ok : ∀ {l : Line}, l.good → ∀ {S : List Pr}, Norm S → Norm (l.law S) ∧ Set (l.law S) = l.sem (Set S)
  | [], _, S, h => ⟨h, rfl⟩
  | s :: l, hl, S, h => by
    obtain ⟨h1, h2⟩ := Stp.law_ok (hl s List.mem_cons_self) h
    obtain ⟨h3, h4⟩ := Line.law_ok (l := l) (fun z hz => hl z (List.mem_cons_of_mem _ hz)) h1
    exact ⟨h3, h4.trans (by rw [h2]; rfl)⟩
end Cs
namespace Cs
/-! ### the program's steps -/
def fstep (g : Int) (found : List Pr) (p : Pr) : List Pr := match found.getLast? with
  | none => found ++ [p]
  | some q => if p.1 - q.2 ≤ g then found.dropLast ++ [(q.1, p.2)] else found ++ [p]
def filled (S : List Pr) (g : Int) : List Pr := S.foldl (fstep g) []
def moved (S : List Pr) (a b : Int) : List Pr := (S.filter fun p => decide (p.1 + a < p.2 + b)).map fun p => (p.1 + a, p.2 + b)
def Stp.raw : Stp → List Pr → List Pr
  | .fill g, S => filled S g
  | .drop d, S => S.filter fun p => decide (d < p.2 - p.1)
  | s, S => moved S s.edges.1 s.edges.2
def Stp.host (s : Stp) (S : List Pr) : List Pr := nf (s.raw S)
theorem fstep_snoc (g : Int) (i : List Pr) (q p : Pr) : fstep g (i ++ [q]) p = if p.1 - q.2 ≤ g then i ++ [(q.1, p.2)] else (i ++ [q]) ++ [p] := by
  unfold fstep
  rw [List.getLast?_concat]
  dsimp only
  rw [List.dropLast_concat]
theorem filled_foldl {g : Int} (hg : 0 ≤ g) : ∀ (L F : List Pr), Norm L → (∀ q ∈ F, ∀ p ∈ L, q.2 < p.1) →
    (L.map fun p => (p.1, p.2 + g)).foldl mstep (F.map fun p => (p.1, p.2 + g)) = (L.foldl (fstep g) F).map fun p => (p.1, p.2 + g)
  | [], F, _, _ => rfl
  | p :: L, F, hL, hF => by
    obtain ⟨h1, h2, h3⟩ := norm_cons.mp hL
    have step : mstep (F.map fun p => (p.1, p.2 + g)) (p.1, p.2 + g) = (fstep g F p).map fun p => (p.1, p.2 + g) := by
      rcases snoc_cases F with rfl | ⟨i, q, rfl⟩
      · rfl
      · have hq := hF q (List.mem_append_right _ (List.mem_singleton.mpr rfl)) p List.mem_cons_self
        rw [List.map_append, List.map_singleton, mstep_snoc, fstep_snoc]
        dsimp only
        by_cases c : p.1 ≤ q.2 + g
        · rw [if_pos c, if_pos (show p.1 - q.2 ≤ g by omega), if_pos (by omega), List.map_append, List.map_singleton]
        · rw [if_neg c, if_neg (show ¬ p.1 - q.2 ≤ g by omega), List.map_append, List.map_append, List.map_singleton, List.map_singleton]
    rw [List.map_cons, List.foldl_cons, List.foldl_cons, step]
    refine filled_foldl hg L (fstep g F p) h3 fun r hr s hs => ?_
    have hps := h2 s hs
    rcases snoc_cases F with rfl | ⟨i, q, rfl⟩
    · rw [List.mem_singleton.mp (show r ∈ [p] from hr)]; exact hps
    · rw [fstep_snoc] at hr
      split at hr
      · rcases List.mem_append.mp hr with hr | hr
        · exact hF r (List.mem_append_left _ hr) s (List.mem_cons_of_mem _ hs)
        · rw [List.mem_singleton.mp hr]; exact hps
      · rcases List.mem_append.mp hr with hr | hr
        · exact hF r hr s (List.mem_cons_of_mem _ hs)
        · rw [List.mem_singleton.mp hr]; exact hps
theorem filled_law {S : List Pr} (h : Norm S) {g : Int} (hg : 0 ≤ g) : filled S g = (Stp.fill g).law S := by
  have e := filled_foldl hg S [] h fun q hq => by cases hq
  have hp : Pos (S.map fun p => (p.1, p.2 + g)) := fun p hp => by
    obtain ⟨q, hq, rfl⟩ := List.mem_map.mp hp
    have := h.1 q hq
    dsimp only
    omega
  have hs : (S.map fun p => (p.1, p.2 + g)).Pairwise (fun p q => p.1 ≤ q.1) := by
    rw [List.pairwise_map]
    exact h.2.imp_of_mem fun {a b} ha hb c => by
      have := h.1 a ha
      dsimp only
      omega
  have e2 : merge (S.map fun p => (p.1, p.2 + g)) = nf (S.map fun p => (p.1, p.2 + g)) := merge_nf hp (.refl _) hs
  show filled S g = (nf (S.map fun p => (p.1, p.2 + g))).map fun p => (p.1, p.2 - g)
  rw [← e2]
  show filled S g = ((S.map fun p => (p.1, p.2 + g)).foldl mstep []).map fun p => (p.1, p.2 - g)
  rw [show ([] : List Pr) = ([] : List Pr).map (fun p => (p.1, p.2 + g)) from rfl, e, List.map_map]
  show filled S g = (filled S g).map _
  conv => lhs; rw [← List.map_id (filled S g)]
  refine List.map_congr_left fun p _ => ?_
  show p = (p.1, p.2 + g - g)
  rw [show p.2 + g - g = p.2 by omega]
theorem Stp.raw_law {s : Stp} (hs : s.good) {S : List Pr} (h : Norm S) : Pos (s.raw S) ∧ nf (s.raw S) = s.law S := by
  have k := (Stp.law_ok hs h).1
  cases s with
  | fill g =>
    have e : (Stp.fill g).raw S = (Stp.fill g).law S := filled_law h hs
    rw [e]
    exact ⟨k.1, nf_norm k⟩
  | drop d => exact ⟨k.1, nf_norm k⟩
  | widen a b =>
    obtain ⟨ha, hb⟩ : 0 ≤ a ∧ 0 ≤ b := hs
    have e : (Stp.widen a b).raw S = S.map fun p => (p.1 - a, p.2 + b) := by
      show ((S.filter fun p => decide (p.1 + -a < p.2 + b)).map fun p => (p.1 + -a, p.2 + b)) = _
      rw [List.filter_eq_self.mpr fun p hp => decide_eq_true (by have := h.1 p hp; omega)]
      rfl
    rw [e]
    refine ⟨fun p hp => ?_, rfl⟩
    obtain ⟨q, hq, rfl⟩ := List.mem_map.mp hp
    have := h.1 q hq
    dsimp only
    omega
  | trim a b =>
    obtain ⟨ha, hb⟩ : 0 ≤ a ∧ 0 ≤ b := hs
    have e : (Stp.trim a b).raw S = (Stp.trim a b).law S := by
      show ((S.filter fun p => decide (p.1 + a < p.2 + -b)).map fun p => (p.1 + a, p.2 + -b)) = (S.filter fun p => decide (a + b < p.2 - p.1)).map fun p => (p.1 + a, p.2 - b)
      congr 1
      refine List.filter_congr fun p _ => ?_
      exact decide_eq_decide.mpr (by omega)
    rw [e]
    exact ⟨k.1, nf_norm k⟩
  | shift n =>
    have e : (Stp.shift n).raw S = (Stp.shift n).law S := by
      show ((S.filter fun p => decide (p.1 + n < p.2 + n)).map fun p => (p.1 + n, p.2 + n)) = _
      rw [List.filter_eq_self.mpr fun p hp => decide_eq_true (by have := h.1 p hp; omega)]
      rfl
    rw [e]
    exact ⟨k.1, nf_norm k⟩
theorem Stp.host_law {s : Stp} (hs : s.good) {S : List Pr} (h : Norm S) : s.host S = s.law S := (Stp.raw_law hs h).2
def Line.host (l : Line) (S : List Pr) : List Pr := l.foldl (fun S s => s.host S) S
theorem Line.host_law : ∀ {l : Line}, l.good → ∀ {S : List Pr}, Norm S → l.host S = l.law S
  | [], _, _, _ => rfl
  | s :: l, hl, S, h => by
    have hs := hl s List.mem_cons_self
    show Line.host l (s.host S) = Line.law l (s.law S)
    rw [Stp.host_law hs h]
    exact Line.host_law (l := l) (fun z hz => hl z (List.mem_cons_of_mem _ hz)) (Stp.law_ok hs h).1

/-! ### heights: highest, lowest -/
def high : List Int → Int
  | [] => 0
  | w :: ws => max 0 (w + high ws)
def low : List Int → Int
  | [] => 0
  | w :: ws => min 0 (w + low ws)
theorem high_nn : ∀ ws, 0 ≤ high ws
  | [] => Int.le_refl _
  | w :: ws => by unfold high; omega
theorem low_np : ∀ ws, low ws ≤ 0
  | [] => Int.le_refl _
  | w :: ws => by unfold low; omega
theorem high_append (u v : List Int) : high (u ++ v) = max (high u) (u.sum + high v) := by
  induction u with
  | nil => have := high_nn v; simp only [List.nil_append, high, List.sum_nil]; omega
  | cons w u ih => simp only [List.cons_append, high, ih, List.sum_cons]; omega
theorem low_append (u v : List Int) : low (u ++ v) = min (low u) (u.sum + low v) := by
  induction u with
  | nil => have := low_np v; simp only [List.nil_append, low, List.sum_nil]; omega
  | cons w u ih => simp only [List.cons_append, low, ih, List.sum_cons]; omega
theorem sum_le_high : ∀ ws, ws.sum ≤ high ws
  | [] => Int.le_refl _
  | w :: ws => by have := sum_le_high ws; simp only [List.sum_cons, high]; omega
theorem low_le_sum : ∀ ws, low ws ≤ ws.sum
  | [] => Int.le_refl _
  | w :: ws => by have := low_le_sum ws; simp only [List.sum_cons, low]; omega
/-- a way that stays from nothing on -/
theorem path_up' : ∀ (ws : List Int) (m h : Int) (A : Ts), 0 ≤ h → h ≤ m → 0 ≤ h + low ws →
    path ws (Er (m - h) (Di m A)) = Er (max m (h + high ws) - (h + ws.sum)) (Di (max m (h + high ws)) A)
  | [], m, h, A, h0, hm, _ => by
    show Er (m - h) (Di m A) = _
    simp only [high, List.sum_nil]
    rw [show max m (h + 0) = m by omega, show m - (h + 0) = m - h by omega]
  | w :: ws, m, h, A, h0, hm, st => by
    simp only [low] at st
    have hl := low_np ws
    have hh := high_nn ws
    have step : mv w (Er (m - h) (Di m A)) = Er (max m (h + w) - (h + w)) (Di (max m (h + w)) A) := by
      unfold mv
      by_cases c : 0 ≤ w
      · rw [if_pos c]
        by_cases d : h + w ≤ m
        · rw [show max m (h + w) = m by omega]
          have := di_er_up (w := w) (j := m - h - w) (h := h) c (by omega) h0 A
          rw [show m - h - w + w = m - h by omega, show m - h + h = m by omega] at this
          rw [this, show m - h - w = m - (h + w) by omega]
        · rw [show max m (h + w) = h + w by omega]
          have e3 : Di m A = Di (m - h) (Di h A) := by rw [di_di (by omega) h0, show m - h + h = m by omega]
          have e4 : ∀ B : Ts, Di w B = Di (w - (m - h)) (Di (m - h) B) := fun B => by rw [di_di (by omega) (by omega), show w - (m - h) + (m - h) = w by omega]
          rw [e3, e4, di_er_di, di_di (by omega) h0, di_di (by omega) (by omega), show h + w - (h + w) = 0 by omega, er_zero, show w - (m - h) + (m - h + h) = h + w by omega]
      · rw [if_neg c, er_er (by omega) (by omega), show max m (h + w) = m by omega, show -w + (m - h) = m - (h + w) by omega]
    show path ws (mv w _) = _
    rw [step, path_up' ws (max m (h + w)) (h + w) A (by omega) (by omega) (by omega)]
    simp only [high, List.sum_cons]
    rw [show max (max m (h + w)) (h + w + high ws) = max m (h + max 0 (w + high ws)) by omega, show h + w + ws.sum = h + (w + ws.sum) by omega]
theorem path_up0 {ws : List Int} (h : low ws = 0) (A : Ts) : path ws A = Er (high ws - ws.sum) (Di (high ws) A) := by
  have := path_up' ws 0 0 A (Int.le_refl _) (Int.le_refl _) (by omega)
  rw [show (0 : Int) - 0 = 0 by omega, er_zero, di_zero] at this
  rw [this]
  have := high_nn ws
  rw [show max 0 (0 + high ws) = high ws by omega, show (0 : Int) + ws.sum = ws.sum by omega]
/-- up to n ahead of all that is below nothing -/
def firstH (n : Int) : List Int → Bool
  | [] => false
  | h :: t => if n ≤ h then true else if h < 0 then false else firstH n t
/-- the heights that swings come to -/
def hts : Int → List Int → List Int
  | h, [] => [h]
  | h, w :: ws => h :: hts (h + w) ws
theorem first_split {n : Int} (hn : 0 < n) : ∀ (ws : List Int) (h : Int), firstH n (hts h ws) = true →
    ∃ us vs, ws = us ++ vs ∧ n ≤ h + us.sum ∧ 0 ≤ h + low us ∧ high us = us.sum
  | [], h, q => by
    simp only [hts, firstH] at q
    refine ⟨[], [], rfl, ?_, ?_, rfl⟩ <;> (simp only [List.sum_nil, low]; split at q <;> first | omega | (split at q <;> cases q))
  | w :: ws, h, q => by
    simp only [hts, firstH] at q
    by_cases c : n ≤ h
    · exact ⟨[], w :: ws, rfl, by simp only [List.sum_nil]; omega, by simp only [low]; omega, rfl⟩
    · rw [if_neg c] at q
      by_cases d : h < 0
      · rw [if_pos d] at q; cases q
      · rw [if_neg d] at q
        obtain ⟨us, vs, e, h1, h2, h3⟩ := first_split hn ws (h + w) q
        refine ⟨w :: us, vs, by rw [e]; rfl, by rw [List.sum_cons]; omega, by simp only [low]; omega, ?_⟩
        simp only [high, List.sum_cons]
        omega
theorem sum_sw : ∀ l : Line, l.sw.sum = l.ends - l.starts
  | [] => rfl
  | s :: l => by
    have ih := sum_sw l
    have e1 : Line.starts (s :: l) = s.edges.1 + Line.starts l := by unfold Line.starts; rw [List.map_cons, List.sum_cons]
    have e2 : Line.sw (s :: l) = s.swings ++ Line.sw l := by unfold Line.sw; rw [List.flatMap_cons]
    have e3 : Line.ends (s :: l) = s.edges.2 + Line.ends l := by unfold Line.ends; rw [List.map_cons, List.sum_cons]
    rw [e1, e2, e3, List.sum_append, ih]
    cases s <;> simp only [Stp.swings, Stp.edges, List.sum_cons, List.sum_nil] <;> omega

/-! ### a cleaner left out -/
/-- p can be left out ahead of a join behind which q stands -/
def Spare (p q : Line) : Prop := low p.sw = 0 ∧ p.starts = 0 ∧ p.ends = 0 ∧ (high p.sw = 0 ∨ firstH (high p.sw) (hts 0 q.sw) = true)
theorem spare_law {p q : Line} (hp : p.good) (hq : q.good) (sp : Spare p q) {X Y : List Pr} (hX : Norm X) (hY : Norm Y) : q.law (nf (p.law X ++ Y)) = q.law (nf (X ++ Y)) := by
  obtain ⟨h1, h2, h3, h4⟩ := sp
  obtain ⟨n1, n2⟩ := Line.law_ok hp hX
  have e0 : p.sw.sum = 0 := by rw [sum_sw]; omega
  have ep : Set (p.law X) = Er (high p.sw) (Di (high p.sw) (Set X)) := by
    rw [n2, Line.sem_path hp, h2, sh_zero, path_up0 h1, e0, Int.sub_zero]
  have pos : ∀ {S : List Pr}, Norm S → Pos (S ++ Y) := fun {S} hS r hr => by
    rcases List.mem_append.mp hr with hr | hr
    · exact hS.1 r hr
    · exact hY.1 r hr
  have un : ∀ {S : List Pr}, Norm S → Set (nf (S ++ Y)) = Un (Set S) (Set Y) := fun {S} hS => ts_ext fun t => ((nf_ok (pos hS)).2 t).trans (has_append t S Y)
  rcases h4 with h4 | h4
  · have : p.law X = X := norm_ext n1 hX fun t => by
      have : Set (p.law X) t ↔ Set X t := by rw [ep, h4, er_zero, di_zero]
      exact this
    rw [this]
  · by_cases z : high p.sw = 0
    · have : p.law X = X := norm_ext n1 hX fun t => by
        have : Set (p.law X) t ↔ Set X t := by rw [ep, z, er_zero, di_zero]
        exact this
      rw [this]
    · have hn : 0 < high p.sw := by have := high_nn p.sw; omega
      obtain ⟨us, vs, e, k1, k2, k3⟩ := first_split hn q.sw 0 h4
      obtain ⟨a1, a2⟩ := Line.law_ok hq (nf_ok (pos n1)).1
      obtain ⟨b1, b2⟩ := Line.law_ok hq (nf_ok (pos hX)).1
      refine norm_ext a1 b1 fun t => ?_
      have lu : low us = 0 := by have := low_np us; omega
      have up : ∀ A : Ts, path us A = Di us.sum A := fun A => by rw [path_up0 lu, k3, Int.sub_self, er_zero]
      have key : ∀ A : Ts, Di us.sum (Er (high p.sw) (Di (high p.sw) A)) = Di us.sum A := fun A => by
        have e1 : ∀ B : Ts, Di us.sum B = Di (us.sum - high p.sw) (Di (high p.sw) B) := fun B => by
          rw [di_di (by omega) (by omega), show us.sum - high p.sw + high p.sw = us.sum by omega]
        rw [e1, di_er_di, ← e1]
      have goal : Set (q.law (nf (p.law X ++ Y))) = Set (q.law (nf (X ++ Y))) := by
        rw [a2, b2, Line.sem_path hq, Line.sem_path hq, e, path_append, path_append, up, up, un n1, un hX, di_un, di_un, ep, key]
      show Set _ t ↔ Set _ t
      rw [goal]
end Cs
namespace Cs
/-! ### rows that show that a cleaner cannot be left out -/
theorem nf_one {a b : Int} (h : a < b) : nf [(a, b)] = [(a, b)] := nf_norm (norm_one h)
theorem law_nil : ∀ s : Stp, s.law [] = []
  | .fill _ => rfl
  | .drop _ => rfl
  | .widen _ _ => rfl
  | .trim _ _ => rfl
  | .shift _ => rfl
theorem Line.law_nil : ∀ l : Line, l.law [] = []
  | [] => rfl
  | s :: l => by
    show Line.law l (s.law []) = []
    rw [Cs.law_nil, Line.law_nil l]
theorem Line.starts_cons (s : Stp) (l : Line) : Line.starts (s :: l) = s.edges.1 + l.starts := by unfold Line.starts; rw [List.map_cons, List.sum_cons]
theorem Line.ends_cons (s : Stp) (l : Line) : Line.ends (s :: l) = s.edges.2 + l.ends := by unfold Line.ends; rw [List.map_cons, List.sum_cons]
theorem Line.sw_cons (s : Stp) (l : Line) : Line.sw (s :: l) = s.swings ++ l.sw := by unfold Line.sw; rw [List.flatMap_cons]
/-- one span through a step -/
theorem one_step {s : Stp} (hs : s.good) {a b : Int} (h : a < b) : s.law [(a, b)] = if 0 < b - a + low s.swings then [(a + s.edges.1, b + s.edges.2)] else [] := by
  cases s with
  | fill g =>
    have hg : 0 ≤ g := hs
    show (nf [(a, b + g)]).map (fun p : Pr => (p.1, p.2 - g)) = _
    rw [nf_one (by omega)]
    simp only [Stp.swings, low, Stp.edges, List.map_cons, List.map_nil]
    rw [if_pos (by omega), show b + g - g = b + 0 by omega, show a = a + 0 by omega]
    simp
  | drop d =>
    have hd : 0 ≤ d := hs
    show [(a, b)].filter (fun p : Pr => decide (d < p.2 - p.1)) = _
    simp only [Stp.swings, low, Stp.edges]
    by_cases c : d < b - a
    · rw [if_pos (by omega), List.filter_cons_of_pos (by simpa using c)]
      simp
    · rw [if_neg (by omega), List.filter_cons_of_neg (by simpa using c)]
      rfl
  | widen x y =>
    obtain ⟨hx, hy⟩ : 0 ≤ x ∧ 0 ≤ y := hs
    show nf [(a - x, b + y)] = _
    rw [nf_one (by omega)]
    simp only [Stp.swings, low, Stp.edges]
    rw [if_pos (by omega)]
    rfl
  | trim x y =>
    obtain ⟨hx, hy⟩ : 0 ≤ x ∧ 0 ≤ y := hs
    show ([(a, b)].filter _).map _ = _
    simp only [Stp.swings, low, Stp.edges]
    by_cases c : x + y < b - a
    · rw [if_pos (by omega), List.filter_cons_of_pos (by simpa using c)]
      rfl
    · rw [if_neg (by omega), List.filter_cons_of_neg (by simpa using c)]
      rfl
  | shift n =>
    show [(a + n, b + n)] = _
    simp only [Stp.swings, low, Stp.edges]
    rw [if_pos (by omega)]
theorem sum_swings (s : Stp) : s.swings.sum = s.edges.2 - s.edges.1 := by
  cases s <;> simp only [Stp.swings, Stp.edges, List.sum_cons, List.sum_nil] <;> omega
/-- one span through all steps -/
theorem one_law : ∀ {l : Line}, l.good → ∀ {a b : Int}, a < b → l.law [(a, b)] = if 0 < b - a + low l.sw then [(a + l.starts, b + l.ends)] else []
  | [], _, a, b, h => by
    show [(a, b)] = _
    rw [if_pos (by simp only [Line.sw, List.flatMap_nil, low]; omega)]
    simp [Line.starts, Line.ends]
  | s :: l, hl, a, b, h => by
    have hs := hl s List.mem_cons_self
    show Line.law l (s.law [(a, b)]) = _
    have hsum := sum_swings s
    have ll := low_np (Line.sw l)
    rw [one_step hs h, Line.sw_cons, low_append, Line.starts_cons, Line.ends_cons]
    by_cases c : 0 < b - a + low s.swings
    · have := low_le_sum s.swings
      rw [if_pos c, one_law (l := l) (fun z hz => hl z (List.mem_cons_of_mem _ hz)) (by omega)]
      by_cases d : 0 < b + s.edges.2 - (a + s.edges.1) + low (Line.sw l)
      · rw [if_pos d, if_pos (by omega), show a + s.edges.1 + Line.starts l = a + (s.edges.1 + Line.starts l) by omega, show b + s.edges.2 + Line.ends l = b + (s.edges.2 + Line.ends l) by omega]
      · rw [if_neg d, if_neg (by omega)]
    · rw [if_neg c, if_neg (by omega), Line.law_nil]
/-- a comb -/
def cb (s L n : Int) : Nat → List Pr
  | 0 => []
  | M + 1 => (s, s + L) :: cb (s + n + 1) L n M
theorem cb_ge : ∀ (M : Nat) (s L n : Int), 0 ≤ n → ∀ p ∈ cb s L n M, s ≤ p.1
  | 0, _, _, _, _, _, h => by cases h
  | M + 1, s, L, n, hn, p, h => by
    rcases List.mem_cons.mp h with e | h
    · rw [e]; exact Int.le_refl _
    · have := cb_ge M (s + n + 1) L n hn p h
      omega
theorem cb_len : ∀ (M : Nat) (s L n : Int), (cb s L n M).length = M
  | 0, _, _, _ => rfl
  | M + 1, s, L, n => by
    show (cb (s + n + 1) L n M).length + 1 = M + 1
    rw [cb_len M]
theorem cb_norm : ∀ (M : Nat) (s L n : Int), 1 ≤ L → L ≤ n → Norm (cb s L n M)
  | 0, _, _, _, _, _ => norm_nil
  | M + 1, s, L, n, h1, h2 => by
    refine norm_cons.mpr ⟨by dsimp only; omega, fun q hq => ?_, cb_norm M _ _ _ h1 h2⟩
    have := cb_ge M (s + n + 1) L n (by omega) q hq
    dsimp only
    omega
theorem cb_map {f : Pr → Pr} {u v : Int} (hf : ∀ p, f p = (p.1 + u, p.2 + v)) : ∀ (M : Nat) (s L n : Int), (cb s L n M).map f = cb (s + u) (L + v - u) n M
  | 0, _, _, _ => rfl
  | M + 1, s, L, n => by
    show f (s, s + L) :: (cb (s + n + 1) L n M).map f = (s + u, s + u + (L + v - u)) :: cb (s + u + n + 1) (L + v - u) n M
    rw [hf, cb_map hf M, show s + n + 1 + u = s + u + n + 1 by omega]
    dsimp only
    rw [show s + u + (L + v - u) = s + L + v by omega]
theorem cb_filter {f : Pr → Bool} {b : Bool} {L : Int} (hf : ∀ p : Pr, p.2 - p.1 = L → f p = b) : ∀ (M : Nat) (s n : Int), (cb s L n M).filter f = if b then cb s L n M else []
  | 0, _, _ => by cases b <;> rfl
  | M + 1, s, n => by
    have e := hf (s, s + L) (by dsimp only; omega)
    show ((s, s + L) :: cb (s + n + 1) L n M).filter f = _
    cases b with
    | true => rw [List.filter_cons_of_pos e, cb_filter hf M]; rfl
    | false => rw [List.filter_cons_of_neg (by rw [e]; decide), cb_filter hf M]; rfl
/-- a comb whose gaps are never filled up goes, or stays a comb -/
theorem comb_law {n : Int} (M : Nat) : ∀ {l : Line}, l.good → ∀ (s h : Int), 0 ≤ h → h < n → firstH n (hts h l.sw) = false →
    l.law (cb s (1 + h) n M) = [] ∨ ∃ s' L', 1 ≤ L' ∧ L' ≤ n ∧ l.law (cb s (1 + h) n M) = cb s' L' n M
  | [], _, s, h, h0, hn, _ => .inr ⟨s, 1 + h, by omega, by omega, rfl⟩
  | st :: l, hl, s, h, h0, hn, q => by
    have hs := hl st List.mem_cons_self
    have hl' : Line.good l := fun z hz => hl z (List.mem_cons_of_mem _ hz)
    rw [Line.sw_cons] at q
    show Line.law l (st.law (cb s (1 + h) n M)) = [] ∨ ∃ s' L', 1 ≤ L' ∧ L' ≤ n ∧ Line.law l (st.law (cb s (1 + h) n M)) = cb s' L' n M
    cases st with
    | fill g =>
      have hg : 0 ≤ g := hs
      simp only [Stp.swings, List.cons_append, List.nil_append, hts, firstH] at q
      rw [if_neg (by omega), if_neg (by omega)] at q
      split at q
      · cases q
      · rw [if_neg (by omega), show h + g + -g = h by omega] at q
        have e : (Stp.fill g).law (cb s (1 + h) n M) = cb s (1 + h) n M := by
          show (nf ((cb s (1 + h) n M).map fun p => (p.1, p.2 + g))).map _ = _
          rw [cb_map (u := 0) (v := g) (fun p => by rw [Int.add_zero]) M, nf_norm (cb_norm _ _ _ _ (by omega) (by omega)), cb_map (u := 0) (v := -g) (fun p => by rw [Int.add_zero, Int.sub_eq_add_neg]) M]
          rw [show s + 0 + 0 = s by omega, show 1 + h + g - 0 + -g - 0 = 1 + h by omega]
        rw [e]
        exact comb_law M hl' s h h0 hn q
    | drop d =>
      have hd : 0 ≤ d := hs
      simp only [Stp.swings, List.cons_append, List.nil_append, hts, firstH] at q
      rw [if_neg (by omega), if_neg (by omega), if_neg (by omega)] at q
      have e : (Stp.drop d).law (cb s (1 + h) n M) = if decide (d < 1 + h) then cb s (1 + h) n M else [] :=
        cb_filter (b := decide (d < 1 + h)) (fun p hp => by rw [hp]) M s n
      rw [e]
      by_cases c : d < 1 + h
      · rw [if_neg (by omega), show h + -d + d = h by omega] at q
        rw [decide_eq_true c, if_pos rfl]
        exact comb_law M hl' s h h0 hn q
      · rw [decide_eq_false c, if_neg Bool.false_ne_true]
        exact .inl (Line.law_nil l)
    | widen x y =>
      obtain ⟨hx, hy⟩ : 0 ≤ x ∧ 0 ≤ y := hs
      simp only [Stp.swings, List.cons_append, List.nil_append, hts, firstH] at q
      rw [if_neg (by omega), if_neg (by omega)] at q
      have c : h + (x + y) < n := by
        apply Classical.byContradiction
        intro c
        have : firstH n (hts (h + (x + y)) (Line.sw l)) = true := by
          cases hw : Line.sw l with
          | nil => simp only [hts, firstH]; rw [if_pos (by omega)]
          | cons w ws => simp only [hts, firstH]; rw [if_pos (by omega)]
        rw [this] at q
        cases q
      have e : (Stp.widen x y).law (cb s (1 + h) n M) = cb (s + -x) (1 + (h + (x + y))) n M := by
        show nf ((cb s (1 + h) n M).map fun p => (p.1 - x, p.2 + y)) = _
        rw [cb_map (u := -x) (v := y) (fun p => by rw [Int.sub_eq_add_neg]) M, show 1 + h + y - -x = 1 + (h + (x + y)) by omega]
        exact nf_norm (cb_norm _ _ _ _ (by omega) (by omega))
      rw [e]
      exact comb_law M hl' _ _ (by omega) c q
    | trim x y =>
      obtain ⟨hx, hy⟩ : 0 ≤ x ∧ 0 ≤ y := hs
      simp only [Stp.swings, List.cons_append, List.nil_append, hts, firstH] at q
      rw [if_neg (by omega), if_neg (by omega)] at q
      have e : (Stp.trim x y).law (cb s (1 + h) n M) = if decide (x + y < 1 + h) then cb (s + x) (1 + (h + -(x + y))) n M else [] := by
        show ((cb s (1 + h) n M).filter fun p => decide (x + y < p.2 - p.1)).map _ = _
        rw [cb_filter (b := decide (x + y < 1 + h)) (fun p hp => by rw [hp]) M s n]
        cases decide (x + y < 1 + h) with
        | true =>
          rw [if_pos rfl, if_pos rfl, cb_map (u := x) (v := -y) (fun p => by rw [Int.sub_eq_add_neg]) M, show 1 + h + -y - x = 1 + (h + -(x + y)) by omega]
        | false => rfl
      rw [e]
      by_cases c : x + y < 1 + h
      · rw [decide_eq_true c, if_pos rfl]
        exact comb_law M hl' _ _ (by omega) (by omega) q
      · rw [decide_eq_false c, if_neg Bool.false_ne_true]
        exact .inl (Line.law_nil l)
    | shift k =>
      simp only [Stp.swings, List.nil_append] at q
      have e : (Stp.shift k).law (cb s (1 + h) n M) = cb (s + k) (1 + h) n M := by
        show (cb s (1 + h) n M).map _ = _
        rw [cb_map (u := k) (v := k) (fun p => rfl) M, show 1 + h + k - k = 1 + h by omega]
      rw [e]
      exact comb_law M hl' _ _ h0 hn q
/-- a comb filled is one -/
theorem cb_has : ∀ (M : Nat) (s L n t : Int), 0 < L → L ≤ n → (Has t (cb s L n M) ↔ ∃ i : Nat, i < M ∧ s + i * (n + 1) ≤ t ∧ t < s + i * (n + 1) + L)
  | 0, _, _, _, t, _, _ => ⟨fun h => absurd h (has_nil t), fun ⟨i, h, _⟩ => by omega⟩
  | M + 1, s, L, n, t, h1, h2 => by
    show Has t ((s, s + L) :: cb (s + n + 1) L n M) ↔ _
    rw [has_cons, cb_has M _ _ _ _ h1 h2]
    have e : ∀ i : Nat, s + n + 1 + (i : Int) * (n + 1) = s + ((i + 1 : Nat) : Int) * (n + 1) := fun i => by
      rw [Int.natCast_add, Int.add_mul]
      omega
    constructor
    · rintro (h | ⟨i, hi, a, b⟩)
      · exact ⟨0, by omega, by dsimp only at h; simp; omega, by dsimp only at h; simp; omega⟩
      · exact ⟨i + 1, by omega, by rw [← e]; exact a, by rw [← e]; exact b⟩
    · rintro ⟨i, hi, a, b⟩
      cases i with
      | zero => left; simp at a b; dsimp only; omega
      | succ i => exact .inr ⟨i, by omega, by rw [e]; exact a, by rw [e]; exact b⟩
theorem cb_filled (M : Nat) {n : Int} (hn : 1 ≤ n) (t : Int) : Er n (Di n (Set (cb 0 1 n (M + 1)))) t ↔ 0 ≤ t ∧ t < M * (n + 1) + 1 := by
  have d : ∀ t, Di n (Set (cb 0 1 n (M + 1))) t ↔ 0 ≤ t ∧ t < M * (n + 1) + (n + 1) := fun t => by
    have hm : (0 : Int) ≤ (M : Int) * (n + 1) := Int.mul_nonneg (by omega) (by omega)
    constructor
    · rintro ⟨k, k1, k2, h⟩
      obtain ⟨i, hi, a, b⟩ := (cb_has (M + 1) 0 1 n (t - k) (by omega) hn).mp h
      have h0 : (0 : Int) ≤ (i : Int) * (n + 1) := Int.mul_nonneg (by omega) (by omega)
      have h2 : (i : Int) * (n + 1) ≤ (M : Int) * (n + 1) := Int.mul_le_mul_of_nonneg_right (by omega) (by omega)
      omega
    · rintro ⟨a, b⟩
      have hd : 0 ≤ t / (n + 1) := Int.ediv_nonneg a (by omega)
      have hm0 : 0 ≤ t % (n + 1) := Int.emod_nonneg t (by omega)
      have hm1 : t % (n + 1) < n + 1 := Int.emod_lt_of_pos t (by omega)
      have he : (n + 1) * (t / (n + 1)) + t % (n + 1) = t := Int.mul_ediv_add_emod t (n + 1)
      have hq : t / (n + 1) < M + 1 := by
        have : t < (M + 1) * (n + 1) := by rw [Int.add_mul, Int.one_mul]; omega
        exact Int.ediv_lt_of_lt_mul (by omega) this
      refine ⟨t % (n + 1), hm0, by omega, (cb_has (M + 1) 0 1 n _ (by omega) hn).mpr ⟨(t / (n + 1)).toNat, by omega, ?_, ?_⟩⟩
      · rw [Int.toNat_of_nonneg hd, Int.mul_comm]; omega
      · rw [Int.toNat_of_nonneg hd, Int.mul_comm]; omega
  constructor
  · intro h
    have h0 := (d _).mp (h 0 (by omega) (by omega))
    have h1 := (d _).mp (h n (by omega) (by omega))
    omega
  · rintro ⟨a, b⟩ k k1 k2
    exact (d _).mpr (by omega)
/-- what the program shows -/
def many (p q : Line) : Int := 2 + (-low q.sw + high p.sw) / (1 + high p.sw)
def shown (p q : Line) : List Pr × List Pr :=
  if 0 < -low p.sw then ([(0, -low p.sw)], [(-low p.sw, 2 * -low p.sw + (1 + -low p.sw + -low q.sw))])
  else if p.starts ≠ 0 ∨ p.ends ≠ 0 then ([(0, 1 + -low q.sw)], [])
  else (cb 0 1 (high p.sw) (many p q).toNat, [])
theorem many_ge {p q : Line} (hn : 0 < high p.sw) : -low q.sw ≤ ((many p q) - 1) * (high p.sw + 1) ∧ 2 ≤ many p q := by
  have hq := low_np q.sw
  unfold many
  have hm0 := Int.emod_nonneg (-low q.sw + high p.sw) (show 1 + high p.sw ≠ 0 by omega)
  have hm1 := Int.emod_lt_of_pos (-low q.sw + high p.sw) (show 0 < 1 + high p.sw by omega)
  have he := Int.mul_ediv_add_emod (-low q.sw + high p.sw) (1 + high p.sw)
  have hd : 0 ≤ (-low q.sw + high p.sw) / (1 + high p.sw) := Int.ediv_nonneg (by omega) (by omega)
  refine ⟨?_, by omega⟩
  have e : (2 + (-low q.sw + high p.sw) / (1 + high p.sw) - 1) * (high p.sw + 1) = (1 + high p.sw) * ((-low q.sw + high p.sw) / (1 + high p.sw)) + (high p.sw + 1) := by
    rw [show 2 + (-low q.sw + high p.sw) / (1 + high p.sw) - 1 = (-low q.sw + high p.sw) / (1 + high p.sw) + 1 by omega, Int.add_mul, Int.one_mul, Int.mul_comm, Int.add_comm (high p.sw) 1]
  rw [e]
  omega
theorem shown_norm {p q : Line} (sp : ¬ Spare p q) : Norm (shown p q).1 ∧ Norm (shown p q).2 := by
  have hp := low_np p.sw
  have hq := low_np q.sw
  unfold shown
  by_cases c : 0 < -low p.sw
  · rw [if_pos c]
    exact ⟨norm_one c, norm_one (by omega)⟩
  · rw [if_neg c]
    by_cases d : p.starts ≠ 0 ∨ p.ends ≠ 0
    · rw [if_pos d]
      exact ⟨norm_one (by omega), norm_nil⟩
    · rw [if_neg d]
      refine ⟨?_, norm_nil⟩
      by_cases e : high p.sw = 0
      · exact absurd ⟨by omega, by omega, by omega, .inl e⟩ sp
      · have := high_nn p.sw
        exact cb_norm _ _ _ _ (by omega) (by omega)
theorem shown_parts {p q : Line} (hp : p.good) (hq : q.good) (sp : ¬ Spare p q) :
    q.law (nf (p.law (shown p q).1 ++ (shown p q).2)) ≠ q.law (nf ((shown p q).1 ++ (shown p q).2)) := by
  have np := low_np p.sw
  have nq := low_np q.sw
  have sh := shown_norm sp
  unfold shown at sh ⊢
  by_cases c : 0 < -low p.sw
  · rw [if_pos c] at sh ⊢
    have e1 : p.law [(0, -low p.sw)] = [] := by rw [one_law hp c, if_neg (by omega)]
    have e2 : nf ([(0, -low p.sw)] ++ [(-low p.sw, 2 * -low p.sw + (1 + -low p.sw + -low q.sw))]) = [(0, 2 * -low p.sw + (1 + -low p.sw + -low q.sw))] := by
      obtain ⟨a1, a2⟩ := nf_ok (L := [(0, -low p.sw)] ++ [(-low p.sw, 2 * -low p.sw + (1 + -low p.sw + -low q.sw))]) (fun r hr => by
        rcases List.mem_append.mp hr with hr | hr <;> (rw [List.mem_singleton.mp hr]; dsimp only; omega))
      refine norm_ext a1 (norm_one (by omega)) fun t => (a2 t).trans ?_
      rw [has_append, has_one, has_one, has_one]
      omega
    dsimp only
    rw [e1, e2, List.nil_append, nf_one (by omega), one_law hq (by omega), one_law hq (by omega), if_pos (by omega), if_pos (by omega)]
    intro z
    have := congrArg (fun l : List Pr => l.map (·.1)) z
    simp at this
    omega
  · rw [if_neg c] at sh ⊢
    by_cases d : p.starts ≠ 0 ∨ p.ends ≠ 0
    · rw [if_pos d] at sh ⊢
      have hs := sum_sw p
      have hl := low_le_sum p.sw
      dsimp only
      rw [List.append_nil, List.append_nil, nf_one (by omega), one_law hp (by omega), if_pos (by omega), nf_one (by omega), one_law hq (by omega), one_law hq (by omega), if_pos (by omega), if_pos (by omega)]
      intro z
      have z1 := congrArg (fun l : List Pr => l.map (·.1)) z
      have z2 := congrArg (fun l : List Pr => l.map (·.2)) z
      simp at z1 z2
      omega
    · rw [if_neg d] at sh ⊢
      have hn : 0 < high p.sw := by
        have := high_nn p.sw
        by_cases e : high p.sw = 0
        · exact absurd ⟨by omega, by omega, by omega, .inl e⟩ sp
        · omega
      have hf : firstH (high p.sw) (hts 0 q.sw) = false := by
        cases e : firstH (high p.sw) (hts 0 q.sw) with
        | false => rfl
        | true => exact absurd ⟨by omega, by omega, by omega, .inr e⟩ sp
      obtain ⟨m1, m2⟩ := many_ge (q := q) hn
      have em : ∃ M : Nat, (many p q).toNat = M + 1 ∧ (M : Int) = many p q - 1 := ⟨(many p q - 1).toNat, by omega, by omega⟩
      obtain ⟨M, e1, e2⟩ := em
      dsimp only at sh ⊢
      rw [List.append_nil, List.append_nil]
      obtain ⟨n1, n2⟩ := Line.law_ok hp sh.1
      rw [nf_norm sh.1, nf_norm n1]
      have e0 : p.sw.sum = 0 := by rw [sum_sw]; omega
      have ep : p.law (cb 0 1 (high p.sw) (many p q).toNat) = [(0, M * (high p.sw + 1) + 1)] := by
        have hm : (0 : Int) ≤ (M : Int) * (high p.sw + 1) := Int.mul_nonneg (by omega) (by omega)
        refine norm_ext n1 (norm_one (by omega)) fun t => ?_
        have : Set (p.law (cb 0 1 (high p.sw) (many p q).toNat)) t ↔ 0 ≤ t ∧ t < M * (high p.sw + 1) + 1 := by
          rw [n2, Line.sem_path hp, show p.starts = 0 by omega, sh_zero, path_up0 (by omega), e0, Int.sub_zero, e1]
          exact cb_filled M (by omega) t
        rw [has_one]
        exact this
      have hm : (0 : Int) ≤ (M : Int) * (high p.sw + 1) := Int.mul_nonneg (by omega) (by omega)
      rw [ep, one_law hq (by omega), if_pos (by rw [e2]; omega)]
      intro z
      have zl := congrArg List.length z
      rcases comb_law (n := high p.sw) (many p q).toNat hq 0 0 (by omega) hn hf with k | ⟨s', L', _, _, k⟩
      · rw [show (1 : Int) + 0 = 1 from rfl] at k
        rw [k] at zl
        cases zl
      · rw [show (1 : Int) + 0 = 1 from rfl] at k
        rw [k, cb_len] at zl
        simp at zl
        omega
end Cs
namespace Cs
/-! ### words: runs of letters (true: fill, false: drop), as the program makes them; letters as the law spells them -/
abbrev Run := Bool × Int
def pmax (i j : Int) : Int := if j > i then j else i
def pmin (i j : Int) : Int := if j < i then j else i
theorem pmax_eq (i j : Int) : pmax i j = max i j := by unfold pmax; split <;> omega
theorem pmin_eq (i j : Int) : pmin i j = min i j := by unfold pmin; split <;> omega
def rawRuns : Int → Int → List Int → List Run
  | _, _, [] => []
  | hi, lo, h :: t => (true, h - hi) :: (false, lo - h) :: rawRuns (pmax hi h) (pmin lo h) t
def rstep (F : List Run) (r : Run) : List Run :=
  match F.getLast? with
  | some q => if 0 < r.2 ∧ q.1 = r.1 then F.dropLast ++ [(r.1, q.2 + r.2)] else if 0 < r.2 then F ++ [r] else F
  | none => if 0 < r.2 then F ++ [r] else F
def together (R : List Run) : List Run := R.foldl rstep []
def heights (l : Line) : List Int := hts 0 l.sw
def along (hs : List Int) : List Run := together (rawRuns 0 0 hs)
def word (l : Line) : List Run := along (heights l)
def lettersOf (k : Bool) (W : List Run) : Int := ((W.filter fun r => r.1 == k).map (·.2)).sum
def fills (l : Line) : Int := lettersOf true (word l)
def drops (l : Line) : Int := lettersOf false (word l)
/-- how many of the other letters stand ahead of a letter; none: there is no such letter -/
def aheadM (kind : Bool) : List Run → Int → Int → Option Int
  | [], _, _ => none
  | (own, many) :: r, left, others => if own ≠ kind then aheadM kind r left (others + many) else if 0 < left ∧ left ≤ many then some others else aheadM kind r (left - many) others
def fillFirst (q : Line) (number below : Int) : Bool :=
  if number = 0 then true else match aheadM true (word q) number 0 with
    | some o => decide (o < below)
    | none => false
def spareM (p q : Line) : Bool := decide (drops p = 0) && (decide (p.starts = 0) && (decide (p.ends = 0) && fillFirst q (fills p) 1))
/-! #### letters one by one -/
def exp (W : List Run) : List Bool := W.flatMap fun r => List.replicate r.2.toNat r.1
def RPos (W : List Run) : Prop := ∀ r ∈ W, 0 < r.2
theorem exp_append (U W : List Run) : exp (U ++ W) = exp U ++ exp W := List.flatMap_append ..
theorem exp_cons (r : Run) (W : List Run) : exp (r :: W) = List.replicate r.2.toNat r.1 ++ exp W := List.flatMap_cons ..
theorem exp_one (r : Run) : exp [r] = List.replicate r.2.toNat r.1 := by rw [exp_cons]; exact List.append_nil _
theorem rstep_ok {F : List Run} (hF : RPos F) (r : Run) : RPos (rstep F r) ∧ exp (rstep F r) = exp F ++ exp [r] := by
  have z : ¬ 0 < r.2 → exp [r] = [] := fun h => by rw [exp_one, show r.2.toNat = 0 by omega]; rfl
  have snoc : 0 < r.2 → RPos (F ++ [r]) ∧ exp (F ++ [r]) = exp F ++ exp [r] := fun h => ⟨fun x hx => by
    rcases List.mem_append.mp hx with hx | hx
    · exact hF x hx
    · rw [List.mem_singleton.mp hx]; exact h, exp_append ..⟩
  rcases snoc_cases F with rfl | ⟨i, q, rfl⟩
  · show RPos (if 0 < r.2 then [r] else []) ∧ exp (if 0 < r.2 then [r] else []) = _
    by_cases c : 0 < r.2
    · rw [if_pos c]; exact snoc c
    · rw [if_neg c, z c]; exact ⟨fun x hx => (by cases hx), rfl⟩
  · unfold rstep
    rw [List.getLast?_concat]
    dsimp only
    rw [List.dropLast_concat]
    by_cases c : 0 < r.2 ∧ q.1 = r.1
    · rw [if_pos c]
      have hq := hF q (List.mem_append_right _ (List.mem_singleton.mpr rfl))
      refine ⟨fun x hx => ?_, ?_⟩
      · rcases List.mem_append.mp hx with hx | hx
        · exact hF x (List.mem_append_left _ hx)
        · rw [List.mem_singleton.mp hx]
          have := c.1
          dsimp only
          omega
      · rw [exp_append, exp_append, exp_one, exp_one, exp_one, List.append_assoc, c.2, List.replicate_append_replicate]
        have := c.1
        rw [show (q.2 + r.2).toNat = q.2.toNat + r.2.toNat by omega]
    · rw [if_neg c]
      by_cases d : 0 < r.2
      · rw [if_pos d]; exact snoc d
      · rw [if_neg d, z d, List.append_nil]; exact ⟨hF, rfl⟩
theorem together_foldl : ∀ (R F : List Run), RPos F → RPos (R.foldl rstep F) ∧ exp (R.foldl rstep F) = exp F ++ exp R
  | [], F, h => ⟨h, (List.append_nil _).symm⟩
  | r :: R, F, h => by
    obtain ⟨h1, h2⟩ := rstep_ok h r
    obtain ⟨h3, h4⟩ := together_foldl R (rstep F r) h1
    refine ⟨h3, ?_⟩
    rw [List.foldl_cons, h4, h2, exp_one, exp_cons, List.append_assoc]
theorem together_ok (R : List Run) : RPos (together R) ∧ exp (together R) = exp R := by
  obtain ⟨h1, h2⟩ := together_foldl R [] fun r hr => by cases hr
  exact ⟨h1, h2⟩
/-- the letters by the law -/
def spell : Int → Int → List Int → List Bool
  | _, _, [] => []
  | hi, lo, h :: t => List.replicate (h - hi).toNat true ++ (List.replicate (lo - h).toNat false ++ spell (pmax hi h) (pmin lo h) t)
def spelt (l : Line) : List Bool := spell 0 0 (heights l)
theorem exp_raw : ∀ (hs : List Int) (hi lo : Int), exp (rawRuns hi lo hs) = spell hi lo hs
  | [], _, _ => rfl
  | h :: t, hi, lo => by
    show exp ((true, h - hi) :: (false, lo - h) :: rawRuns (pmax hi h) (pmin lo h) t) = _
    rw [exp_cons, exp_cons, exp_raw t]
    rfl
theorem word_exp (l : Line) : RPos (word l) ∧ exp (word l) = spelt l := by
  obtain ⟨h1, h2⟩ := together_ok (rawRuns 0 0 (heights l))
  exact ⟨h1, h2.trans (exp_raw _ _ _)⟩
theorem letters_count (k : Bool) : ∀ {W : List Run}, RPos W → lettersOf k W = ((exp W).count k : Nat)
  | [], _ => rfl
  | r :: W, h => by
    have hr := h r List.mem_cons_self
    have ih := letters_count k (W := W) fun x hx => h x (List.mem_cons_of_mem _ hx)
    rw [exp_cons, List.count_append, List.count_replicate]
    unfold lettersOf at ih ⊢
    by_cases c : r.1 == k
    · rw [List.filter_cons_of_pos (p := fun r : Run => r.1 == k) c, List.map_cons, List.sum_cons, ih, if_pos c]
      omega
    · rw [List.filter_cons_of_neg (p := fun r : Run => r.1 == k) c, ih, if_neg c]
      omega
theorem spell_count : ∀ (ws : List Int) (hi lo h : Int), h ≤ hi → lo ≤ h →
    (((spell hi lo (hts h ws)).count true : Nat) : Int) = max 0 (h + high ws - hi) ∧ (((spell hi lo (hts h ws)).count false : Nat) : Int) = max 0 (lo - (h + low ws))
  | [], hi, lo, h, h1, h2 => by
    simp only [hts, spell, high, low]
    rw [show (h - hi).toNat = 0 by omega, show (lo - h).toNat = 0 by omega]
    simp
    omega
  | w :: ws, hi, lo, h, h1, h2 => by
    have hh := high_nn ws
    have hl := low_np ws
    have e : spell hi lo (hts h (w :: ws)) = spell hi lo (hts (h + w) ws) := by
      simp only [hts, spell]
      rw [show (h - hi).toNat = 0 by omega, show (lo - h).toNat = 0 by omega]
      have e1 : pmax hi h = hi := by unfold pmax; split <;> omega
      have e2 : pmin lo h = lo := by unfold pmin; split <;> omega
      rw [e1, e2]
      rfl
    rw [e]
    have step : ∀ ws : List Int, spell hi lo (hts (h + w) ws) = List.replicate (h + w - hi).toNat true ++ (List.replicate (lo - (h + w)).toNat false ++ spell (pmax hi (h + w)) (pmin lo (h + w)) (hts (h + w) ws)) := fun ws => by
      have e3 : pmax (pmax hi (h + w)) (h + w) = pmax hi (h + w) := by simp only [pmax_eq]; omega
      have e4 : pmin (pmin lo (h + w)) (h + w) = pmin lo (h + w) := by simp only [pmin_eq]; omega
      have e5 : (h + w - pmax hi (h + w)).toNat = 0 := by unfold pmax; split <;> omega
      have e6 : (pmin lo (h + w) - (h + w)).toNat = 0 := by unfold pmin; split <;> omega
      cases ws with
      | nil => simp only [hts, spell]; rw [e5, e6]; rfl
      | cons v vs => simp only [hts, spell]; rw [e3, e4, e5, e6]; rfl
    rw [step ws]
    obtain ⟨i1, i2⟩ := spell_count ws (pmax hi (h + w)) (pmin lo (h + w)) (h + w) (by unfold pmax; split <;> omega) (by unfold pmin; split <;> omega)
    rw [List.count_append, List.count_append, List.count_append, List.count_append, List.count_replicate, List.count_replicate, List.count_replicate, List.count_replicate]
    simp only [high, low]
    have e7 : pmax hi (h + w) = max hi (h + w) := by unfold pmax; split <;> omega
    have e8 : pmin lo (h + w) = min lo (h + w) := by unfold pmin; split <;> omega
    rw [e7, e8] at i1 i2
    rw [e7, e8]
    simp
    constructor <;> omega
theorem fills_high (l : Line) : fills l = high l.sw := by
  have := (spell_count l.sw 0 0 0 (Int.le_refl _) (Int.le_refl _)).1
  have hh := high_nn l.sw
  unfold fills
  rw [letters_count true (word_exp l).1, (word_exp l).2]
  unfold spelt heights
  omega
theorem drops_low (l : Line) : drops l = -low l.sw := by
  have := (spell_count l.sw 0 0 0 (Int.le_refl _) (Int.le_refl _)).2
  have hl := low_np l.sw
  unfold drops
  rw [letters_count false (word_exp l).1, (word_exp l).2]
  unfold spelt heights
  omega
/-- the first letters are so many fills -/
def firstB : List Bool → Nat → Bool
  | _, 0 => true
  | [], _ + 1 => false
  | true :: l, n + 1 => firstB l n
  | false :: _, _ + 1 => false
theorem firstB_rep : ∀ (k n : Nat) (l : List Bool), k ≤ n → firstB (List.replicate k true ++ l) n = firstB l (n - k)
  | 0, n, l, _ => rfl
  | k + 1, 0, l, h => by omega
  | k + 1, n + 1, l, h => by
    show firstB (List.replicate k true ++ l) n = _
    rw [firstB_rep k n l (by omega), show n + 1 - (k + 1) = n - k by omega]
theorem firstB_rep2 : ∀ (k n : Nat) (l : List Bool), n ≤ k → firstB (List.replicate k true ++ l) n = true
  | k, 0, l, _ => by cases h : List.replicate k true ++ l <;> rfl
  | 0, n + 1, l, h => by omega
  | k + 1, n + 1, l, h => firstB_rep2 k n l (by omega)
theorem firstB_drop {k n : Nat} (l : List Bool) (hk : 0 < k) (hn : 0 < n) : firstB (List.replicate k false ++ l) n = false := by
  cases k with
  | zero => omega
  | succ k =>
    cases n with
    | zero => omega
    | succ n => rfl
theorem ahead_ge (kind : Bool) : ∀ {W : List Run}, RPos W → ∀ (left others o : Int), aheadM kind W left others = some o → others ≤ o
  | [], _, _, _, _, h => by cases h
  | r :: W, hW, left, others, o, h => by
    have hr := hW r List.mem_cons_self
    have hW' : RPos W := fun x hx => hW x (List.mem_cons_of_mem _ hx)
    obtain ⟨own, many⟩ := r
    simp only [aheadM] at h
    split at h
    · have := ahead_ge kind hW' left (others + many) o h
      dsimp only at hr
      omega
    · split at h
      · have := Option.some.inj h; omega
      · exact ahead_ge kind hW' _ _ _ h
theorem ahead_first : ∀ {W : List Run}, RPos W → ∀ left : Int, 0 < left →
    (match aheadM true W left 0 with | some o => decide (o < 1) | none => false) = firstB (exp W) left.toNat
  | [], _, left, h => by
    show false = firstB [] left.toNat
    cases e : left.toNat with
    | zero => omega
    | succ n => rfl
  | r :: W, hW, left, h => by
    have hr := hW r List.mem_cons_self
    have hW' : RPos W := fun x hx => hW x (List.mem_cons_of_mem _ hx)
    obtain ⟨own, many⟩ := r
    dsimp only at hr
    rw [exp_cons]
    dsimp only
    simp only [aheadM]
    cases own with
    | false =>
      rw [if_pos (by decide), firstB_drop _ (by omega) (by omega)]
      cases e : aheadM true W left (0 + many) with
      | none => rfl
      | some o =>
        have := ahead_ge true hW' _ _ _ e
        exact decide_eq_false (by omega)
    | true =>
      rw [if_neg (by decide)]
      by_cases c : 0 < left ∧ left ≤ many
      · rw [if_pos c, firstB_rep2 _ _ _ (by omega)]
        rfl
      · rw [if_neg c, firstB_rep _ _ _ (by omega), show left.toNat - many.toNat = (left - many).toNat by omega]
        exact ahead_first hW' (left - many) (by omega)
theorem firstB_H {n : Int} : ∀ (hs : List Int) (hi : Int), 0 ≤ hi → hi < n → firstB (spell hi 0 hs) (n - hi).toNat = firstH n hs
  | [], hi, h0, hn => by
    show firstB [] (n - hi).toNat = false
    cases e : (n - hi).toNat with
    | zero => omega
    | succ k => rfl
  | h :: t, hi, h0, hn => by
    simp only [spell, firstH]
    by_cases c : n ≤ h
    · rw [if_pos c, firstB_rep2 _ _ _ (by omega)]
    · rw [if_neg c]
      by_cases d : h < 0
      · rw [if_pos d, show (h - hi).toNat = 0 by omega]
        show firstB (List.replicate (0 - h).toNat false ++ _) _ = false
        exact firstB_drop _ (by omega) (by omega)
      · rw [if_neg d, firstB_rep _ _ _ (by omega), show (0 - h).toNat = 0 by omega]
        have e2 : pmin 0 h = 0 := by unfold pmin; split <;> omega
        rw [e2, show (n - hi).toNat - (h - hi).toNat = (n - pmax hi h).toNat by unfold pmax; split <;> omega]
        show firstB (spell (pmax hi h) 0 t) _ = _
        exact firstB_H t _ (by unfold pmax; split <;> omega) (by unfold pmax; split <;> omega)
theorem fillFirst_eq (q : Line) {n : Int} (hn : 0 < n) : fillFirst q n 1 = firstH n (heights q) := by
  unfold fillFirst
  rw [if_neg (by omega), ahead_first (word_exp q).1 n hn, (word_exp q).2]
  have := firstB_H (n := n) (heights q) 0 (Int.le_refl _) hn
  rw [Int.sub_zero] at this
  exact this
theorem spareM_iff (p q : Line) : spareM p q = true ↔ Spare p q := by
  have hl := low_np p.sw
  have hh := high_nn p.sw
  unfold spareM Spare
  rw [Bool.and_eq_true, Bool.and_eq_true, Bool.and_eq_true, decide_eq_true_iff, decide_eq_true_iff, decide_eq_true_iff, drops_low, fills_high]
  have e : fillFirst q (high p.sw) 1 = true ↔ high p.sw = 0 ∨ firstH (high p.sw) (hts 0 q.sw) = true := by
    by_cases c : high p.sw = 0
    · rw [c]
      exact ⟨fun _ => .inl rfl, fun _ => rfl⟩
    · rw [fillFirst_eq q (by omega)]
      exact ⟨.inr, fun h => h.elim (fun h => absurd h c) id⟩
  rw [e]
  constructor
  · rintro ⟨a, b⟩; exact ⟨by omega, b⟩
  · rintro ⟨a, b⟩; exact ⟨by omega, b⟩
/-! #### whether it is so by the law -/
def firstL (number most : Int) : List Bool → Int → Int → Bool
  | [], _, _ => false
  | c :: l, seen, others =>
    if seen + (if c then 1 else 0) = number then decide (others + (if c then 0 else 1) ≤ most) else firstL number most l (seen + (if c then 1 else 0)) (others + (if c then 0 else 1))
def firstLaw (l : List Bool) (number most : Int) : Bool := if number = 0 then true else firstL number most l 0 0
def dueM (p q : Line) : Bool := if spelt p |>.contains false then false else if p.starts ≠ 0 ∨ p.ends ≠ 0 then false else firstLaw (spelt q) ((spelt p).length : Nat) 0
theorem firstL_one : ∀ (l : List Bool) (number seen others : Int), 0 < others → firstL number 0 l seen others = false
  | [], _, _, _, _ => rfl
  | true :: l, number, seen, others, h => by
    show (if seen + 1 = number then decide (others + 0 ≤ 0) else firstL number 0 l (seen + 1) (others + 0)) = false
    by_cases c : seen + 1 = number
    · rw [if_pos c]; exact decide_eq_false (by omega)
    · rw [if_neg c]; exact firstL_one l _ _ _ (by omega)
  | false :: l, number, seen, others, h => by
    show (if seen + 0 = number then decide (others + 1 ≤ 0) else firstL number 0 l (seen + 0) (others + 1)) = false
    by_cases c : seen + 0 = number
    · rw [if_pos c]; exact decide_eq_false (by omega)
    · rw [if_neg c]; exact firstL_one l _ _ _ (by omega)
theorem firstL_B : ∀ (l : List Bool) (number seen : Int), seen < number → firstL number 0 l seen 0 = firstB l (number - seen).toNat
  | [], number, seen, h => by
    show false = firstB [] _
    cases e : (number - seen).toNat with
    | zero => omega
    | succ k => rfl
  | true :: l, number, seen, h => by
    simp only [firstL]
    obtain ⟨k, e⟩ : ∃ k, (number - seen).toNat = k + 1 := ⟨(number - seen).toNat - 1, by omega⟩
    rw [e]
    show (if seen + 1 = number then decide ((0 : Int) + 0 ≤ 0) else firstL number 0 l (seen + 1) (0 + 0)) = firstB l k
    by_cases c : seen + 1 = number
    · rw [if_pos c, show k = 0 by omega]
      cases l <;> rfl
    · rw [if_neg c, show (0 : Int) + 0 = 0 from rfl, firstL_B l number (seen + 1) (by omega), show (number - (seen + 1)).toNat = k by omega]
  | false :: l, number, seen, h => by
    obtain ⟨k, e⟩ : ∃ k, (number - seen).toNat = k + 1 := ⟨(number - seen).toNat - 1, by omega⟩
    rw [e]
    simp only [firstL]
    show (if seen + 0 = number then decide ((0 : Int) + 1 ≤ 0) else firstL number 0 l (seen + 0) (0 + 1)) = false
    rw [if_neg (by omega)]
    exact firstL_one l _ _ _ (by omega)
theorem due_spare (p q : Line) : dueM p q = spareM p q := by
  have hl := low_np p.sw
  have hh := high_nn p.sw
  have c1 := (spell_count p.sw 0 0 0 (Int.le_refl _) (Int.le_refl _)).1
  have c2 := (spell_count p.sw 0 0 0 (Int.le_refl _) (Int.le_refl _)).2
  have c1 : (((spelt p).count true : Nat) : Int) = high p.sw := by unfold spelt heights; omega
  have c2 : (((spelt p).count false : Nat) : Int) = -low p.sw := by unfold spelt heights; omega
  have len : (spelt p).length = (spelt p).count true + (spelt p).count false := by
    induction spelt p with
    | nil => rfl
    | cons a l ih => cases a <;> simp only [List.length_cons, List.count_cons] <;> simp <;> omega
  unfold dueM
  by_cases a : low p.sw = 0
  · have nc : (spelt p).contains false = false := by
      cases e : (spelt p).contains false with
      | false => rfl
      | true =>
        have : false ∈ spelt p := by simpa using e
        have := List.count_pos_iff.mpr this
        omega
    rw [nc, if_neg Bool.false_ne_true]
    by_cases b : p.starts ≠ 0 ∨ p.ends ≠ 0
    · rw [if_pos b]
      cases e : spareM p q with
      | false => rfl
      | true =>
        have := (spareM_iff p q).mp e
        obtain ⟨_, k1, k2, _⟩ := this
        omega
    · rw [if_neg b]
      have el : (((spelt p).length : Nat) : Int) = high p.sw := by omega
      rw [el]
      have e2 : spareM p q = fillFirst q (fills p) 1 := by
        unfold spareM
        rw [drops_low, decide_eq_true (by omega), decide_eq_true (by omega), decide_eq_true (by omega)]
        rfl
      rw [e2, fills_high]
      unfold firstLaw
      by_cases z : high p.sw = 0
      · rw [if_pos z, z]; rfl
      · rw [if_neg z, firstL_B _ _ _ (by omega), fillFirst_eq q (by omega), Int.sub_zero]
        have := firstB_H (n := high p.sw) (heights q) 0 (Int.le_refl _) (by omega)
        rw [Int.sub_zero] at this
        exact this
  · have yc : (spelt p).contains false = true := by
      have : false ∈ spelt p := List.count_pos_iff.mp (by omega)
      simpa using this
    rw [yc, if_pos rfl]
    cases e : spareM p q with
    | false => rfl
    | true => exact absurd ((spareM_iff p q).mp e).1 a
end Cs
namespace Cs
def handPairs : List (Line × Line × Bool) := [
  ([.fill 3], [.fill 3, .drop 2], true), ([.fill 3], [.drop 2, .fill 3], false),
  ([.fill 3], [.drop 1, .fill 3], false), ([.shift 0], [.drop 2, .fill 3], true),
  ([.fill 4], [.fill 3, .drop 2], false),
  ([.widen 1 0], [.fill 9], false), ([], [.drop 2], true),
  ([.shift 1], [], false), ([.drop 1], [.drop 5], false),
  ([.widen 1 2, .fill 2, .trim 1 2], [.fill 5, .drop 1], true),
  ([.widen 1 2, .fill 2, .trim 1 2], [.fill 4], false),
  ([.fill 2], [.widen 1 1, .drop 9], true),
  ([.fill 2, .drop 1], [.fill 2, .drop 1], false),
  ([.widen 2 0, .trim 0 2], [.fill 4], false), ([.fill 0], [.drop 1, .fill 1], true)]
def Stp.times (n : Int) : Stp → Stp
  | .fill g => .fill (g * n)
  | .drop d => .drop (d * n)
  | .widen a b => .widen (a * n) (b * n)
  | .trim a b => .trim (a * n) (b * n)
  | .shift k => .shift (k * n)
def great (l : Line) : Line := l.map (Stp.times (10 ^ 38))
theorem hand_ok : ∀ x ∈ handPairs, spareM x.1 x.2.1 = x.2.2 ∧ spareM (great x.1) (great x.2.1) = x.2.2 := by decide +kernel
end Cs
namespace Cs
theorem foldl_len {α β : Type} {f : List α → β → List α} (h : ∀ F p, (f F p).length ≤ F.length + 1) : ∀ (L : List β) (F : List α), (L.foldl f F).length ≤ F.length + L.length
  | [], F => Nat.le_refl _
  | p :: L, F => by
    have h1 := foldl_len h L (f F p)
    have h2 := h F p
    show (L.foldl f (f F p)).length ≤ F.length + (L.length + 1)
    omega
theorem mstep_len (F : List Pr) (p : Pr) : (mstep F p).length ≤ F.length + 1 := by
  rcases snoc_cases F with rfl | ⟨i, q, rfl⟩
  · exact Nat.le_refl _
  · rw [mstep_snoc]
    split <;> simp
theorem nf_len (L : List Pr) : (nf L).length ≤ L.length := by
  have h := foldl_len mstep_len (isort L) []
  have e := (isort_perm L).length_eq
  show ((isort L).foldl mstep []).length ≤ _
  simp at h
  omega
theorem fstep_len (g : Int) (F : List Pr) (p : Pr) : (fstep g F p).length ≤ F.length + 1 := by
  rcases snoc_cases F with rfl | ⟨i, q, rfl⟩
  · exact Nat.le_refl _
  · rw [fstep_snoc]
    split <;> simp
theorem moved_len (S : List Pr) (a b : Int) : (moved S a b).length ≤ S.length := by
  unfold moved
  rw [List.length_map]
  exact List.length_filter_le _ _
theorem raw_len (s : Stp) (S : List Pr) : (s.raw S).length ≤ S.length := by
  cases s with
  | fill g =>
    have h : (S.foldl (fstep g) []).length ≤ S.length := by simpa using foldl_len (fstep_len g) S []
    exact h
  | drop d => exact List.length_filter_le _ _
  | widen a b => exact moved_len S _ _
  | trim a b => exact moved_len S _ _
  | shift n => exact moved_len S _ _
theorem host_len (s : Stp) (S : List Pr) : (s.host S).length ≤ S.length := Nat.le_trans (nf_len _) (raw_len s S)
theorem law_len (s : Stp) (S : List Pr) : (s.law S).length ≤ S.length := by
  cases s with
  | fill g =>
    show ((nf _).map _).length ≤ _
    rw [List.length_map]
    exact Nat.le_trans (nf_len _) (by rw [List.length_map]; exact Nat.le_refl _)
  | drop d => exact List.length_filter_le _ _
  | widen a b => exact Nat.le_trans (nf_len _) (by rw [List.length_map]; exact Nat.le_refl _)
  | trim a b =>
    show (List.map _ _).length ≤ _
    rw [List.length_map]
    exact List.length_filter_le _ _
  | shift n => exact Nat.le_of_eq (List.length_map _)
theorem Line.law_len : ∀ (l : Line) (S : List Pr), (l.law S).length ≤ S.length
  | [], _ => Nat.le_refl _
  | s :: l, S => Nat.le_trans (Line.law_len l (s.law S)) (Cs.law_len s S)
theorem Line.host_len : ∀ (l : Line) (S : List Pr), (l.host S).length ≤ S.length
  | [], _ => Nat.le_refl _
  | s :: l, S => Nat.le_trans (Line.host_len l (s.host S)) (Cs.host_len s S)
theorem cb_range (L n : Int) : ∀ (M : Nat) (s : Int), cb s L n M = (List.range M).map fun i : Nat => (s + (i : Int) * (n + 1), s + (i : Int) * (n + 1) + L)
  | 0, s => rfl
  | M + 1, s => by
    rw [List.range_succ_eq_map, List.map_cons, List.map_map]
    show (s, s + L) :: cb (s + n + 1) L n M = _
    rw [cb_range L n M]
    congr 1
    · simp
    · refine List.map_congr_left fun i _ => ?_
      show _ = (s + ((i + 1 : Nat) : Int) * (n + 1), s + ((i + 1 : Nat) : Int) * (n + 1) + L)
      have e : ((i + 1 : Nat) : Int) * (n + 1) = i * (n + 1) + (n + 1) := by
        rw [Int.natCast_add, Int.add_mul]; simp
      rw [e]
      congr 1 <;> omega
theorem cb_pos (L n : Int) (h : 0 < L) : ∀ (M : Nat) (s : Int), Pos (cb s L n M)
  | 0, _ => fun p hp => by cases hp
  | M + 1, s => fun p hp => by
    rcases List.mem_cons.mp hp with e | hp
    · rw [e]; dsimp only; omega
    · exact cb_pos L n h M _ p hp
theorem norm_pos {S : List Pr} (h : Norm S) : Pos S := h.1
end Cs
namespace Cs
def leP (p q : Pr) : Bool := if p.1 = q.1 then (if p.2 = q.2 then true else decide (p.2 ≤ q.2)) else decide (p.1 ≤ q.1)
theorem leP_iff {p q : Pr} : leP p q = true ↔ p.1 < q.1 ∨ (p.1 = q.1 ∧ p.2 ≤ q.2) := by
  unfold leP
  by_cases h : p.1 = q.1
  · rw [if_pos h]
    by_cases h2 : p.2 = q.2
    · rw [if_pos h2]; simp; omega
    · rw [if_neg h2, decide_eq_true_iff]; omega
  · rw [if_neg h, decide_eq_true_iff]; omega
def rins (F : List Pr) (p : Pr) : List Pr := F.take (F.filter fun q => leP q p).length ++ [p] ++ F.drop (F.filter fun q => leP q p).length
def rising (L : List Pr) : List Pr := L.foldl rins []
theorem rsplit (p : Pr) : ∀ {F : List Pr}, F.Pairwise (fun x y => leP x y = true) → ∃ A B, F = A ++ B ∧ (F.filter fun q => leP q p) = A ∧ ∀ b ∈ B, leP b p = false
  | [], _ => ⟨[], [], rfl, rfl, fun _ h => by cases h⟩
  | x :: t, h => by
    obtain ⟨h1, h2⟩ := List.pairwise_cons.mp h
    cases c : leP x p with
    | true =>
      obtain ⟨A, B, e, f, g⟩ := rsplit p h2
      exact ⟨x :: A, B, by rw [e]; rfl, by rw [List.filter_cons, if_pos c, f], g⟩
    | false =>
      have z : ∀ y ∈ x :: t, leP y p = false := fun y hy => by
        rcases List.mem_cons.mp hy with rfl | hy
        · exact c
        · cases d : leP y p with
          | false => rfl
          | true =>
            have a := leP_iff.mp (h1 y hy)
            have b := leP_iff.mp d
            have : leP x p = true := leP_iff.mpr (by omega)
            rw [this] at c; cases c
      exact ⟨[], x :: t, rfl, List.filter_eq_nil_iff.mpr fun y hy => by rw [z y hy]; decide, z⟩
theorem rins_ok {F : List Pr} (p : Pr) (h : F.Pairwise (fun x y => leP x y = true)) : (rins F p).Pairwise (fun x y => leP x y = true) ∧ (rins F p).Perm (p :: F) := by
  obtain ⟨A, B, e, f, g⟩ := rsplit p h
  have hA : ∀ a ∈ A, leP a p = true := fun a ha => by
    rw [← f] at ha
    exact (List.mem_filter.mp ha).2
  have er : rins F p = A ++ [p] ++ B := by
    unfold rins
    rw [f, e, List.take_left', List.drop_left'] <;> rfl
  rw [er]
  rw [e] at h
  obtain ⟨h1, h2, h3⟩ := List.pairwise_append.mp h
  refine ⟨List.pairwise_append.mpr ⟨List.pairwise_append.mpr ⟨h1, List.pairwise_singleton _ _, fun a ha b hb => ?_⟩, h2, fun a ha b hb => ?_⟩, ?_⟩
  · rw [List.mem_singleton.mp hb]; exact hA a ha
  · rcases List.mem_append.mp ha with ha | ha
    · exact h3 a ha b hb
    · rw [List.mem_singleton.mp ha]
      have z := g b hb
      cases c : leP p b with
      | true => rfl
      | false =>
        exfalso
        have a1 : ¬ (b.1 < p.1 ∨ (b.1 = p.1 ∧ b.2 ≤ p.2)) := fun y => by rw [leP_iff.mpr y] at z; cases z
        have a2 : ¬ (p.1 < b.1 ∨ (p.1 = b.1 ∧ p.2 ≤ b.2)) := fun y => by rw [leP_iff.mpr y] at c; cases c
        omega
  · rw [e]
    have := List.perm_middle (a := p) (l₁ := A) (l₂ := B)
    simpa using this
theorem rins_len (F : List Pr) (p : Pr) : (rins F p).length = F.length + 1 := by
  unfold rins
  rw [List.length_append, List.length_append, List.length_take, List.length_drop]
  have := List.length_filter_le (fun q => leP q p) F
  simp
  omega
theorem rising_foldl : ∀ (L F : List Pr), F.Pairwise (fun x y => leP x y = true) → (L.foldl rins F).Pairwise (fun x y => leP x y = true) ∧ (L.foldl rins F).Perm (L ++ F)
  | [], F, h => ⟨h, .refl _⟩
  | p :: L, F, h => by
    obtain ⟨a, b⟩ := rins_ok p h
    obtain ⟨c, d⟩ := rising_foldl L (rins F p) a
    exact ⟨c, d.trans ((b.append_left L).trans List.perm_middle)⟩
theorem rising_ok (L : List Pr) : (rising L).Perm L ∧ (rising L).Pairwise (fun p q => p.1 ≤ q.1) := by
  obtain ⟨a, b⟩ := rising_foldl L [] .nil
  refine ⟨(show (L.foldl rins []).Perm L by simpa using b), a.imp fun {p q} h => ?_⟩
  have := leP_iff.mp h
  omega
theorem rising_len (L : List Pr) : (rising L).length = L.length := (rising_ok L).1.length_eq
theorem one_nf {L : List Pr} (h : Pos L) : merge (rising L) = nf L := merge_nf h (rising_ok L).1 (rising_ok L).2
end Cs
namespace Cw
open PySem PySem.Spec PyProof.Rows L2
section
variable {X : Cx} {CX : CXT} {n : Nat} {C f : Addr} {fd : FuncData} {ps : List Str} {sp : Sp} {E : XK}
/-- two instances of C, by a def of the class -/
def rTwo (C : Addr) (sp : Sp) (E : XK) : R2 := fun x y H Q => ∃ a b dx fs dy gs, x = .ref a ∧ y = .ref b ∧ H a = some (.ins C dx fs) ∧ H b = some (.ins C dy gs) ∧ sp [.ref a, .ref b] H Q E
theorem ep_back {pins : List (Addr × Obj)} {σ : L2.St} {Q : VK} {v : Value} {s' : Shared} (h : EP X pins σ Q v s') : PySem.W.CmpBack (EP X pins σ Q) v s' := by
  cases v with
  | notImplemented =>
    obtain ⟨y, H', _, r, _⟩ := h
    cases y with
    | int i => obtain ⟨t, e⟩ := r; cases e
    | str i => obtain ⟨t, e⟩ := r; cases e
    | byt i => obtain ⟨t, e⟩ := r; cases e
    | flt i => obtain ⟨t, e⟩ := r; cases e
    | non => exact nomatch (show Value.notImplemented = Value.none from r)
    | bl i => exact nomatch (show Value.notImplemented = Value.bool i from r)
    | ref i => exact nomatch (show Value.notImplemented = Value.ref i from r)
    | ty i => exact nomatch (show Value.notImplemented = Value.type i from r)
  | _ => exact h
theorem op_two {op : Operator} (F : FnOk X.prog X.w X.K X.mg X.base CX n f fd ps sp) (hc : PySem.W.selfFirst X.K C = true) (hs : PySem.W.findIn X.K (.ref C) (PySem.dunder op.info.2) = some (some (.ref f)))
    (hf : PySem.W.isFn X.K (.ref f) = true) (hb : Binds X.K fd ps []) (hx : Passes CX X E) (hr : Room n X.A) : OpR X (binaryOp op) (rTwo C sp E) := by
  intro pins s σ H x y v u Q I rx ry h
  obtain ⟨a, b, dx, fs, dy, gs, rfl, rfl, ha, hb', q⟩ := h
  cases rx
  cases ry
  obtain ⟨mA, J, _⟩ := ins_get I.hok ha
  obtain ⟨mB, J', _⟩ := ins_get I.hok hb'
  obtain ⟨od, J, _⟩ := J.look
  obtain ⟨od', J', _⟩ := J'.look
  obtain ⟨m, hF⟩ := I.fr
  refine PySem.W.binop_K hF I.ok.mod.kin J J'.type hc hs hf ?_
  exact wpAny_mono (run_fn F hr hb .nil hx I (show Vals [V.ref a, V.ref b] [Value.ref a, Value.ref b] from .cons rfl (.cons rfl .nil)) q) (fun v s' z => ep_back z) fun _ _ z => z
theorem op_twoEq (F : FnOk X.prog X.w X.K X.mg X.base CX n f fd ps sp) (hs : PySem.W.findIn X.K (.ref C) "__eq__" = some (some (.ref f)))
    (hf : PySem.W.isFn X.K (.ref f) = true) (hb : Binds X.K fd ps []) (hx : Passes CX X E) (hr : Room n X.A) : OpR X (compareOp .Eq) (rTwo C sp E) := by
  intro pins s σ H x y v u Q I rx ry h
  obtain ⟨a, b, dx, fs, dy, gs, rfl, rfl, ha, hb', q⟩ := h
  cases rx
  cases ry
  obtain ⟨mA, J, _⟩ := ins_get I.hok ha
  obtain ⟨mB, J', _⟩ := ins_get I.hok hb'
  obtain ⟨od, J, _⟩ := J.look
  obtain ⟨od', J', _⟩ := J'.look
  obtain ⟨m, hF⟩ := I.fr
  show wpAny (model X.prog X.w) X.A (richCompare .Eq (.ref a) (.ref b)) (EP X pins σ Q) X.xe s
  refine PySem.W.cmp_K (op := .Eq) (tb := .ref C) hr.units0 hF I.ok.mod.kin J J'.type (by simp [PySem.W.notFirst]) hs hf ?_
  exact wpAny_mono (run_fn F hr hb .nil hx I (show Vals [V.ref a, V.ref b] [Value.ref a, Value.ref b] from .cons rfl (.cons rfl .nil)) q) (fun v s' z => ep_back z) fun _ _ z => z
end
section
variable {X : Cx}
/-- sum of a tuple of ints -/
def rSumT (K : PySem.W.Frag) : List V → Hp → VK → Prop := fun vs H Q => ∃ (a : Addr) (ns : List Int), vs = [V.ref a] ∧ SqT K H a (ns.map V.int) ∧ Q (.int ns.sum) H
theorem cr_sumT (hc : X.calm = true) : CallR X (.builtin "sum") (rSumT X.K) := by
  intro pins s σ H xs us Q I r h
  obtain ⟨a, ns, rfl, hS, q⟩ := h
  obtain ⟨u, rfl, ru⟩ := vals1 r
  cases (show u = Value.ref a from ru)
  obtain ⟨its, rv, p, hz⟩ := I.tuple hS
  have hi : IntsAre its ns := rv.ints
  obtain ⟨ys, e⟩ := hi.allInts.items
  have hn : numsOf (intItems ys).toList = ns := by rw [← e]; exact hi.numsOf
  rw [nums_intItems] at hn
  rw [e] at p
  refine PySem.W.ktm_sumG (I.ok.hd hc) p fun h' tk t' hk => ?_
  rw [preSum_eq, List.take_of_length_le (by simp), hn]
  exact ⟨.int ns.sum, H, I.kept hk, ⟨_, rfl⟩, q⟩
/-- min of a tuple of ints, not empty -/
def rMinT (K : PySem.W.Frag) : List V → Hp → VK → Prop := fun vs H Q => ∃ (a : Addr) (ns : List Int), vs = [V.ref a] ∧ SqT K H a (ns.map V.int) ∧ 0 < ns.length ∧ ∀ m, m ∈ ns → (∀ y, y ∈ ns → m ≤ y) → Q (.int m) H
theorem min_tup_raw {prog : Program} {w : World} {A : Around} {E : Value → Shared → Prop} {s : Shared} {l : Addr} {its : List Value} {ns : List Int} {Q : Value → Shared → Prop} (hh : A.handled = none) (hl : s.heap.IsTuple l its.toArray) (hi : IntsAre its ns) (hne : 0 < ns.length)
    (h : ∀ h' tk M t', (∀ b o, s.heap.get? b = some o → h'.get? b = some o) → M ∈ ns → (∀ a, a ∈ ns → M ≤ a) → Q (.int M t') { s with heap := h', toks := tk }) : wpAny (model prog w) A (call (.builtin "min") [.ref l]) Q E s := by
  obtain ⟨ys, e⟩ := hi.allInts.items
  have hn : numsOf (intItems ys).toList = ns := by rw [← e]; exact hi.numsOf
  rw [nums_intItems] at hn
  subst hn
  have hsz : 0 < ys.size := by simpa using hne
  rw [e] at hl
  obtain ⟨o, ho, hc, k, hd⟩ := id hl
  have hne : l ≠ s.heap.objs.size := Nat.ne_of_lt (Heap.lt_size ho)
  have hz : (intItems ys).size = ys.size := by simp [intItems]
  have W := Walks.tuple (prog := prog) (w := w) (A := A.in1) hh s.heap.objs.size l hne (intItems ys)
  rw [hz] at W
  refine PySem.call_min_walk (wpAny_pyIter_tuple hl ?_)
  refine ⟨s.heap.objs.size, _, _, _, _, _, fun i j => decide (numAt ys i < numAt ys j), rfl, W, ⟨⟨_, Heap.get?_push_size _ rfl, rfl, rfl⟩, hl.at fun o e => Heap.get?_push_of_some _ e⟩, fun b hb => ?_, hsz, ?_, fun v h' tk hv hk => ?_⟩
  · rcases List.mem_cons.mp hb with rfl | hb
    · exact Heap.lt_size (Heap.get?_push_size _ rfl)
    · obtain rfl := List.mem_singleton.mp hb
      exact Heap.lt_size (Heap.get?_push_of_some _ ho)
  · exact CmpOf.ints_lt (numAt ys) (fun _ _ => intItems_at)
  · obtain ⟨t, rfl⟩ := intItems_at hv
    obtain ⟨h1, h2⟩ := argBest_lt (numAt ys) (ys.size - 1)
    refine h h' tk _ t (fun b o e => hk b o (fun hb => absurd (Heap.lt_size e) ((List.mem_singleton.mp hb) ▸ Nat.lt_irrefl _)) (Heap.get?_push_of_some _ e)) ?_ fun a ha => ?_
    · rw [numAt_eq]; exact PySem.getD_mem (by rw [List.length_map, Array.length_toList]; omega)
    · obtain ⟨j, hj, rfl⟩ := mem_getD ha
      rw [List.length_map, Array.length_toList] at hj
      rw [← numAt_eq]; exact h2 j (by omega)
theorem cr_minT (hc : X.calm = true) : CallR X (.builtin "min") (rMinT X.K) := by
  intro pins s σ H xs us Q I r h
  obtain ⟨a, ns, rfl, hS, hl, q⟩ := h
  obtain ⟨u, rfl, ru⟩ := vals1 r
  cases (show u = Value.ref a from ru)
  obtain ⟨its, rv, p, hz⟩ := I.tuple hS
  exact min_tup_raw (I.ok.hd hc) p rv.ints hl fun h' tk M t' hk h1 h2 => ⟨.int M, H, I.kept hk, ⟨_, rfl⟩, q M h1 h2⟩
/-- one sign, so often -/
def rMulS : R2 := fun x y H Q => ∃ (c : Nat) (n : Int), x = .str ⟨#[c]⟩ ∧ y = .int n ∧ 0 ≤ n ∧ n ≤ 1000000 ∧ Q (.str ⟨(List.replicate n.toNat c).toArray⟩) H
theorem foldl_one (c : Nat) : ∀ (k : Nat) (a : Array Nat), (List.replicate k #[c]).foldl (· ++ ·) a = a ++ (List.replicate k c).toArray
  | 0, a => by simp
  | k + 1, a => by
    rw [List.replicate_succ, List.foldl_cons, foldl_one c k, List.replicate_succ]
    apply Array.ext'
    simp
theorem mul_one_sign (c : Nat) (n : Int) : Txt.mul ⟨#[c]⟩ n = ⟨(List.replicate n.toNat c).toArray⟩ := by
  unfold Txt.mul
  by_cases h : n < 1
  · rw [if_pos h, show n.toNat = 0 by omega]
    rfl
  · rw [if_neg h]
    split
    · rename_i z
      have : n = 1 := by
        rcases Bool.or_eq_true_iff.mp z with z | z
        · exact beq_iff_eq.mp z
        · exact absurd z (show ¬ false = true from Bool.false_ne_true)
      subst this
      rfl
    · rw [foldl_one]
      simp
theorem op_mulS : OpR X (binaryOp .Mult) rMulS := by
  intro pins s σ H x y v u Q I rx ry h
  obtain ⟨c, n, rfl, rfl, h0, h1, q⟩ := h
  obtain ⟨t, rfl⟩ := rx
  obtain ⟨t', rfl⟩ := ry
  refine SB.mul (mulOk_of 16 1048576 (by show 1 ≤ 16; decide) (by omega) (by omega) (by decide) (by decide)) fun t2 k => ⟨.str _, H, I.tok _, ⟨_, rfl⟩, ?_⟩
  rw [mul_one_sign]
  exact q
end
end Cw
namespace Cw
open PySem PySem.Spec PyProof.Rows L2
open Evl (Ex ex_l ex_t sq_of st_of sz_of sz_lt fresh_back)
open Cs (Pr Stp Line)
abbrev Run := Cs.Run
/-! ### what stands for what -/
abbrev Rp (α : Type) := V → Hp → α → Prop
/-- all that is tracked stands as it was, but lists, and instances that have no field yet -/
def Kp (H H' : Hp) : Prop := ∀ b o, H b = some o → (∀ xs, o ≠ .lst xs) → (∀ C dx, o ≠ .ins C dx []) → H' b = some o
theorem Kp.refl (H : Hp) : Kp H H := fun _ _ h _ _ => h
theorem Kp.trans {H H1 H2 : Hp} (a : Kp H H1) (b : Kp H1 H2) : Kp H H2 := fun x o h n m => b x o (a x o h n m) n m
theorem kp {H H' : Hp} (e : Ex H H') : Kp H H' := fun b o h _ _ => e b o h
theorem Kp.set {H : Hp} {p : Addr} {xs ys : List V} (h : H p = some (.lst xs)) : Kp H (upd H p (.lst ys)) := fun b o e n _ => by
  by_cases hb : b = p
  · rw [hb, h] at e
    exact absurd (Option.some.inj e).symm (n xs)
  · rw [upd_ne hb]
    exact e
theorem Kp.ins {H : Hp} {p C dx : Addr} {o' : HO} (h : H p = some (.ins C dx [])) : Kp H (upd H p o') := fun b o e _ m => by
  by_cases hb : b = p
  · rw [hb, h] at e
    exact absurd (Option.some.inj e).symm (m C dx)
  · rw [upd_ne hb]
    exact e
theorem kp_tu {H H' : Hp} {a : Addr} {xs : List V} (e : Kp H H') (h : H a = some (.tup xs)) : H' a = some (.tup xs) := e _ _ h (fun _ z => by cases z) fun _ _ z => by cases z
theorem kp_t {K : PySem.W.Frag} {H H' : Hp} {a : Addr} {xs : List V} (e : Kp H H') (h : SqT K H a xs) : SqT K H' a xs := by
  rcases h with (h | ⟨o, h⟩) | h
  · exact .inl (.inl (kp_tu e h))
  · exact .inl (.inr ⟨o, e _ _ h (fun _ z => by cases z) fun _ _ z => by cases z⟩)
  · exact .inr h
theorem kp_i {H H' : Hp} {a C dx : Addr} {f : Str × V} {fs : List (Str × V)} (e : Kp H H') (h : H a = some (.ins C dx (f :: fs))) : H' a = some (.ins C dx (f :: fs)) := e _ _ h (fun _ z => by cases z) fun _ _ z => by cases z
/-- a tuple that is read, an instance changed -/
theorem sqt_ins {K : PySem.W.Frag} {H : Hp} {a x C dx : Addr} {fs : List (Str × V)} {o : HO} {xs : List V} (hx : H x = some (.ins C dx fs)) (h : SqT K H a xs) : SqT K (upd H x o) a xs := by
  have ne : ∀ u : HO, H a = some u → (∀ C dx fs, u ≠ .ins C dx fs) → upd H x o a = some u := fun u hu n => by
    rw [upd_ne]
    · exact hu
    · intro z
      rw [z, hx] at hu
      exact n _ _ _ (Option.some.inj hu).symm
  rcases h with (h | ⟨o, h⟩) | h
  · exact .inl (.inl (ne _ h fun _ _ _ z => by cases z))
  · exact .inl (.inr ⟨o, ne _ h fun _ _ _ z => by cases z⟩)
  · exact .inr h
class Mono {α : Type} (R : Rp α) : Prop where
  up : ∀ {v : V} {H H' : Hp} {d : α}, Kp H H' → R v H d → R v H' d
def iI : Rp Int := fun v _ n => v = .int n
def iS : Rp Str := fun v _ s => v = .str s
def iB : Rp Bool := fun v _ b => v = .bl b
instance : Mono iI := ⟨fun _ h => h⟩
instance : Mono iS := ⟨fun _ h => h⟩
instance : Mono iB := ⟨fun _ h => h⟩
def All2 {α : Type} (R : Rp α) (H : Hp) : List V → List α → Prop
  | [], [] => True
  | x :: xs, d :: ds => R x H d ∧ All2 R H xs ds
  | _, _ => False
section
variable {α β : Type} {R : Rp α} {H H' : Hp}
theorem All2.len : ∀ {xs : List V} {l : List α}, All2 R H xs l → xs.length = l.length
  | [], [], _ => rfl
  | _ :: _, _ :: _, h => congrArg (· + 1) (All2.len h.2)
  | [], _ :: _, h => h.elim
  | _ :: _, [], h => h.elim
theorem All2.up [Mono R] (e : Kp H H') : ∀ {xs : List V} {l : List α}, All2 R H xs l → All2 R H' xs l
  | [], [], _ => trivial
  | _ :: _, _ :: _, h => ⟨Mono.up e h.1, All2.up e h.2⟩
  | [], _ :: _, h => h.elim
  | _ :: _, [], h => h.elim
theorem All2.get : ∀ {xs : List V} {l : List α} {i : Nat} {x : V}, All2 R H xs l → xs[i]? = some x → ∃ d, l[i]? = some d ∧ R x H d
  | [], [], i, x, _, e => by simp at e
  | y :: _, d :: _, 0, x, h, e => by
    have e1 : y = x := Option.some.inj e
    exact ⟨d, rfl, e1 ▸ h.1⟩
  | _ :: _, _ :: _, i + 1, x, h, e => All2.get (i := i) h.2 e
  | [], _ :: _, _, _, h, _ => h.elim
  | _ :: _, [], _, _, h, _ => h.elim
theorem All2.at' : ∀ {xs : List V} {l : List α} {i : Nat} {d : α}, All2 R H xs l → l[i]? = some d → ∃ x, xs[i]? = some x ∧ R x H d
  | [], [], i, x, _, e => by simp at e
  | y :: _, d :: _, 0, x, h, e => by
    have e1 : d = x := Option.some.inj e
    exact ⟨y, rfl, e1 ▸ h.1⟩
  | _ :: _, _ :: _, i + 1, x, h, e => All2.at' (i := i) h.2 e
  | [], _ :: _, _, _, h, _ => h.elim
  | _ :: _, [], _, _, h, _ => h.elim
theorem All2.app : ∀ {xs ys : List V} {l m : List α}, All2 R H xs l → All2 R H ys m → All2 R H (xs ++ ys) (l ++ m)
  | [], _, [], _, _, h => h
  | _ :: _, _, _ :: _, _, h, k => ⟨h.1, All2.app h.2 k⟩
  | [], _, _ :: _, _, h, _ => h.elim
  | _ :: _, _, [], _, h, _ => h.elim
theorem All2.snoc {xs : List V} {l : List α} {x : V} {d : α} (h : All2 R H xs l) (k : R x H d) : All2 R H (xs ++ [x]) (l ++ [d]) := h.app ⟨k, trivial⟩
theorem All2.ofSnoc {xs : List V} {l : List α} {d : α} (h : All2 R H xs (l ++ [d])) : ∃ ys x, xs = ys ++ [x] ∧ All2 R H ys l ∧ R x H d := by
  induction l generalizing xs with
  | nil =>
    cases xs with
    | nil => exact h.elim
    | cons x r =>
      cases r with
      | nil => exact ⟨[], x, rfl, trivial, h.1⟩
      | cons y r => exact h.2.elim
  | cons c l ih =>
    cases xs with
    | nil => exact h.elim
    | cons x r =>
      obtain ⟨ys, z, e, a, b⟩ := ih h.2
      exact ⟨x :: ys, z, by rw [e]; rfl, ⟨h.1, a⟩, b⟩
theorem all2_int : ∀ {xs : List V} {l : List Int}, All2 iI H xs l → xs = l.map V.int
  | [], [], _ => rfl
  | x :: xs, d :: ds, h => by
    rw [List.map_cons, ← all2_int h.2, show x = V.int d from h.1]
  | [], _ :: _, h => h.elim
  | _ :: _, [], h => h.elim
theorem all2_ints : ∀ (l : List Int), All2 iI H (l.map V.int) l
  | [] => trivial
  | _ :: r => ⟨rfl, all2_ints r⟩
theorem all2_bl : ∀ {xs : List V} {l : List Bool}, All2 iB H xs l → xs = l.map V.bl
  | [], [], _ => rfl
  | x :: xs, d :: ds, h => by
    rw [List.map_cons, ← all2_bl h.2, show x = V.bl d from h.1]
  | [], _ :: _, h => h.elim
  | _ :: _, [], h => h.elim
end
/-- a tuple, a list of such -/
def iT (K : PySem.W.Frag) {α : Type} (R : Rp α) : Rp (List α) := fun v H l => ∃ a xs, v = .ref a ∧ SqT K H a xs ∧ All2 R H xs l
def iL (K : PySem.W.Frag) {α : Type} (R : Rp α) : Rp (List α) := fun v H l => ∃ a xs, v = .ref a ∧ SqL K H a xs ∧ All2 R H xs l
instance {K : PySem.W.Frag} {α : Type} {R : Rp α} [Mono R] : Mono (iT K R) := ⟨fun e ⟨a, xs, hv, h, k⟩ => ⟨a, xs, hv, kp_t e h, k.up e⟩⟩
theorem iL.up {K : PySem.W.Frag} {α : Type} {R : Rp α} [Mono R] {v : V} {l : List α} {H H' : Hp} (e : Ex H H') : iL K R v H l → iL K R v H' l := fun ⟨a, xs, hv, h, k⟩ => ⟨a, xs, hv, ex_l e h, k.up (kp e)⟩
/-- a pair of two -/
def i2 (K : PySem.W.Frag) {α β : Type} (R : Rp α) (S : Rp β) : Rp (α × β) := fun v H p => ∃ a x y, v = .ref a ∧ H a = some (.tup [x, y]) ∧ R x H p.1 ∧ S y H p.2
instance {K : PySem.W.Frag} {α β : Type} {R : Rp α} {S : Rp β} [Mono R] [Mono S] : Mono (i2 K R S) := ⟨fun e ⟨a, x, y, hv, h, k1, k2⟩ => ⟨a, x, y, hv, kp_tu e h, Mono.up e k1, Mono.up e k2⟩⟩
abbrev iPr (K : PySem.W.Frag) : Rp Pr := i2 K iI iI
def kindS (b : Bool) : Str := if b then "fill" else "drop"
def iK : Rp Bool := fun v _ b => v = .str (kindS b)
instance : Mono iK := ⟨fun _ h => h⟩
abbrev iRun (K : PySem.W.Frag) : Rp Run := i2 K iK iI
def Stp.kind : Stp → Str
  | .fill _ => "fill"
  | .drop _ => "drop"
  | .widen _ _ => "widen"
  | .trim _ _ => "trim"
  | .shift _ => "shift"
/-- a step of a law's line -/
def iSt (K : PySem.W.Frag) : Rp Stp := fun v H s => i2 K iS (iT K iI) v H (Stp.kind s, s.nums)
instance {K : PySem.W.Frag} : Mono (iSt K) := ⟨fun e h => Mono.up (R := i2 K iS (iT K iI)) e h⟩
abbrev iLine (K : PySem.W.Frag) : Rp Line := iT K (iSt K)
/-- a Row at C, a Step at C, a Pipeline at C of Steps at D -/
def iRow (K : PySem.W.Frag) (C : Addr) : Rp (List Pr) := fun v H l => ∃ a dx y, v = .ref a ∧ H a = some (.ins C dx [("own_spans", y)]) ∧ iT K (iPr K) y H l
def iStep (K : PySem.W.Frag) (C : Addr) : Rp Stp := fun v H s => ∃ a dx y, v = .ref a ∧ H a = some (.ins C dx [("own_kind", .str (Stp.kind s)), ("own_amounts", y)]) ∧ iT K iI y H s.nums
def iPipe (K : PySem.W.Frag) (C D : Addr) : Rp Line := fun v H l => ∃ a dx y, v = .ref a ∧ H a = some (.ins C dx [("own_steps", y)]) ∧ iT K (iStep K D) y H l
instance {K : PySem.W.Frag} {C : Addr} : Mono (iRow K C) := ⟨fun e ⟨a, dx, y, hv, h, k⟩ => ⟨a, dx, y, hv, kp_i e h, Mono.up e k⟩⟩
instance {K : PySem.W.Frag} {C : Addr} : Mono (iStep K C) := ⟨fun e ⟨a, dx, y, hv, h, k⟩ => ⟨a, dx, y, hv, kp_i e h, Mono.up e k⟩⟩
instance {K : PySem.W.Frag} {C D : Addr} : Mono (iPipe K C D) := ⟨fun e ⟨a, dx, y, hv, h, k⟩ => ⟨a, dx, y, hv, kp_i e h, Mono.up e k⟩⟩
/-! ### promises -/
def Gives {β : Type} (S : Rp β) (d : β) (H : Hp) (Q : VK) : Prop := ∀ v H', Ex H H' → S v H' d → Q v H'
def sp1 {α β : Type} (R : Rp α) (S : Rp β) (ok : α → Prop) (f : α → β) : Sp := fun vs H Q _ => ∃ v d, vs = [v] ∧ R v H d ∧ ok d ∧ Gives S (f d) H Q
def sp2 {α α' β : Type} (R : Rp α) (R' : Rp α') (S : Rp β) (ok : α → α' → Prop) (f : α → α' → β) : Sp := fun vs H Q _ => ∃ v d w e, vs = [v, w] ∧ R v H d ∧ R' w H e ∧ ok d e ∧ Gives S (f d e) H Q
def sp3 {α α' α'' β : Type} (R : Rp α) (R' : Rp α') (R'' : Rp α'') (S : Rp β) (ok : α → α' → α'' → Prop) (f : α → α' → α'' → β) : Sp := fun vs H Q _ => ∃ v d w e x g, vs = [v, w, x] ∧ R v H d ∧ R' w H e ∧ R'' x H g ∧ ok d e g ∧ Gives S (f d e g) H Q
def sp4 {α α' α'' α3 β : Type} (R : Rp α) (R' : Rp α') (R'' : Rp α'') (R3 : Rp α3) (S : Rp β) (ok : α → α' → α'' → α3 → Prop) (f : α → α' → α'' → α3 → β) : Sp := fun vs H Q _ => ∃ v d w e x g y i, vs = [v, w, x, y] ∧ R v H d ∧ R' w H e ∧ R'' x H g ∧ R3 y H i ∧ ok d e g i ∧ Gives S (f d e g i) H Q
section
variable {α β : Type} {K : PySem.W.Frag} {H : Hp} {Q : VK}
theorem Gives.fin {S : Rp β} {d : β} {H' : Hp} {v : V} (g : Gives S d H Q) (e : Ex H H') (h : S v H' d) : Q v H' := g v H' e h
theorem Gives.of {S : Rp β} {d d' : β} {H' : Hp} {v : V} (g : Gives S d H Q) (e : Ex H H') (h : S v H' d') (q : d' = d) : Q v H' := g v H' e (q ▸ h)
/-- a new object -/
theorem nw {o : HO} {Q : V → Hp → Prop} (h : ∀ p H', Ex H H' → H p = none → H' p = some o → Q (.ref p) H') : ∀ p, H p = none → Q (.ref p) (upd H p o) := fun p hp => h p _ (Evl.Ex.new hp) hp upd_same
theorem sqT2 {a : Addr} {x y x' y' : V} {p : List V} (h : SqT K H a [x, y]) (e : p = [x, y]) : SqT K H a p := e ▸ h
theorem iT_nil {R : Rp α} {p : Addr} (h : H p = some (.tup [])) : iT K R (.ref p) H [] := ⟨p, [], rfl, st_of h, trivial⟩
theorem iT_of {R : Rp α} {p : Addr} {xs : List V} {l : List α} (h : H p = some (.tup xs)) (k : All2 R H xs l) : iT K R (.ref p) H l := ⟨p, xs, rfl, st_of h, k⟩
theorem iL_of {R : Rp α} {p : Addr} {xs : List V} {l : List α} (h : H p = some (.lst xs)) (k : All2 R H xs l) : iL K R (.ref p) H l := ⟨p, xs, rfl, sq_of h, k⟩
theorem i2_of {R : Rp α} {S : Rp β} {p : Addr} {x y : V} {d : α} {e : β} (h : H p = some (.tup [x, y])) (k : R x H d) (k2 : S y H e) : i2 K R S (.ref p) H (d, e) := ⟨p, x, y, rfl, h, k, k2⟩
end
/-! ### loops over data -/
section
variable {α β : Type} {K : PySem.W.Frag} {R : Rp α} {S : Rp β} {a : Addr} {xs : List V} {l : List α}
theorem drop_at {l : List α} {i : Nat} {d : α} (h : l[i]? = some d) : l.drop i = d :: l.drop (i + 1) := by
  obtain ⟨hi, e⟩ := List.getElem?_eq_some_iff.mp h
  rw [← e]
  exact List.drop_eq_getElem_cons hi
theorem forT [Mono R] {g : TG} {tb : TS} {D : Ends} {σ : L2.St} {H : Hp} (Iv : List α → L2.St → Hp → Prop) (hS : SqT K H a xs) (hA : All2 R H xs l) (h0 : Iv l σ H) (hst : ∀ r σ' H', Iv r σ' H' → Kp H H')
    (hs : ∀ pre d r x σ' H', l = pre ++ d :: r → R x H' d → Iv (d :: r) σ' H' → g x σ' H' fun σ2 H2 => tb { D with nx := Iv r, ct := Iv r, bk := D.nx } σ2 H2) (hd : ∀ σ' H', Iv [] σ' H' → D.nx σ' H') :
    ∃ W : Nat → Nat → L2.St → Hp → Prop, (∃ m, W 0 m σ H) ∧ ∀ i m σ H, W i m σ H →
      ((Itt K a).stop i H ∧ D.nx σ H) ∨ ((Itt K a).go i H ∧ ∃ N : L2.St → Hp → Prop, (∀ σ' H', N σ' H' → ∃ m', m' < m ∧ W (i + 1) m' σ' H') ∧ ∀ x H', (Itt K a).yld i H x H' → g x σ H' fun σ2 H2 => tb { D with nx := N, ct := N, bk := D.nx } σ2 H2) := by
  refine for_tup (xs := xs) (fun i σ' H' => Iv (l.drop i) σ' H') h0 (fun i σ' H' _ h => kp_t (hst _ _ _ h) hS) (fun i x σ' H' e h => ?_) (fun σ' H' h => hd σ' H' ?_)
  · obtain ⟨d, ed, hd'⟩ := (hA.up (hst _ _ _ h)).get e
    have h : Iv (l.drop i) σ' H' := h
    rw [drop_at ed] at h
    exact hs (l.take i) d _ x σ' H' (by rw [← drop_at ed, List.take_append_drop]) hd' h
  · have h : Iv (l.drop xs.length) σ' H' := h
    rw [hA.len, List.drop_length] at h
    exact h
theorem forL [Mono R] {g : TG} {tb : TS} {D : Ends} {σ : L2.St} {H : Hp} (Iv : List α → L2.St → Hp → Prop) (hA : All2 R H xs l) (h0 : Iv l σ H) (hst : ∀ r σ' H', Iv r σ' H' → Kp H H' ∧ SqL K H' a xs)
    (hs : ∀ pre d r x σ' H', l = pre ++ d :: r → R x H' d → Iv (d :: r) σ' H' → g x σ' H' fun σ2 H2 => tb { D with nx := Iv r, ct := Iv r, bk := D.nx } σ2 H2) (hd : ∀ σ' H', Iv [] σ' H' → D.nx σ' H') :
    ∃ W : Nat → Nat → L2.St → Hp → Prop, (∃ m, W 0 m σ H) ∧ ∀ i m σ H, W i m σ H →
      ((Itl K a).stop i H ∧ D.nx σ H) ∨ ((Itl K a).go i H ∧ ∃ N : L2.St → Hp → Prop, (∀ σ' H', N σ' H' → ∃ m', m' < m ∧ W (i + 1) m' σ' H') ∧ ∀ x H', (Itl K a).yld i H x H' → g x σ H' fun σ2 H2 => tb { D with nx := N, ct := N, bk := D.nx } σ2 H2) := by
  refine for_list (xs := xs) (fun i σ' H' => Iv (l.drop i) σ' H') h0 (fun i σ' H' _ h => (hst _ _ _ h).2) (fun i x σ' H' e h => ?_) (fun σ' H' h => hd σ' H' ?_)
  · obtain ⟨d, ed, hd'⟩ := (hA.up (hst _ _ _ h).1).get e
    have h : Iv (l.drop i) σ' H' := h
    rw [drop_at ed] at h
    exact hs (l.take i) d _ x σ' H' (by rw [← drop_at ed, List.take_append_drop]) hd' h
  · have h : Iv (l.drop xs.length) σ' H' := h
    rw [hA.len, List.drop_length] at h
    exact h
/-- one item of a comprehension: what the turn gives -/
def Turn1 (S : Rp β) (o : Option β) (g : TG) (tt : TT) (te : TE) (σ : L2.St) (vs : List Nat) (x : V) (H : Hp) : Prop :=
  ∀ (Q : VK) (N : Hp → Prop), (∀ e, o = some e → Gives S e H Q) → (o = none → ∀ H', Ex H H' → N H') → g x (wipe σ vs) H fun σ2 H2 => wipe σ2 vs = wipe σ vs ∧ tt σ2 H2 fun b H3 => if b = true then te σ2 H3 Q else N H3
theorem fm_take {f : α → Option β} {l : List α} {i : Nat} {d : α} (h : l[i]? = some d) : (l.take (i + 1)).filterMap f = (l.take i).filterMap f ++ (f d).toList := by
  rw [List.take_add_one, h, List.filterMap_append]
  show _ ++ List.filterMap f [d] = _
  cases e : f d <;> simp [e]
theorem lcT [Mono R] [Mono S] {g : TG} {tt : TT} {te : TE} {vs : List Nat} {σ : L2.St} {H1 : Hp} {D : Addr} {Qd : Hp → Prop} (f : α → Option β) (hS : SqT K H1 a xs) (hA : All2 R H1 xs l) (hD : H1 D = none) (hl : l.length < 100000)
    (hs : ∀ x d H, d ∈ l → Ex H1 H → R x H d → Turn1 S (f d) g tt te σ vs x H) (hd : ∀ H' ys, Ex H1 H' → H' D = some (.lst ys) → All2 S H' ys (l.filterMap f) → Qd H') :
    ∃ W : Nat → Nat → Hp → Prop, (∃ m, W 0 m (upd H1 D (.lst []))) ∧ ∀ i m H, W i m H →
      ((Itt K a).stop i H ∧ Qd H) ∨ ((Itt K a).go i H ∧ ∃ Nx : Hp → Prop, (∀ H', Nx H' → ∃ m', m' < m ∧ W (i + 1) m' H') ∧ ∀ x H', (Itt K a).yld i H x H' → g x (wipe σ vs) H' fun σ2 H2 => wipe σ2 vs = wipe σ vs ∧ tt σ2 H2 fun b H3 =>
        if b = true then te σ2 H3 fun y H4 => ∃ acc, H4 D = some (.lst acc) ∧ acc.length < sizeLine ∧ Nx (upd H4 D (.lst (acc ++ [y]))) else Nx H3) := by
  refine lc_tup (xs := xs) (fun i H => Ex H1 H ∧ ∃ ys, H D = some (.lst ys) ∧ All2 S H ys ((l.take i).filterMap f)) ⟨Evl.Ex.new hD, [], upd_same, trivial⟩ (fun i H _ h => kp_t (kp h.1) hS) (fun i x H e h => ?_) (fun H h => ?_)
  · obtain ⟨hE, ys, hy, hY⟩ := h
    obtain ⟨d, ed, hd'⟩ := (hA.up (kp hE)).get e
    have hle : ys.length < 100000 := by
      rw [hY.len]
      exact Nat.lt_of_le_of_lt (List.length_filterMap_le _ _) (Nat.lt_of_le_of_lt (by rw [List.length_take]; exact Nat.min_le_right _ _) hl)
    refine hs x d H (List.mem_of_getElem? ed) hE hd' _ _ (fun c ec v H' eH hv => ?_) (fun ec H' eH => ?_)
    · refine ⟨ys, eH _ _ hy, sz_lt hle, (hE.trans eH).mut hD, _, upd_same, ?_⟩
      have kU : Kp H' (upd H' D (.lst (ys ++ [v]))) := Kp.set (eH _ _ hy)
      rw [fm_take ed, ec]
      exact ((hY.up (kp eH)).up kU).snoc (Mono.up kU hv)
    · refine ⟨hE.trans eH, ys, eH _ _ hy, ?_⟩
      rw [fm_take ed, ec]
      simpa using hY.up (kp eH)
  · obtain ⟨hE, ys, hy, hY⟩ := h
    rw [hA.len, List.take_length] at hY
    exact hd H ys hE hy hY
theorem lcL [Mono R] [Mono S] {g : TG} {tt : TT} {te : TE} {vs : List Nat} {σ : L2.St} {H1 : Hp} {D : Addr} {Qd : Hp → Prop} (f : α → Option β) (hS : SqL K H1 a xs) (hA : All2 R H1 xs l) (hD : H1 D = none) (hl : l.length < 100000)
    (hs : ∀ x d H, d ∈ l → Ex H1 H → R x H d → Turn1 S (f d) g tt te σ vs x H) (hd : ∀ H' ys, Ex H1 H' → H' D = some (.lst ys) → All2 S H' ys (l.filterMap f) → Qd H') :
    ∃ W : Nat → Nat → Hp → Prop, (∃ m, W 0 m (upd H1 D (.lst []))) ∧ ∀ i m H, W i m H →
      ((Itl K a).stop i H ∧ Qd H) ∨ ((Itl K a).go i H ∧ ∃ Nx : Hp → Prop, (∀ H', Nx H' → ∃ m', m' < m ∧ W (i + 1) m' H') ∧ ∀ x H', (Itl K a).yld i H x H' → g x (wipe σ vs) H' fun σ2 H2 => wipe σ2 vs = wipe σ vs ∧ tt σ2 H2 fun b H3 =>
        if b = true then te σ2 H3 fun y H4 => ∃ acc, H4 D = some (.lst acc) ∧ acc.length < sizeLine ∧ Nx (upd H4 D (.lst (acc ++ [y]))) else Nx H3) := by
  refine lc_list (xs := xs) (fun i H => Ex H1 H ∧ ∃ ys, H D = some (.lst ys) ∧ All2 S H ys ((l.take i).filterMap f)) ⟨Evl.Ex.new hD, [], upd_same, trivial⟩ (fun i H _ h => ex_l h.1 hS) (fun i x H e h => ?_) (fun H h => ?_)
  · obtain ⟨hE, ys, hy, hY⟩ := h
    obtain ⟨d, ed, hd'⟩ := (hA.up (kp hE)).get e
    have hle : ys.length < 100000 := by
      rw [hY.len]
      exact Nat.lt_of_le_of_lt (List.length_filterMap_le _ _) (Nat.lt_of_le_of_lt (by rw [List.length_take]; exact Nat.min_le_right _ _) hl)
    refine hs x d H (List.mem_of_getElem? ed) hE hd' _ _ (fun c ec v H' eH hv => ?_) (fun ec H' eH => ?_)
    · refine ⟨ys, eH _ _ hy, sz_lt hle, (hE.trans eH).mut hD, _, upd_same, ?_⟩
      have kU : Kp H' (upd H' D (.lst (ys ++ [v]))) := Kp.set (eH _ _ hy)
      rw [fm_take ed, ec]
      exact ((hY.up (kp eH)).up kU).snoc (Mono.up kU hv)
    · refine ⟨hE.trans eH, ys, eH _ _ hy, ?_⟩
      rw [fm_take ed, ec]
      simpa using hY.up (kp eH)
  · obtain ⟨hE, ys, hy, hY⟩ := h
    rw [hA.len, List.take_length] at hY
    exact hd H ys hE hy hY
theorem lcR [Mono S] {lo : Int} {n : Nat} {g : TG} {te : TE} {vs : List Nat} {σ : L2.St} {H1 : Hp} {D : Addr} {Qd : Hp → Prop} (f : Nat → β) (hD : H1 D = none) (hl : n < 100000)
    (hs : ∀ i H, i < n → Ex H1 H → Turn1 S (some (f i)) g tYes te σ vs (.int (lo + i)) H) (hd : ∀ H' ys, Ex H1 H' → H' D = some (.lst ys) → All2 S H' ys ((List.range n).map f) → Qd H') :
    ∃ W : Nat → Nat → Hp → Prop, (∃ m, W 0 m (upd H1 D (.lst []))) ∧ ∀ i m H, W i m H →
      ((Itr lo n).stop i H ∧ Qd H) ∨ ((Itr lo n).go i H ∧ ∃ Nx : Hp → Prop, (∀ H', Nx H' → ∃ m', m' < m ∧ W (i + 1) m' H') ∧ ∀ x H', (Itr lo n).yld i H x H' → g x (wipe σ vs) H' fun σ2 H2 => wipe σ2 vs = wipe σ vs ∧ tYes σ2 H2 fun b H3 =>
        if b = true then te σ2 H3 fun y H4 => ∃ acc, H4 D = some (.lst acc) ∧ acc.length < sizeLine ∧ Nx (upd H4 D (.lst (acc ++ [y]))) else Nx H3) := by
  refine lc_range (fun i H => Ex H1 H ∧ i ≤ n ∧ ∃ ys, H D = some (.lst ys) ∧ All2 S H ys ((List.range i).map f)) ⟨Evl.Ex.new hD, Nat.zero_le _, [], upd_same, trivial⟩ (fun i H hi h => ?_) (fun H h => ?_)
  · obtain ⟨hE, hn, ys, hy, hY⟩ := h
    have hle : ys.length < 100000 := by
      rw [hY.len, List.length_map, List.length_range]
      omega
    refine hs i H hi hE _ _ (fun c ec v H' eH hv => ?_) (fun ec => by cases ec)
    have ec : f i = c := Option.some.inj ec
    have kU : Kp H' (upd H' D (.lst (ys ++ [v]))) := Kp.set (eH _ _ hy)
    refine ⟨ys, eH _ _ hy, sz_lt hle, (hE.trans eH).mut hD, hi, _, upd_same, ?_⟩
    rw [List.range_succ, List.map_append]
    exact ((hY.up (kp eH)).up kU).snoc (Mono.up kU (by rw [ec]; exact hv))
  · obtain ⟨hE, _, ys, hy, hY⟩ := h
    exact hd H ys hE hy hY
end
/-! ### small helps -/
theorem iteD {c : Prop} [Decidable c] {A B : Prop} (h1 : c → A) (h2 : ¬ c → B) : if decide c = true then A else B := by
  by_cases h : c
  · rw [if_pos (decide_eq_true h)]
    exact h1 h
  · rw [if_neg (fun z => h (of_decide_eq_true z))]
    exact h2 h
theorem iteY {c : Prop} [Decidable c] {A B : Prop} (hc : c) (h1 : A) : if decide c = true then A else B := iteD (fun _ => h1) fun n => absurd hc n
theorem iteN {c : Prop} [Decidable c] {A B : Prop} (hc : ¬ c) (h1 : B) : if decide c = true then A else B := iteD (fun y => absurd y hc) fun _ => h1
theorem iteB {b : Bool} {A B : Prop} (h1 : b = true → A) (h2 : b = false → B) : if b = true then A else B := by
  cases b with
  | true => rw [if_pos rfl]; exact h1 rfl
  | false => rw [if_neg Bool.false_ne_true]; exact h2 rfl
theorem iteNB {c : Prop} [Decidable c] {A B : Prop} (h1 : ¬ c → A) (h2 : c → B) : if (!decide c) = true then A else B := by
  by_cases h : c
  · rw [decide_eq_true h, if_neg (by decide)]
    exact h2 h
  · rw [decide_eq_false h, if_pos (by decide)]
    exact h1 h
theorem iteBN {b : Bool} {A B : Prop} (h1 : b = false → A) (h2 : b = true → B) : if (!b) = true then A else B := by
  cases b with
  | true => rw [if_neg (by decide)]; exact h2 rfl
  | false => rw [if_pos (by decide)]; exact h1 rfl
theorem sz0 : ([] : List V).length ≤ sizeLine := Nat.zero_le _
theorem sz1 {a : V} : [a].length ≤ sizeLine := sz_of (by show 1 ≤ 100000; decide)
theorem sz2 {a b : V} : [a, b].length ≤ sizeLine := sz_of (by show 2 ≤ 100000; decide)
theorem sz3 {a b c : V} : [a, b, c].length ≤ sizeLine := sz_of (by show 3 ≤ 100000; decide)
theorem sz4 {a b c d : V} : [a, b, c, d].length ≤ sizeLine := sz_of (by show 4 ≤ 100000; decide)
theorem ixN_last {α : Type} (ys : List α) (x : α) : ixN (ys ++ [x]).length (-1) = some ys.length := by
  have hl : (ys ++ [x]).length = ys.length + 1 := by simp
  unfold ixN
  rw [if_neg (by decide), hl, if_pos (by omega)]
  congr 1
  omega
theorem set_last {α : Type} (ys : List α) (x y : α) : (ys ++ [x]).set ys.length y = ys ++ [y] := by
  rw [List.set_append_right _ _ (Nat.le_refl _), Nat.sub_self]
  rfl
theorem str_inj {a b : Str} : V.str a = V.str b ↔ a = b := ⟨fun h => V.str.inj h, fun h => by rw [h]⟩
theorem int_inj {a b : Int} : V.int a = V.int b ↔ a = b := ⟨fun h => V.int.inj h, fun h => by rw [h]⟩
theorem kind_inj {a b : Bool} : V.str (kindS a) = V.str (kindS b) ↔ a = b := by
  refine ⟨fun h => ?_, fun h => by rw [h]⟩
  have h := V.str.inj h
  revert h
  cases a <;> cases b <;> first | (intro _; rfl) | (intro h; exact absurd h (by decide +kernel))
theorem snocs {α : Type} (l : List α) : l = [] ∨ ∃ i x, l = i ++ [x] := Cs.snoc_cases l
end Cw
namespace Cw
open PySem PySem.Spec PyProof.Rows L2
def topS (i : Nat) : Stmt := PySem.Challenge.pw_cleanspans_k93_whole_a_cleaner_left_out.main.body.getD i (.Pass ⟨0, 0, 0, 0⟩)
abbrev s_is_number : Stmt := (topS 8)
abbrev s_pair_of : Stmt := (topS 9)
abbrev s_tupled : Stmt := (topS 10)
abbrev s_run_together : Stmt := (topS 15)
abbrev s_letters : Stmt := (topS 16)
abbrev s_along : Stmt := (topS 17)
abbrev s_ahead : Stmt := (topS 19)
abbrev s_drops_ahead : Stmt := (topS 20)
abbrev s_joined : Stmt := (topS 35)
abbrev s_comb : Stmt := (topS 40)
abbrev s_is_good : Stmt := (topS 43)
abbrev s_filled : Stmt := (topS 44)
abbrev s_moved : Stmt := (topS 45)
abbrev s_swings_of : Stmt := (topS 47)
abbrev s_edges_of : Stmt := (topS 48)
abbrev s_fill_first : Stmt := (topS 55)
abbrev s_many_for : Stmt := (topS 56)
abbrev s_spare_any : Stmt := (topS 57)
abbrev s_touch_pair : Stmt := (topS 58)
abbrev s_spare_any_rows : Stmt := (topS 59)
abbrev s_law_box : Stmt := (topS 61)
abbrev s_law_take : Stmt := (topS 62)
abbrev s_law_cells : Stmt := (topS 63)
abbrev s_law_of : Stmt := (topS 64)
abbrev s_law_same : Stmt := (topS 65)
abbrev s_law_stride : Stmt := (topS 66)
abbrev s_law_line : Stmt := (topS 67)
abbrev s_law_still : Stmt := (topS 68)
abbrev s_law_host : Stmt := (topS 69)
abbrev s_law_edges : Stmt := (topS 70)
abbrev s_law_trip : Stmt := (topS 71)
abbrev s_law_spell : Stmt := (topS 72)
abbrev s_law_rising : Stmt := (topS 73)
abbrev s_law_one : Stmt := (topS 74)
abbrev s_law_made : Stmt := (topS 75)
abbrev s_law_track : Stmt := (topS 76)
abbrev s_law_first : Stmt := (topS 77)
abbrev s_law_soft : Stmt := (topS 78)
abbrev s_law_due : Stmt := (topS 79)
abbrev s_law_like : Stmt := (topS 80)
abbrev s_law_host_right : Stmt := (topS 81)
abbrev s_law_rows_right : Stmt := (topS 82)
abbrev s_law_read : Stmt := (topS 83)
abbrev s_law_great : Stmt := (topS 84)
abbrev s_law_by_hand_right : Stmt := (topS 85)
abbrev s_law_right : Stmt := (topS 86)
abbrev s_law : Stmt := (topS 87)
abbrev s_Row_or : Stmt := (inClass (topS 39) 13)
abbrev s_Row_eq : Stmt := (inClass (topS 39) 18)
abbrev s_Step_init : Stmt := (inClass (topS 46) 0)
abbrev s_Step_call : Stmt := (inClass (topS 46) 5)
abbrev s_Pipeline_call : Stmt := (inClass (topS 53) 16)
abbrev s_Row_spans : Stmt := (inClass (topS 39) 2)
abbrev s_Step_kind : Stmt := (inClass (topS 46) 2)
abbrev s_Step_amounts : Stmt := (inClass (topS 46) 3)
abbrev s_Pipeline_heights : Stmt := (inClass (topS 53) 4)
abbrev s_Pipeline_word : Stmt := (inClass (topS 53) 5)
abbrev s_Pipeline_fills : Stmt := (inClass (topS 53) 6)
abbrev s_Pipeline_drops : Stmt := (inClass (topS 53) 7)
abbrev s_Pipeline_starts : Stmt := (inClass (topS 53) 8)
abbrev s_Pipeline_ends : Stmt := (inClass (topS 53) 9)
abbrev s_Row_init : Stmt := (inClass (topS 39) 0)
abbrev s_Pipeline_init : Stmt := (inClass (topS 53) 0)
abbrev s_NoLetter_init : Stmt := (inClass (topS 3) 0)
theorem sc_is_number : FnScope ["thing"] ["thing"] (defScope s_is_number) := ⟨rfl, rfl, rfl, by decide +kernel, rfl, by decide +kernel, by decide +kernel⟩
theorem sc_pair_of : FnScope ["pair"] ["pair"] (defScope s_pair_of) := ⟨rfl, rfl, rfl, by decide +kernel, rfl, by decide +kernel, by decide +kernel⟩
theorem sc_tupled : FnScope ["thing", "part"] ["thing"] (defScope s_tupled) := ⟨rfl, rfl, rfl, by decide +kernel, rfl, by decide +kernel, by decide +kernel⟩
theorem sc_run_together : FnScope ["runs", "found", "own", "many"] ["runs"] (defScope s_run_together) := ⟨rfl, rfl, rfl, by decide +kernel, rfl, by decide +kernel, by decide +kernel⟩
theorem sc_letters : FnScope ["word", "fills", "own", "many"] ["word"] (defScope s_letters) := ⟨rfl, rfl, rfl, by decide +kernel, rfl, by decide +kernel, by decide +kernel⟩
theorem sc_along : FnScope ["heights", "runs", "high", "low", "height"] ["heights"] (defScope s_along) := ⟨rfl, rfl, rfl, by decide +kernel, rfl, by decide +kernel, by decide +kernel⟩
theorem sc_ahead : FnScope ["word", "kind", "number", "left", "others", "own", "many"] ["word", "kind", "number"] (defScope s_ahead) := ⟨rfl, rfl, rfl, by decide +kernel, rfl, by decide +kernel, by decide +kernel⟩
theorem sc_drops_ahead : FnScope ["word", "number"] ["word", "number"] (defScope s_drops_ahead) := ⟨rfl, rfl, rfl, by decide +kernel, rfl, by decide +kernel, by decide +kernel⟩
theorem sc_joined : FnScope ["pairs", "found", "first", "behind"] ["pairs"] (defScope s_joined) := ⟨rfl, rfl, rfl, by decide +kernel, rfl, by decide +kernel, by decide +kernel⟩
theorem sc_comb : FnScope ["first", "length", "gap", "many", "at"] ["first", "length", "gap", "many"] (defScope s_comb) := ⟨rfl, rfl, rfl, by decide +kernel, rfl, by decide +kernel, by decide +kernel⟩
theorem sc_is_good : FnScope ["kind", "amounts", "one"] ["kind", "amounts"] (defScope s_is_good) := ⟨rfl, rfl, rfl, by decide +kernel, rfl, by decide +kernel, by decide +kernel⟩
theorem sc_filled : FnScope ["spans", "gap", "found", "first", "behind"] ["spans", "gap"] (defScope s_filled) := ⟨rfl, rfl, rfl, by decide +kernel, rfl, by decide +kernel, by decide +kernel⟩
theorem sc_moved : FnScope ["spans", "ahead", "after", "first", "behind"] ["spans", "ahead", "after"] (defScope s_moved) := ⟨rfl, rfl, rfl, by decide +kernel, rfl, by decide +kernel, by decide +kernel⟩
theorem sc_swings_of : FnScope ["step", "much"] ["step"] (defScope s_swings_of) := ⟨rfl, rfl, rfl, by decide +kernel, rfl, by decide +kernel, by decide +kernel⟩
theorem sc_edges_of : FnScope ["step"] ["step"] (defScope s_edges_of) := ⟨rfl, rfl, rfl, by decide +kernel, rfl, by decide +kernel, by decide +kernel⟩
theorem sc_fill_first : FnScope ["pipeline", "number", "below"] ["pipeline", "number", "below"] (defScope s_fill_first) := ⟨rfl, rfl, rfl, by decide +kernel, rfl, by decide +kernel, by decide +kernel⟩
theorem sc_many_for : FnScope ["length", "gap", "drops"] ["length", "gap", "drops"] (defScope s_many_for) := ⟨rfl, rfl, rfl, by decide +kernel, rfl, by decide +kernel, by decide +kernel⟩
theorem sc_spare_any : FnScope ["p", "q"] ["p", "q"] (defScope s_spare_any) := ⟨rfl, rfl, rfl, by decide +kernel, rfl, by decide +kernel, by decide +kernel⟩
theorem sc_touch_pair : FnScope ["p", "q", "far"] ["p", "q"] (defScope s_touch_pair) := ⟨rfl, rfl, rfl, by decide +kernel, rfl, by decide +kernel, by decide +kernel⟩
theorem sc_spare_any_rows : FnScope ["p", "q"] ["p", "q"] (defScope s_spare_any_rows) := ⟨rfl, rfl, rfl, by decide +kernel, rfl, by decide +kernel, by decide +kernel⟩
theorem sc_law_box : FnScope ["_law_script", "_law_k", "_law_cell"] ["_law_script", "_law_k"] (defScope s_law_box) := ⟨rfl, rfl, rfl, by decide +kernel, rfl, by decide +kernel, by decide +kernel⟩
theorem sc_law_take : FnScope ["_law_urn", "_law_low_so", "_law_drawn", "_law_once", "_law_far", "_law_twice"] ["_law_urn", "_law_low_so"] (defScope s_law_take) := ⟨rfl, rfl, rfl, by decide +kernel, rfl, by decide +kernel, by decide +kernel⟩
theorem sc_law_cells : FnScope ["_law_script", "_law_top", "_law_cells_here", "_law_k", "_law_cell", "_law_at_so"] ["_law_script", "_law_top"] (defScope s_law_cells) := ⟨rfl, rfl, rfl, by decide +kernel, rfl, by decide +kernel, by decide +kernel⟩
theorem sc_law_of : FnScope ["_law_urn", "_law_some_so"] ["_law_urn", "_law_some_so"] (defScope s_law_of) := ⟨rfl, rfl, rfl, by decide +kernel, rfl, by decide +kernel, by decide +kernel⟩
theorem sc_law_same : FnScope ["_law_got", "_law_goal", "_law_mine_so", "_law_own"] ["_law_got", "_law_goal"] (defScope s_law_same) := ⟨rfl, rfl, rfl, by decide +kernel, rfl, by decide +kernel, by decide +kernel⟩
theorem sc_law_stride : FnScope ["_law_urn", "_law_top", "_law_sort_so", "_law_one_so", "_law_two_so"] ["_law_urn", "_law_top"] (defScope s_law_stride) := ⟨rfl, rfl, rfl, by decide +kernel, rfl, by decide +kernel, by decide +kernel⟩
theorem sc_law_line : FnScope ["_law_urn", "_law_most_so", "_law_top", "_law_turn"] ["_law_urn", "_law_most_so", "_law_top"] (defScope s_law_line) := ⟨rfl, rfl, rfl, by decide +kernel, rfl, by decide +kernel, by decide +kernel⟩
theorem sc_law_still : FnScope ["_law_urn", "_law_most_so", "_law_top", "_law_line_here", "_law_one_so", "_law_two_so", "_law_far", "_law_last_so"] ["_law_urn", "_law_most_so", "_law_top"] (defScope s_law_still) := ⟨rfl, rfl, rfl, by decide +kernel, rfl, by decide +kernel, by decide +kernel⟩
theorem sc_law_host : FnScope ["_law_line_here", "_law_sort_so", "_law_nums_so"] ["_law_line_here"] (defScope s_law_host) := ⟨rfl, rfl, rfl, by decide +kernel, rfl, by decide +kernel, by decide +kernel⟩
theorem sc_law_edges : FnScope ["_law_line_here", "_law_one_so", "_law_two_so", "_law_sort_so", "_law_nums_so"] ["_law_line_here"] (defScope s_law_edges) := ⟨rfl, rfl, rfl, by decide +kernel, rfl, by decide +kernel, by decide +kernel⟩
theorem sc_law_trip : FnScope ["_law_line_here", "_law_trip_here", "_law_sort_so", "_law_nums_so"] ["_law_line_here"] (defScope s_law_trip) := ⟨rfl, rfl, rfl, by decide +kernel, rfl, by decide +kernel, by decide +kernel⟩
theorem sc_law_spell : FnScope ["_law_line_here", "_law_high", "_law_low", "_law_spelt", "_law_here"] ["_law_line_here"] (defScope s_law_spell) := ⟨rfl, rfl, rfl, by decide +kernel, rfl, by decide +kernel, by decide +kernel⟩
theorem sc_law_rising : FnScope ["_law_pairs_so", "_law_found", "_law_own", "_law_far"] ["_law_pairs_so"] (defScope s_law_rising) := ⟨rfl, rfl, rfl, by decide +kernel, rfl, by decide +kernel, by decide +kernel⟩
theorem sc_law_one : FnScope ["_law_pairs_so", "_law_found", "_law_low", "_law_high"] ["_law_pairs_so"] (defScope s_law_one) := ⟨rfl, rfl, rfl, by decide +kernel, rfl, by decide +kernel, by decide +kernel⟩
theorem sc_law_made : FnScope ["_law_line_here", "_law_track_here", "_law_sort_so", "_law_nums_so", "_law_wide_so", "_law_low", "_law_high"] ["_law_line_here", "_law_track_here"] (defScope s_law_made) := ⟨rfl, rfl, rfl, by decide +kernel, rfl, by decide +kernel, by decide +kernel⟩
theorem sc_law_track : FnScope ["_law_urn", "_law_most_so", "_law_wide_so", "_law_hole_so", "_law_found", "_law_here", "_law_turn", "_law_far"] ["_law_urn", "_law_most_so", "_law_wide_so", "_law_hole_so"] (defScope s_law_track) := ⟨rfl, rfl, rfl, by decide +kernel, rfl, by decide +kernel, by decide +kernel⟩
theorem sc_law_first : FnScope ["_law_spelt", "_law_sign", "_law_number", "_law_most_so", "_law_seen", "_law_others", "_law_own"] ["_law_spelt", "_law_sign", "_law_number", "_law_most_so"] (defScope s_law_first) := ⟨rfl, rfl, rfl, by decide +kernel, rfl, by decide +kernel, by decide +kernel⟩
theorem sc_law_soft : FnScope ["_law_urn", "_law_sort_so", "_law_far"] ["_law_urn"] (defScope s_law_soft) := ⟨rfl, rfl, rfl, by decide +kernel, rfl, by decide +kernel, by decide +kernel⟩
theorem sc_law_due : FnScope ["_law_mine", "_law_its", "_law_spelt", "_law_its_so"] ["_law_mine", "_law_its"] (defScope s_law_due) := ⟨rfl, rfl, rfl, by decide +kernel, rfl, by decide +kernel, by decide +kernel⟩
theorem sc_law_like : FnScope ["_law_mine", "_law_its", "_law_x_so", "_law_y_so", "_law_left"] ["_law_mine", "_law_its", "_law_x_so", "_law_y_so"] (defScope s_law_like) := ⟨rfl, rfl, rfl, by decide +kernel, rfl, by decide +kernel, by decide +kernel⟩
theorem sc_law_host_right : FnScope ["_law_one_here", "_law_other", "_law_left", "_law_right_here", "_law_goal", "_law_got"] ["_law_one_here", "_law_other", "_law_left", "_law_right_here", "_law_goal"] (defScope s_law_host_right) := ⟨rfl, rfl, rfl, by decide +kernel, rfl, by decide +kernel, by decide +kernel⟩
theorem sc_law_rows_right : FnScope ["_law_mine", "_law_its", "_law_goal", "_law_one_here", "_law_other", "_law_shown", "_law_own"] ["_law_mine", "_law_its", "_law_goal"] (defScope s_law_rows_right) := ⟨rfl, rfl, rfl, by decide +kernel, rfl, by decide +kernel, by decide +kernel⟩
theorem sc_law_read : FnScope ["_law_text", "_law_found", "_law_bit", "_law_sign_so", "_law_own"] ["_law_text"] (defScope s_law_read) := ⟨rfl, rfl, rfl, by decide +kernel, rfl, by decide +kernel, by decide +kernel⟩
theorem sc_law_great : FnScope ["_law_line_here", "_law_sort_so", "_law_nums_so", "_law_own"] ["_law_line_here"] (defScope s_law_great) := ⟨rfl, rfl, rfl, by decide +kernel, rfl, by decide +kernel, by decide +kernel⟩
theorem sc_law_by_hand_right : FnScope ["_law_pairs_so", "_law_one_so", "_law_two_so", "_law_goal", "_law_mine", "_law_its"] [] (defScope s_law_by_hand_right) := ⟨rfl, rfl, rfl, by decide +kernel, rfl, by decide +kernel, by decide +kernel⟩
theorem sc_law_right : FnScope ["_law_urn", "_law_turn", "_law_mine", "_law_its", "_law_goal", "_law_again_so", "_law_x_so", "_law_y_so", "_law_one_here", "_law_other"] ["_law_urn"] (defScope s_law_right) := ⟨rfl, rfl, rfl, by decide +kernel, rfl, by decide +kernel, by decide +kernel⟩
theorem sc_law : FnScope ["_law_script", "_law_cells_here", "_law_k"] ["_law_script"] (defScope s_law) := ⟨rfl, rfl, rfl, by decide +kernel, rfl, by decide +kernel, by decide +kernel⟩
theorem sc_Row_or : FnScope ["self", "other"] ["self", "other"] (defScope s_Row_or) := ⟨rfl, rfl, rfl, by decide +kernel, rfl, by decide +kernel, by decide +kernel⟩
theorem sc_Row_eq : FnScope ["self", "other"] ["self", "other"] (defScope s_Row_eq) := ⟨rfl, rfl, rfl, by decide +kernel, rfl, by decide +kernel, by decide +kernel⟩
theorem sc_Step_init : FnScope ["self", "kind", "amounts", "own"] ["self", "kind", "amounts"] (defScope s_Step_init) := ⟨rfl, rfl, rfl, by decide +kernel, rfl, by decide +kernel, by decide +kernel⟩
theorem sc_Step_call : FnScope ["self", "row", "ahead", "after", "pair"] ["self", "row"] (defScope s_Step_call) := ⟨rfl, rfl, rfl, by decide +kernel, rfl, by decide +kernel, by decide +kernel⟩
theorem sc_Pipeline_call : FnScope ["self", "row", "step"] ["self", "row"] (defScope s_Pipeline_call) := ⟨rfl, rfl, rfl, by decide +kernel, rfl, by decide +kernel, by decide +kernel⟩
theorem sc_Row_spans : FnScope ["self"] ["self"] (defScope s_Row_spans) := ⟨rfl, rfl, rfl, by decide +kernel, rfl, by decide +kernel, by decide +kernel⟩
theorem sc_Step_kind : FnScope ["self"] ["self"] (defScope s_Step_kind) := ⟨rfl, rfl, rfl, by decide +kernel, rfl, by decide +kernel, by decide +kernel⟩
theorem sc_Step_amounts : FnScope ["self"] ["self"] (defScope s_Step_amounts) := ⟨rfl, rfl, rfl, by decide +kernel, rfl, by decide +kernel, by decide +kernel⟩
theorem sc_Pipeline_heights : FnScope ["self", "found", "step", "swing"] ["self"] (defScope s_Pipeline_heights) := ⟨rfl, rfl, rfl, by decide +kernel, rfl, by decide +kernel, by decide +kernel⟩
theorem sc_Pipeline_word : FnScope ["self"] ["self"] (defScope s_Pipeline_word) := ⟨rfl, rfl, rfl, by decide +kernel, rfl, by decide +kernel, by decide +kernel⟩
theorem sc_Pipeline_fills : FnScope ["self"] ["self"] (defScope s_Pipeline_fills) := ⟨rfl, rfl, rfl, by decide +kernel, rfl, by decide +kernel, by decide +kernel⟩
theorem sc_Pipeline_drops : FnScope ["self"] ["self"] (defScope s_Pipeline_drops) := ⟨rfl, rfl, rfl, by decide +kernel, rfl, by decide +kernel, by decide +kernel⟩
theorem sc_Pipeline_starts : FnScope ["self", "step"] ["self"] (defScope s_Pipeline_starts) := ⟨rfl, rfl, rfl, by decide +kernel, rfl, by decide +kernel, by decide +kernel⟩
theorem sc_Pipeline_ends : FnScope ["self", "step"] ["self"] (defScope s_Pipeline_ends) := ⟨rfl, rfl, rfl, by decide +kernel, rfl, by decide +kernel, by decide +kernel⟩
theorem sc_Row_init : FnScope ["self", "pairs", "own", "pair"] ["self", "pairs"] (defScope s_Row_init) := ⟨rfl, rfl, rfl, by decide +kernel, rfl, by decide +kernel, by decide +kernel⟩
theorem sc_Pipeline_init : FnScope ["self", "steps"] ["self", "steps"] (defScope s_Pipeline_init) := ⟨rfl, rfl, rfl, by decide +kernel, rfl, by decide +kernel, by decide +kernel⟩
/-- a def of the module, by its global name -/
structure Dn (K : PySem.W.Frag) (mg : Str → Option Value) (gx x : Str) (st : Stmt) where
  f : Addr
  fd : FuncData
  F : Fun K x x st f fd
  g : mg gx = some (.ref f)
/-- a method, a property of C -/
structure Mn (K : PySem.W.Frag) (C : Addr) (x qual : Str) (st : Stmt) where
  f : Addr
  fd : FuncData
  F : Fun K x qual st f fd
  m : Meth K C x f
structure Pn (K : PySem.W.Frag) (C : Addr) (x qual : Str) (st : Stmt) where
  f : Addr
  fd : FuncData
  p : Addr
  F : Fun K x qual st f fd
  pr : PropOf K C x p f
/-- a class of the module -/
structure Cn (K : PySem.W.Frag) (mg : Str → Option Value) (x : Str) where
  C : Addr
  g : mg x = some (.ref C)
  cl : Cls K C
  kp : PySem.W.keepIn K (.ref C) = true
  ma : PySem.W.makesIn K C = true
structure Top (w : World) (K : PySem.W.Frag) (mg : Str → Option Value) where
  is_number : Dn K mg "is_number" "is_number" s_is_number
  pair_of : Dn K mg "pair_of" "pair_of" s_pair_of
  tupled : Dn K mg "tupled" "tupled" s_tupled
  run_together : Dn K mg "run_together" "run_together" s_run_together
  letters : Dn K mg "letters" "letters" s_letters
  along : Dn K mg "along" "along" s_along
  ahead : Dn K mg "ahead" "ahead" s_ahead
  drops_ahead : Dn K mg "drops_ahead" "drops_ahead" s_drops_ahead
  joined : Dn K mg "joined_spans" "joined" s_joined
  comb : Dn K mg "comb" "comb" s_comb
  is_good : Dn K mg "is_good" "is_good" s_is_good
  filled : Dn K mg "filled" "filled" s_filled
  moved : Dn K mg "moved" "moved" s_moved
  swings_of : Dn K mg "swings_of" "swings_of" s_swings_of
  edges_of : Dn K mg "edges_of" "edges_of" s_edges_of
  fill_first : Dn K mg "fill_first" "fill_first" s_fill_first
  many_for : Dn K mg "many_for" "many_for" s_many_for
  spare_any : Dn K mg "spare_any" "spare_any" s_spare_any
  touch_pair : Dn K mg "touch_pair" "touch_pair" s_touch_pair
  spare_any_rows : Dn K mg "spare_any_rows" "spare_any_rows" s_spare_any_rows
  law_box : Dn K mg "_law_box" "_law_box" s_law_box
  law_take : Dn K mg "_law_take" "_law_take" s_law_take
  law_cells : Dn K mg "_law_cells" "_law_cells" s_law_cells
  law_of : Dn K mg "_law_of" "_law_of" s_law_of
  law_same : Dn K mg "_law_same" "_law_same" s_law_same
  law_stride : Dn K mg "_law_stride" "_law_stride" s_law_stride
  law_line : Dn K mg "_law_line" "_law_line" s_law_line
  law_still : Dn K mg "_law_still" "_law_still" s_law_still
  law_host : Dn K mg "_law_host" "_law_host" s_law_host
  law_edges : Dn K mg "_law_edges" "_law_edges" s_law_edges
  law_trip : Dn K mg "_law_trip" "_law_trip" s_law_trip
  law_spell : Dn K mg "_law_spell" "_law_spell" s_law_spell
  law_rising : Dn K mg "_law_rising" "_law_rising" s_law_rising
  law_one : Dn K mg "_law_one" "_law_one" s_law_one
  law_made : Dn K mg "_law_made" "_law_made" s_law_made
  law_track : Dn K mg "_law_track" "_law_track" s_law_track
  law_first : Dn K mg "_law_first" "_law_first" s_law_first
  law_soft : Dn K mg "_law_soft" "_law_soft" s_law_soft
  law_due : Dn K mg "_law_due" "_law_due" s_law_due
  law_like : Dn K mg "_law_like" "_law_like" s_law_like
  law_host_right : Dn K mg "_law_host_right" "_law_host_right" s_law_host_right
  law_rows_right : Dn K mg "_law_rows_right" "_law_rows_right" s_law_rows_right
  law_read : Dn K mg "_law_read" "_law_read" s_law_read
  law_great : Dn K mg "_law_great" "_law_great" s_law_great
  law_by_hand_right : Dn K mg "_law_by_hand_right" "_law_by_hand_right" s_law_by_hand_right
  law_right : Dn K mg "_law_right" "_law_right" s_law_right
  law : Dn K mg "law" "law" s_law
  Row : Cn K mg "Row"
  n_own_spans : NoAttr K Row.C "own_spans"
  Row_or : Mn K Row.C "__or__" "Row.__or__" s_Row_or
  Row_eq : Mn K Row.C "__eq__" "Row.__eq__" s_Row_eq
  Row_spans : Pn K Row.C "spans" "Row.spans" s_Row_spans
  Step : Cn K mg "Step"
  n_own_kind : NoAttr K Step.C "own_kind"
  n_own_amounts : NoAttr K Step.C "own_amounts"
  Step_init : Mn K Step.C "__init__" "Step.__init__" s_Step_init
  Step_call : Mn K Step.C "__call__" "Step.__call__" s_Step_call
  Step_kind : Pn K Step.C "kind" "Step.kind" s_Step_kind
  Step_amounts : Pn K Step.C "amounts" "Step.amounts" s_Step_amounts
  Pipeline : Cn K mg "Pipeline"
  n_own_steps : NoAttr K Pipeline.C "own_steps"
  Pipeline_call : Mn K Pipeline.C "__call__" "Pipeline.__call__" s_Pipeline_call
  Pipeline_heights : Pn K Pipeline.C "heights" "Pipeline.heights" s_Pipeline_heights
  Pipeline_word : Pn K Pipeline.C "word" "Pipeline.word" s_Pipeline_word
  Pipeline_fills : Pn K Pipeline.C "fills" "Pipeline.fills" s_Pipeline_fills
  Pipeline_drops : Pn K Pipeline.C "drops" "Pipeline.drops" s_Pipeline_drops
  Pipeline_starts : Pn K Pipeline.C "starts" "Pipeline.starts" s_Pipeline_starts
  Pipeline_ends : Pn K Pipeline.C "ends" "Pipeline.ends" s_Pipeline_ends
  e0 : Addr
  e0_t : SqT K (fun _ => none) e0 []
  Row_init_f : Addr
  Row_init_fd : FuncData
  Row_init_F : FunD K "__init__" "Row.__init__" (defArgs s_Row_init) (defBody s_Row_init) (defScope s_Row_init) [.ref e0] [] Row_init_f Row_init_fd
  Row_init_m : Meth K Row.C "__init__" Row_init_f
  e1 : Addr
  Pipeline_init_f : Addr
  Pipeline_init_fd : FuncData
  Pipeline_init_F : FunD K "__init__" "Pipeline.__init__" (defArgs s_Pipeline_init) (defBody s_Pipeline_init) (defScope s_Pipeline_init) [.ref e1] [] Pipeline_init_f Pipeline_init_fd
  Pipeline_init_m : Meth K Pipeline.C "__init__" Pipeline_init_f
  row_first : PySem.W.selfFirst K Row.C = true
  row_cls : PySem.W.findIn K (.ref Row.C) "__class__" = some (some (.builtin "object.__class__"))
  cls_get : PySem.W.specialIn K (.builtin "object.__class__") "__get__" = some (some (.builtin "getset_descriptor.__get__"))
  cls_tak : PySem.W.takesIn K (.builtin "object.__class__") = some true
  row_mro : PySem.W.mroIn K Row.C (.type "object") = some true
  step_fi : PySem.W.fnIn K Step_call.f = true
  pipe_fi : PySem.W.fnIn K Pipeline_call.f = true
  tF : Tok
  tD : Tok
  FILL : mg "FILL" = some (.str "fill" tF)
  DROP : mg "DROP" = some (.str "drop" tD)
  am : Addr
  am_g : mg "AMOUNTS" = some (.ref am)
  am_d : ∃ es n, KDict K w am es n
  am_f : ∃ t, PySem.W.nsIn K am "fill" = some (some (.int 1 t))
  am_dr : ∃ t, PySem.W.nsIn K am "drop" = some (some (.int 1 t))
  am_w : ∃ t, PySem.W.nsIn K am "widen" = some (some (.int 2 t))
  am_t : ∃ t, PySem.W.nsIn K am "trim" = some (some (.int 2 t))
  am_s : ∃ t, PySem.W.nsIn K am "shift" = some (some (.int 1 t))
  b_len : mg "len" = none
  b_sum : mg "sum" = none
  b_max : mg "max" = none
  b_min : mg "min" = none
  b_abs : mg "abs" = none
  b_all : mg "all" = none
  b_isinstance : mg "isinstance" = none
  b_range : mg "range" = none
  b_enumerate : mg "enumerate" = none
  b_zip : mg "zip" = none
  b_sorted : mg "sorted" = none
  b_int : mg "int" = none
  b_bool : mg "bool" = none
  b_list : mg "list" = none
  b_tuple : mg "tuple" = none
  b_str : mg "str" = none
section
variable {w : World} {K : PySem.W.Frag} {mg : Str → Option Value} (T : Top w K mg)
include T
theorem b_is_number : L2.Binds K T.is_number.fd ["thing"] [] := T.is_number.F.binds (ps := ["thing"]) fun _ _ _ _ _ _ us hl => match us, hl with | [_], _ => rfl
theorem b_pair_of : L2.Binds K T.pair_of.fd ["pair"] [] := T.pair_of.F.binds (ps := ["pair"]) fun _ _ _ _ _ _ us hl => match us, hl with | [_], _ => rfl
theorem b_tupled : L2.Binds K T.tupled.fd ["thing"] [] := T.tupled.F.binds (ps := ["thing"]) fun _ _ _ _ _ _ us hl => match us, hl with | [_], _ => rfl
theorem b_run_together : L2.Binds K T.run_together.fd ["runs"] [] := T.run_together.F.binds (ps := ["runs"]) fun _ _ _ _ _ _ us hl => match us, hl with | [_], _ => rfl
theorem b_letters : L2.Binds K T.letters.fd ["word"] [] := T.letters.F.binds (ps := ["word"]) fun _ _ _ _ _ _ us hl => match us, hl with | [_], _ => rfl
theorem b_along : L2.Binds K T.along.fd ["heights"] [] := T.along.F.binds (ps := ["heights"]) fun _ _ _ _ _ _ us hl => match us, hl with | [_], _ => rfl
theorem b_ahead : L2.Binds K T.ahead.fd ["word", "kind", "number"] [] := T.ahead.F.binds (ps := ["word", "kind", "number"]) fun _ _ _ _ _ _ us hl => match us, hl with | [_, _, _], _ => rfl
theorem b_drops_ahead : L2.Binds K T.drops_ahead.fd ["word", "number"] [] := T.drops_ahead.F.binds (ps := ["word", "number"]) fun _ _ _ _ _ _ us hl => match us, hl with | [_, _], _ => rfl
theorem b_joined : L2.Binds K T.joined.fd ["pairs"] [] := T.joined.F.binds (ps := ["pairs"]) fun _ _ _ _ _ _ us hl => match us, hl with | [_], _ => rfl
theorem b_comb : L2.Binds K T.comb.fd ["first", "length", "gap", "many"] [] := T.comb.F.binds (ps := ["first", "length", "gap", "many"]) fun _ _ _ _ _ _ us hl => match us, hl with | [_, _, _, _], _ => rfl
theorem b_is_good : L2.Binds K T.is_good.fd ["kind", "amounts"] [] := T.is_good.F.binds (ps := ["kind", "amounts"]) fun _ _ _ _ _ _ us hl => match us, hl with | [_, _], _ => rfl
theorem b_filled : L2.Binds K T.filled.fd ["spans", "gap"] [] := T.filled.F.binds (ps := ["spans", "gap"]) fun _ _ _ _ _ _ us hl => match us, hl with | [_, _], _ => rfl
theorem b_moved : L2.Binds K T.moved.fd ["spans", "ahead", "after"] [] := T.moved.F.binds (ps := ["spans", "ahead", "after"]) fun _ _ _ _ _ _ us hl => match us, hl with | [_, _, _], _ => rfl
theorem b_swings_of : L2.Binds K T.swings_of.fd ["step"] [] := T.swings_of.F.binds (ps := ["step"]) fun _ _ _ _ _ _ us hl => match us, hl with | [_], _ => rfl
theorem b_edges_of : L2.Binds K T.edges_of.fd ["step"] [] := T.edges_of.F.binds (ps := ["step"]) fun _ _ _ _ _ _ us hl => match us, hl with | [_], _ => rfl
theorem b_fill_first : L2.Binds K T.fill_first.fd ["pipeline", "number", "below"] [] := T.fill_first.F.binds (ps := ["pipeline", "number", "below"]) fun _ _ _ _ _ _ us hl => match us, hl with | [_, _, _], _ => rfl
theorem b_many_for : L2.Binds K T.many_for.fd ["length", "gap", "drops"] [] := T.many_for.F.binds (ps := ["length", "gap", "drops"]) fun _ _ _ _ _ _ us hl => match us, hl with | [_, _, _], _ => rfl
theorem b_spare_any : L2.Binds K T.spare_any.fd ["p", "q"] [] := T.spare_any.F.binds (ps := ["p", "q"]) fun _ _ _ _ _ _ us hl => match us, hl with | [_, _], _ => rfl
theorem b_touch_pair : L2.Binds K T.touch_pair.fd ["p", "q"] [] := T.touch_pair.F.binds (ps := ["p", "q"]) fun _ _ _ _ _ _ us hl => match us, hl with | [_, _], _ => rfl
theorem b_spare_any_rows : L2.Binds K T.spare_any_rows.fd ["p", "q"] [] := T.spare_any_rows.F.binds (ps := ["p", "q"]) fun _ _ _ _ _ _ us hl => match us, hl with | [_, _], _ => rfl
theorem b_law_box : L2.Binds K T.law_box.fd ["_law_script", "_law_k"] [] := T.law_box.F.binds (ps := ["_law_script", "_law_k"]) fun _ _ _ _ _ _ us hl => match us, hl with | [_, _], _ => rfl
theorem b_law_take : L2.Binds K T.law_take.fd ["_law_urn", "_law_low_so"] [] := T.law_take.F.binds (ps := ["_law_urn", "_law_low_so"]) fun _ _ _ _ _ _ us hl => match us, hl with | [_, _], _ => rfl
theorem b_law_cells : L2.Binds K T.law_cells.fd ["_law_script", "_law_top"] [] := T.law_cells.F.binds (ps := ["_law_script", "_law_top"]) fun _ _ _ _ _ _ us hl => match us, hl with | [_, _], _ => rfl
theorem b_law_of : L2.Binds K T.law_of.fd ["_law_urn", "_law_some_so"] [] := T.law_of.F.binds (ps := ["_law_urn", "_law_some_so"]) fun _ _ _ _ _ _ us hl => match us, hl with | [_, _], _ => rfl
theorem b_law_same : L2.Binds K T.law_same.fd ["_law_got", "_law_goal"] [] := T.law_same.F.binds (ps := ["_law_got", "_law_goal"]) fun _ _ _ _ _ _ us hl => match us, hl with | [_, _], _ => rfl
theorem b_law_stride : L2.Binds K T.law_stride.fd ["_law_urn", "_law_top"] [] := T.law_stride.F.binds (ps := ["_law_urn", "_law_top"]) fun _ _ _ _ _ _ us hl => match us, hl with | [_, _], _ => rfl
theorem b_law_line : L2.Binds K T.law_line.fd ["_law_urn", "_law_most_so", "_law_top"] [] := T.law_line.F.binds (ps := ["_law_urn", "_law_most_so", "_law_top"]) fun _ _ _ _ _ _ us hl => match us, hl with | [_, _, _], _ => rfl
theorem b_law_still : L2.Binds K T.law_still.fd ["_law_urn", "_law_most_so", "_law_top"] [] := T.law_still.F.binds (ps := ["_law_urn", "_law_most_so", "_law_top"]) fun _ _ _ _ _ _ us hl => match us, hl with | [_, _, _], _ => rfl
theorem b_law_host : L2.Binds K T.law_host.fd ["_law_line_here"] [] := T.law_host.F.binds (ps := ["_law_line_here"]) fun _ _ _ _ _ _ us hl => match us, hl with | [_], _ => rfl
theorem b_law_edges : L2.Binds K T.law_edges.fd ["_law_line_here"] [] := T.law_edges.F.binds (ps := ["_law_line_here"]) fun _ _ _ _ _ _ us hl => match us, hl with | [_], _ => rfl
theorem b_law_trip : L2.Binds K T.law_trip.fd ["_law_line_here"] [] := T.law_trip.F.binds (ps := ["_law_line_here"]) fun _ _ _ _ _ _ us hl => match us, hl with | [_], _ => rfl
theorem b_law_spell : L2.Binds K T.law_spell.fd ["_law_line_here"] [] := T.law_spell.F.binds (ps := ["_law_line_here"]) fun _ _ _ _ _ _ us hl => match us, hl with | [_], _ => rfl
theorem b_law_rising : L2.Binds K T.law_rising.fd ["_law_pairs_so"] [] := T.law_rising.F.binds (ps := ["_law_pairs_so"]) fun _ _ _ _ _ _ us hl => match us, hl with | [_], _ => rfl
theorem b_law_one : L2.Binds K T.law_one.fd ["_law_pairs_so"] [] := T.law_one.F.binds (ps := ["_law_pairs_so"]) fun _ _ _ _ _ _ us hl => match us, hl with | [_], _ => rfl
theorem b_law_made : L2.Binds K T.law_made.fd ["_law_line_here", "_law_track_here"] [] := T.law_made.F.binds (ps := ["_law_line_here", "_law_track_here"]) fun _ _ _ _ _ _ us hl => match us, hl with | [_, _], _ => rfl
theorem b_law_track : L2.Binds K T.law_track.fd ["_law_urn", "_law_most_so", "_law_wide_so", "_law_hole_so"] [] := T.law_track.F.binds (ps := ["_law_urn", "_law_most_so", "_law_wide_so", "_law_hole_so"]) fun _ _ _ _ _ _ us hl => match us, hl with | [_, _, _, _], _ => rfl
theorem b_law_first : L2.Binds K T.law_first.fd ["_law_spelt", "_law_sign", "_law_number", "_law_most_so"] [] := T.law_first.F.binds (ps := ["_law_spelt", "_law_sign", "_law_number", "_law_most_so"]) fun _ _ _ _ _ _ us hl => match us, hl with | [_, _, _, _], _ => rfl
theorem b_law_soft : L2.Binds K T.law_soft.fd ["_law_urn"] [] := T.law_soft.F.binds (ps := ["_law_urn"]) fun _ _ _ _ _ _ us hl => match us, hl with | [_], _ => rfl
theorem b_law_due : L2.Binds K T.law_due.fd ["_law_mine", "_law_its"] [] := T.law_due.F.binds (ps := ["_law_mine", "_law_its"]) fun _ _ _ _ _ _ us hl => match us, hl with | [_, _], _ => rfl
theorem b_law_like : L2.Binds K T.law_like.fd ["_law_mine", "_law_its", "_law_x_so", "_law_y_so"] [] := T.law_like.F.binds (ps := ["_law_mine", "_law_its", "_law_x_so", "_law_y_so"]) fun _ _ _ _ _ _ us hl => match us, hl with | [_, _, _, _], _ => rfl
theorem b_law_host_right : L2.Binds K T.law_host_right.fd ["_law_one_here", "_law_other", "_law_left", "_law_right_here", "_law_goal"] [] := T.law_host_right.F.binds (ps := ["_law_one_here", "_law_other", "_law_left", "_law_right_here", "_law_goal"]) fun _ _ _ _ _ _ us hl => match us, hl with | [_, _, _, _, _], _ => rfl
theorem b_law_rows_right : L2.Binds K T.law_rows_right.fd ["_law_mine", "_law_its", "_law_goal"] [] := T.law_rows_right.F.binds (ps := ["_law_mine", "_law_its", "_law_goal"]) fun _ _ _ _ _ _ us hl => match us, hl with | [_, _, _], _ => rfl
theorem b_law_read : L2.Binds K T.law_read.fd ["_law_text"] [] := T.law_read.F.binds (ps := ["_law_text"]) fun _ _ _ _ _ _ us hl => match us, hl with | [_], _ => rfl
theorem b_law_great : L2.Binds K T.law_great.fd ["_law_line_here"] [] := T.law_great.F.binds (ps := ["_law_line_here"]) fun _ _ _ _ _ _ us hl => match us, hl with | [_], _ => rfl
theorem b_law_by_hand_right : L2.Binds K T.law_by_hand_right.fd [] [] := T.law_by_hand_right.F.binds (ps := []) fun _ _ _ _ _ _ us hl => match us, hl with | [], _ => rfl
theorem b_law_right : L2.Binds K T.law_right.fd ["_law_urn"] [] := T.law_right.F.binds (ps := ["_law_urn"]) fun _ _ _ _ _ _ us hl => match us, hl with | [_], _ => rfl
theorem b_law : L2.Binds K T.law.fd ["_law_script"] [] := T.law.F.binds (ps := ["_law_script"]) fun _ _ _ _ _ _ us hl => match us, hl with | [_], _ => rfl
theorem b_Row_or : L2.Binds K T.Row_or.fd ["self", "other"] [] := T.Row_or.F.binds (ps := ["self", "other"]) fun _ _ _ _ _ _ us hl => match us, hl with | [_, _], _ => rfl
theorem b_Row_eq : L2.Binds K T.Row_eq.fd ["self", "other"] [] := T.Row_eq.F.binds (ps := ["self", "other"]) fun _ _ _ _ _ _ us hl => match us, hl with | [_, _], _ => rfl
theorem b_Step_init : L2.Binds K T.Step_init.fd ["self", "kind", "amounts"] [] := T.Step_init.F.binds (ps := ["self", "kind", "amounts"]) fun _ _ _ _ _ _ us hl => match us, hl with | [_, _, _], _ => rfl
theorem b_Step_call : L2.Binds K T.Step_call.fd ["self", "row"] [] := T.Step_call.F.binds (ps := ["self", "row"]) fun _ _ _ _ _ _ us hl => match us, hl with | [_, _], _ => rfl
theorem b_Pipeline_call : L2.Binds K T.Pipeline_call.fd ["self", "row"] [] := T.Pipeline_call.F.binds (ps := ["self", "row"]) fun _ _ _ _ _ _ us hl => match us, hl with | [_, _], _ => rfl
theorem b_Row_spans : L2.Binds K T.Row_spans.fd ["self"] [] := T.Row_spans.F.binds (ps := ["self"]) fun _ _ _ _ _ _ us hl => match us, hl with | [_], _ => rfl
theorem b_Step_kind : L2.Binds K T.Step_kind.fd ["self"] [] := T.Step_kind.F.binds (ps := ["self"]) fun _ _ _ _ _ _ us hl => match us, hl with | [_], _ => rfl
theorem b_Step_amounts : L2.Binds K T.Step_amounts.fd ["self"] [] := T.Step_amounts.F.binds (ps := ["self"]) fun _ _ _ _ _ _ us hl => match us, hl with | [_], _ => rfl
theorem b_Pipeline_heights : L2.Binds K T.Pipeline_heights.fd ["self"] [] := T.Pipeline_heights.F.binds (ps := ["self"]) fun _ _ _ _ _ _ us hl => match us, hl with | [_], _ => rfl
theorem b_Pipeline_word : L2.Binds K T.Pipeline_word.fd ["self"] [] := T.Pipeline_word.F.binds (ps := ["self"]) fun _ _ _ _ _ _ us hl => match us, hl with | [_], _ => rfl
theorem b_Pipeline_fills : L2.Binds K T.Pipeline_fills.fd ["self"] [] := T.Pipeline_fills.F.binds (ps := ["self"]) fun _ _ _ _ _ _ us hl => match us, hl with | [_], _ => rfl
theorem b_Pipeline_drops : L2.Binds K T.Pipeline_drops.fd ["self"] [] := T.Pipeline_drops.F.binds (ps := ["self"]) fun _ _ _ _ _ _ us hl => match us, hl with | [_], _ => rfl
theorem b_Pipeline_starts : L2.Binds K T.Pipeline_starts.fd ["self"] [] := T.Pipeline_starts.F.binds (ps := ["self"]) fun _ _ _ _ _ _ us hl => match us, hl with | [_], _ => rfl
theorem b_Pipeline_ends : L2.Binds K T.Pipeline_ends.fd ["self"] [] := T.Pipeline_ends.F.binds (ps := ["self"]) fun _ _ _ _ _ _ us hl => match us, hl with | [_], _ => rfl
theorem Top.Step_mk : Mk K T.Step.C T.Step_init.f := ⟨T.Step.ma, T.Step_init.m.at_, T.Step_init.m.fn, T.Step.kp⟩
theorem Top.Pipeline_mk : Mk K T.Pipeline.C T.Pipeline_init_f := ⟨T.Pipeline.ma, T.Pipeline_init_m.at_, T.Pipeline_init_m.fn, T.Pipeline.kp⟩
theorem Top.Row_mk : Mk K T.Row.C T.Row_init_f := ⟨T.Row.ma, T.Row_init_m.at_, T.Row_init_m.fn, T.Row.kp⟩
end
end Cw
namespace Cw
open PySem PySem.Spec PyProof.Rows L2
open Evl (Ex ex_l ex_t sq_of st_of sz_of sz_lt fresh_back)
theorem gnew {H H1 : Hp} {p : Addr} {o : HO} (np : H p = none) (e : upd H p o = H1) : Ex H H1 ∧ H1 p = some o := ⟨e ▸ Evl.Ex.new np, e ▸ upd_same⟩
/-- a list of ours changes -/
theorem gset {H0 H H1 : Hp} {p : Addr} {xs ys : List V} (e0 : Ex H0 H) (np : H0 p = none) (hp : H p = some (.lst xs)) (e : upd H p (.lst ys) = H1) : Ex H0 H1 ∧ Kp H H1 ∧ H1 p = some (.lst ys) := ⟨e ▸ e0.mut np, e ▸ Kp.set hp, e ▸ upd_same⟩
/-- a new list -/
def spNL {α β : Type} (R : Rp α) (S : Rp β) (ok : α → Prop) (f : α → List β) : Sp := fun vs H Q _ => ∃ v d, vs = [v] ∧ R v H d ∧ ok d ∧ ∀ p ys H', Ex H H' → H p = none → H' p = some (.lst ys) → All2 S H' ys (f d) → Q (.ref p) H'
/-- an instance x of C without fields, to be given fields of which G holds -/
def Filled (x C : Addr) (H : Hp) (G : List (Str × V) → Hp → Prop) (Q : VK) : Prop := ∃ dx, H x = some (.ins C dx []) ∧ ∀ fs H', (∀ b o, b ≠ x → H b = some o → H' b = some o) → H' x = some (.ins C dx fs) → G fs H' → Q .non H'
theorem exmk {H1 : Hp} {C x dx : Addr} (hx : H1 x = none) (hdx : H1 dx = none) (hne : dx ≠ x) : Ex H1 (upd (upd H1 dx (.own x)) x (.ins C dx [])) := fun b o e => by
  rw [upd_ne (ne_of_none e hx), upd_ne (ne_of_none e hdx)]
  exact e
theorem made {C : Addr} {H1 : Hp} {Q : VK} {G : List (Str × V) → Hp → Prop} {x dx : Addr} (hx : H1 x = none) (hdx : H1 dx = none) (hne : dx ≠ x) (h : ∀ a dx fs H', Ex H1 H' → H' a = some (.ins C dx fs) → G fs H' → Q (.ref a) H') :
    Filled x C (upd (upd H1 dx (.own x)) x (.ins C dx [])) G (fun v H2 => v = .non ∧ Q (.ref x) H2) := by
  refine ⟨dx, upd_same, fun fs H' hk hx' hG => ⟨rfl, h x dx fs H' (fun b o e => hk b o (ne_of_none e hx) (exmk hx hdx hne b o e)) hx' hG⟩⟩
/-- a field of x is stored -/
theorem ginsE {H0 H H1 : Hp} {x : Addr} {o : HO} (e : upd H x o = H1) (k : ∀ b u, b ≠ x → H0 b = some u → H b = some u) : (∀ b u, b ≠ x → H0 b = some u → H1 b = some u) ∧ H1 x = some o := by
  subst e
  exact ⟨fun b u hb h => by rw [upd_ne hb]; exact k b u hb h, upd_same⟩
end Cw
namespace Cw
open PySem PySem.Spec PyProof.Rows L2
open Evl (Ex ex_l ex_t sq_of st_of sz_of sz_lt fresh_back)
open Cs (Pr Stp Line)
section
variable {P : Program} {w : World} {K : PySem.W.Frag} {mg : Str → Option Value} {base : Heap} (T : Top w K mg)
include T
theorem ok_pair_of : FnOk P w K mg base CX0 1 T.pair_of.f T.pair_of.fd ["pair"] (sp1 (iPr K) (iPr K) (fun _ => True) id) := by
  refine T.pair_of.F.ok sc_pair_of (fun vs H Q E h => ?_) (fun cdv A outer s H vs Q E hr h => ?_)
  · obtain ⟨v, d, rfl, _⟩ := h; rfl
  · obtain ⟨v, ⟨i, j⟩, rfl, ⟨a, x, y, rfl, hS, hx, hy⟩, _, q⟩ := h
    cases hx; cases hy
    refine ⟨_, (pss_one (ps_ret (pe_tup (pa_cons (pe_ix ix_tup (pv 0) pe_int (fun _ _ => rfl)) (pa_cons (pe_ix ix_tup (pv 0) pe_int (fun _ _ => rfl)) pa_nil))))), ?_⟩
    refine ⟨_, rfl, a, _, 0, _, rfl, rfl, st_of hS, rfl, _, rfl, a, _, 1, _, rfl, rfl, st_of hS, rfl, sz2, fun p np => ?_⟩
    generalize hu : upd _ p _ = H1
    obtain ⟨e1, h1⟩ := gnew np hu
    exact q _ _ e1 (i2_of h1 rfl rfl)
theorem ok_is_number : FnOk P w K mg base CX0 1 T.is_number.f T.is_number.fd ["thing"] (sp1 iI iB (fun _ => True) fun _ => true) := by
  refine T.is_number.F.ok sc_is_number (fun vs H Q E h => ?_) (fun cdv A outer s H vs Q E hr h => ?_)
  · obtain ⟨v, d, rfl, _⟩ := h; rfl
  · obtain ⟨v, d, rfl, hv, _, q⟩ := h
    cases hv
    refine ⟨_, (pss_one (ps_ret (pe_and (pe_callB call_isi (by rfl) T.b_isinstance (by decide +kernel) (pa_cons (pv 0) (pa_cons (pe_bltn (v := .ty "int") (by rfl) T.b_int (by decide +kernel) rfl) pa_nil))) (pe_one (pe_not (pe_callB call_isi (by rfl) T.b_isinstance (by decide +kernel) (pa_cons (pv 0) (pa_cons (pe_bltn (v := .ty "bool") (by rfl) T.b_bool (by decide +kernel) rfl) pa_nil)))))))), ?_⟩
    refine ⟨_, rfl, _, _, _, _, true, rfl, .ty _, .base (.int _), kit_ty (by decide +kernel), true, rfl, iteT ?_⟩
    refine ⟨_, rfl, _, _, _, _, false, rfl, .ty _, .base (.int _), kit_ty (by decide +kernel), false, rfl, ?_⟩
    exact q _ _ (Evl.Ex.refl _) rfl
end
end Cw
namespace Cw
open PySem PySem.Spec PyProof.Rows L2
open Evl (Ex ex_l ex_t sq_of st_of sz_of sz_lt fresh_back)
open Cs (Pr Stp Line)
section
variable {P : Program} {w : World} {K : PySem.W.Frag} {mg : Str → Option Value} {base : Heap} (T : Top w K mg)
include T
omit T in
theorem rstep_snoc (F : List Run) (q r : Run) : Cs.rstep (F ++ [q]) r = if 0 < r.2 ∧ q.1 = r.1 then F ++ [(r.1, q.2 + r.2)] else if 0 < r.2 then (F ++ [q]) ++ [r] else F ++ [q] := by
  unfold Cs.rstep
  rw [List.getLast?_concat]
  dsimp only
  rw [List.dropLast_concat]
theorem ok_run_together : FnOk P w K mg base CX0 1 T.run_together.f T.run_together.fd ["runs"] (sp1 (iL K (iRun K)) (iT K (iRun K)) (fun l => l.length ≤ 1000) Cs.together) := by
  refine T.run_together.F.ok sc_run_together (fun vs H Q E h => ?_) (fun cdv A outer s H vs Q E hr h => ?_)
  · obtain ⟨v, d, rfl, _⟩ := h; rfl
  · obtain ⟨v, l, rfl, ⟨a, xs, rfl, hS, hA⟩, hl, q⟩ := h
    refine ⟨_, (pss_cons (ps_set (i := 1) sc_run_together.nd rfl (Or.inl rfl) (pe_lst pa_nil))
  (pss_cons (ps_for PassesOwn.never rfl (pi_list (pv 0)) (pg_tup rfl (pgs_cons (pg_name (i := 2) sc_run_together.nd rfl (Or.inl rfl)) (pgs_cons (pg_name (i := 3) sc_run_together.nd rfl (Or.inl rfl)) pgs_nil)))
  (pss_one (ps_if (PW.pt (pw_and (pt_cmpR op_gt (pv 3) pe_int (nomark _)) (pw_and (pt_cmpR op_gt (pe_callB call_len_seq (by rfl) T.b_len (by decide +kernel) (pa_cons (pv 1) pa_nil)) pe_int (nomark _)) (pw_and1 (pt_cmpR op_eq (pe_ix ix_tup (pe_ix ix_list (pv 1) (pe_un un_neg pe_int) (fun _ _ => rfl)) pe_int (fun _ _ => rfl)) (pv 2) (nomark _)))))) (pss_one (ps_asg (pe_tup (pa_cons (pv 2) (pa_cons (pe_op op_add (pe_ix ix_tup (pe_ix ix_list (pv 1) (pe_un un_neg pe_int) (fun _ _ => rfl)) pe_int (fun _ _ => rfl)) (pv 3)) pa_nil))) (pg_sub (pv 1) (pe_un un_neg pe_int) set_list))) (pss_one (ps_if (pt_cmpR op_gt (pv 3) pe_int (nomark _)) (pss_one (ps_expr (pe_bm PySem.F.plainAttrs_list PySem.F.slot_list_append PySem.F.type_list_append mt_append (pv 1) (pa_cons (pe_tup (pa_cons (pv 2) (pa_cons (pv 3) pa_nil))) pa_nil)))) pss_nil)))))
  (pss_one (ps_ret (pe_callTy call_tuple_of (by rfl) T.b_tuple (by decide +kernel) (pa_cons (pv 1) pa_nil)))))), ?_⟩
    refine ⟨sz0, fun o no => ?_⟩
    generalize hu : upd _ o _ = H1
    obtain ⟨e1, h1⟩ := gnew no hu
    refine ⟨_, rfl, a, rfl, ⟨_, ex_l e1 hS⟩, ?_⟩
    refine forL (R := iRun K) (l := l) (xs := xs) (fun r σ' H' => ∃ F ys y2 y3, σ' = [some (.ref a), some (.ref o), y2, y3] ∧ Ex H H' ∧ Kp H1 H' ∧ H' o = some (.lst ys) ∧ All2 (iRun K) H' ys F ∧ F.length + r.length ≤ 1000 ∧ r.foldl Cs.rstep F = Cs.together l)
      (hA.up (kp e1)) ⟨[], [], none, none, rfl, e1, Kp.refl _, h1, trivial, by simpa using hl, rfl⟩ (fun r σ' H' h => ?_) (fun pre d r x σ' H' el hx h => ?_) (fun σ' H' h => ?_)
    · obtain ⟨F, ys, y2, y3, rfl, eH, kH, ho, hF, hn, hf⟩ := h
      exact ⟨kH, ex_l eH hS⟩
    · obtain ⟨F, ys, y2, y3, rfl, eH, kH, ho, hF, hn, hf⟩ := h
      obtain ⟨k, m⟩ := d
      obtain ⟨t, x1, x2, rfl, hT, hk, hm⟩ := hx
      cases hk; cases hm
      have ff : r.foldl Cs.rstep (Cs.rstep F (k, m)) = Cs.together l := hf
      have hn' : F.length + r.length + 1 ≤ 1000 := by simpa [Nat.add_assoc] using hn
      have hy : ys.length < sizeLine := sz_lt (by rw [hF.len]; omega)
      refine ⟨t, _, rfl, st_of hT, rfl, _, _, rfl, _, _, rfl, rfl, ?_⟩
      refine ⟨_, rfl, _, _, rfl, rfl, _, rfl, iteD (fun c0 => ?_) (fun c0 => ?_)⟩
      · refine ⟨_, rfl, o, _, rfl, .inl (sq_of ho), _, _, rfl, rfl, _, rfl, iteD (fun c1 => ?_) (fun c1 => ?_)⟩
        · rcases snocs F with rfl | ⟨F', ⟨k', m'⟩, rfl⟩
          · rw [hF.len] at c1
            exact absurd c1 (by simp)
          · obtain ⟨zs, z, rfl, hZ, t2, z1, z2, rfl, hT2, hk2, hm2⟩ := All2.ofSnoc hF
            cases hk2; cases hm2
            refine ⟨_, rfl, _, rfl, _, _, _, _, rfl, rfl, sq_of ho, atI_last _ _, _, _, _, _, rfl, rfl, st_of hT2, rfl, _, rfl, rfl, _, rfl, iteD (fun c2 => ?_) (fun c2 => ?_)⟩
            · have c2 := kind_inj.mp c2
              subst c2
              refine ⟨_, rfl, _, rfl, _, rfl, _, _, _, _, rfl, rfl, sq_of ho, atI_last _ _, _, _, _, _, rfl, rfl, st_of hT2, rfl, _, rfl, _, _, rfl, rfl, sz2, fun p np => ?_⟩
              generalize hu : upd _ p _ = H2
              obtain ⟨e2, h2⟩ := gnew np hu
              refine ⟨_, rfl, _, rfl, o, _, _, _, rfl, rfl, e2 _ _ ho, ixN_last _ _, ?_⟩
              rw [set_last]
              generalize hu : upd _ o _ = H3
              obtain ⟨e3, k3, h3⟩ := gset (eH.trans e2) no (e2 _ _ ho) hu
              rw [rstep_snoc, if_pos ⟨c0, rfl⟩] at ff
              exact ⟨_, _, _, _, rfl, e3, (kH.trans (kp e2)).trans k3, h3, ((hZ.up (kp e2)).up k3).snoc (Mono.up (R := iRun K) k3 (i2_of h2 rfl rfl)), by simp at hn' ⊢; omega, ff⟩
            · have c2 : k' ≠ k := fun z => c2 (kind_inj.mpr z)
              rw [rstep_snoc, if_neg (fun z => c2 z.2), if_pos c0] at ff
              refine ⟨_, rfl, _, _, rfl, rfl, _, rfl, iteY c0 ?_⟩
              refine ⟨_, rfl, .inl ⟨rfl, _, sq_of ho⟩, _, rfl, _, rfl, sz2, fun p np => ?_⟩
              generalize hu : upd _ p _ = H2
              obtain ⟨e2, h2⟩ := gnew np hu
              refine ⟨o, _, _, rfl, rfl, e2 _ _ ho, hy, ?_⟩
              generalize hu : upd _ o _ = H3
              obtain ⟨e3, k3, h3⟩ := gset (eH.trans e2) no (e2 _ _ ho) hu
              exact ⟨_, _, _, _, rfl, e3, (kH.trans (kp e2)).trans k3, h3, ((hF.up (kp e2)).up k3).snoc (Mono.up (R := iRun K) k3 (i2_of h2 rfl rfl)), by simpa [Nat.add_assoc, Nat.add_comm, Nat.add_left_comm] using hn', ff⟩
        · have e0 : F = [] := by
            cases F with
            | nil => rfl
            | cons u v => exact absurd (by rw [hF.len]; simp) c1
          subst e0
          have ff : r.foldl Cs.rstep (([] : List Run) ++ [(k, m)]) = Cs.together l := by
            have z : Cs.rstep [] (k, m) = [(k, m)] := if_pos c0
            rw [z] at ff
            exact ff
          refine ⟨_, rfl, _, _, rfl, rfl, _, rfl, iteY c0 ?_⟩
          refine ⟨_, rfl, .inl ⟨rfl, _, sq_of ho⟩, _, rfl, _, rfl, sz2, fun p np => ?_⟩
          generalize hu : upd _ p _ = H2
          obtain ⟨e2, h2⟩ := gnew np hu
          refine ⟨o, _, _, rfl, rfl, e2 _ _ ho, hy, ?_⟩
          generalize hu : upd _ o _ = H3
          obtain ⟨e3, k3, h3⟩ := gset (eH.trans e2) no (e2 _ _ ho) hu
          exact ⟨_, _, _, _, rfl, e3, (kH.trans (kp e2)).trans k3, h3, ((hF.up (kp e2)).up k3).snoc (Mono.up (R := iRun K) k3 (i2_of h2 rfl rfl)), by simpa [Nat.add_assoc, Nat.add_comm, Nat.add_left_comm] using hn', ff⟩
      · refine ⟨_, rfl, _, _, rfl, rfl, _, rfl, iteN c0 ?_⟩
        have z : Cs.rstep F (k, m) = F := by
          rcases snocs F with rfl | ⟨F', q', rfl⟩
          · exact if_neg c0
          · rw [rstep_snoc, if_neg (fun z => c0 z.1), if_neg c0]
        rw [z] at ff
        exact ⟨F, ys, _, _, rfl, eH, kH, ho, hF, by omega, ff⟩
    · obtain ⟨F, ys, y2, y3, rfl, eH, kH, ho, hF, hn, hf⟩ := h
      refine ⟨_, rfl, o, _, rfl, .inl ⟨sq_of ho, fun p np => ?_⟩⟩
      generalize hu : upd _ p _ = H2
      obtain ⟨e2, h2⟩ := gnew np hu
      exact q _ _ (eH.trans e2) (hf ▸ iT_of h2 (hF.up (kp e2)))
end
end Cw
namespace Cw
open PySem PySem.Spec PyProof.Rows L2
open Evl (Ex ex_l ex_t sq_of st_of sz_of sz_lt fresh_back)
open Cs (Pr Stp Line)
section
variable {P : Program} {w : World} {K : PySem.W.Frag} {mg : Str → Option Value} {base : Heap} (T : Top w K mg)
include T
omit T in
theorem letters_fm (k : Bool) : ∀ W : List Run, W.filterMap (fun r => if r.1 = k then some r.2 else none) = ((W.filter fun r => r.1 == k).map (·.2))
  | [] => rfl
  | r :: W => by
    rw [List.filterMap_cons, List.filter_cons]
    by_cases h : r.1 = k
    · rw [if_pos h, if_pos (by simpa using h), List.map_cons, letters_fm k W]
    · rw [if_neg h, if_neg (by simpa using h), letters_fm k W]
theorem ok_letters : FnOk P w K mg base CX0 1 T.letters.f T.letters.fd ["word"] (sp1 (iT K (iRun K)) (iPr K) (fun l => l.length ≤ 1000) fun l => (Cs.lettersOf true l, Cs.lettersOf false l)) := by
  refine T.letters.F.ok sc_letters (fun vs H Q E h => ?_) (fun cdv A outer s H vs Q E hr h => ?_)
  · obtain ⟨v, d, rfl, _⟩ := h; rfl
  · obtain ⟨v, l, rfl, ⟨a, xs, rfl, hS, hA⟩, hl, q⟩ := h
    refine ⟨_, (pss_cons (ps_set (i := 1) sc_letters.nd rfl (Or.inl rfl) (pe_callB (cr_sum rfl) (by rfl) T.b_sum (by decide +kernel) (pa_cons (pe_lc (own := [("own", 2), ("many", 3)]) (g := (gTup K 2 (gCons (gName 2) (gCons (gName 3) gNil)))) rfl sc_letters.nd (pi_tup (pv 0)) (blkOk_by (own := [("own", 2), ("many", 3)]) (N := ["word", "fills", "own", "many"]) (sc := defScope s_letters) (by decide +kernel)) (fun _ _ _ _ _ => (pg_tup rfl (pgs_cons (pg_name (i := 2) sc_letters.nd rfl (Or.inl rfl)) (pgs_cons (pg_name (i := 3) sc_letters.nd rfl (Or.inl rfl)) pgs_nil)))) (fun _ _ _ _ _ => (pts_one (pt_cmpR op_eq (pv 2) (pe_glob (v := .str "fill") (by rfl) T.FILL ⟨_, rfl⟩) (nomark _)))) (fun _ _ _ _ _ => (pv 3))) pa_nil)))
  (pss_one (ps_ret (pe_tup (pa_cons (pv 1) (pa_cons (pe_callB (cr_sum rfl) (by rfl) T.b_sum (by decide +kernel) (pa_cons (pe_lc (own := [("own", 2), ("many", 3)]) (g := (gTup K 2 (gCons (gName 2) (gCons (gName 3) gNil)))) rfl sc_letters.nd (pi_tup (pv 0)) (blkOk_by (own := [("own", 2), ("many", 3)]) (N := ["word", "fills", "own", "many"]) (sc := defScope s_letters) (by decide +kernel)) (fun _ _ _ _ _ => (pg_tup rfl (pgs_cons (pg_name (i := 2) sc_letters.nd rfl (Or.inl rfl)) (pgs_cons (pg_name (i := 3) sc_letters.nd rfl (Or.inl rfl)) pgs_nil)))) (fun _ _ _ _ _ => (pts_one (pt_cmpR op_eq (pv 2) (pe_glob (v := .str "drop") (by rfl) T.DROP ⟨_, rfl⟩) (nomark _)))) (fun _ _ _ _ _ => (pv 3))) pa_nil)) pa_nil)))))), ?_⟩
    refine ⟨_, rfl, a, rfl, ⟨_, hS⟩, fun D nD => ?_⟩
    refine lcT (R := iRun K) (S := iI) (l := l) (fun r => if r.1 = true then some r.2 else none) hS hA nD (by omega) (fun x d H1 _ e1 hx Q1 N1 q1 q2 => ?_) fun H1 ys e1 hD hY => ?_
    · obtain ⟨k, m⟩ := d
      obtain ⟨t, x1, x2, rfl, hT, hk, hm⟩ := hx
      cases hk; cases hm
      refine ⟨t, _, rfl, st_of hT, rfl, _, _, rfl, _, _, rfl, rfl, rfl, ?_⟩
      refine ⟨_, rfl, rfl, _, rfl, iteD (fun c => ?_) (fun c => ?_)⟩
      · exact ⟨_, rfl, q1 m (if_pos (kind_inj.mp c)) _ _ (Evl.Ex.refl _) rfl⟩
      · exact q2 (if_neg fun z => c (kind_inj.mpr z)) _ (Evl.Ex.refl _)
    rw [all2_int hY] at hD
    refine ⟨D, _, rfl, sq_of hD, ?_⟩
    refine ⟨_, rfl, _, rfl, a, rfl, ⟨_, ex_t e1 hS⟩, fun D2 nD2 => ?_⟩
    refine lcT (R := iRun K) (S := iI) (l := l) (fun r => if r.1 = false then some r.2 else none) (ex_t e1 hS) (hA.up (kp e1)) nD2 (by omega) (fun x d H1 _ e1 hx Q1 N1 q1 q2 => ?_) fun H2 ys2 e2 hD2 hY2 => ?_
    · obtain ⟨k, m⟩ := d
      obtain ⟨t, x1, x2, rfl, hT, hk, hm⟩ := hx
      cases hk; cases hm
      refine ⟨t, _, rfl, st_of hT, rfl, _, _, rfl, _, _, rfl, rfl, rfl, ?_⟩
      refine ⟨_, rfl, rfl, _, rfl, iteD (fun c => ?_) (fun c => ?_)⟩
      · exact ⟨_, rfl, q1 m (if_pos (kind_inj.mp c)) _ _ (Evl.Ex.refl _) rfl⟩
      · exact q2 (if_neg fun z => c (kind_inj.mpr z)) _ (Evl.Ex.refl _)
    rw [all2_int hY2] at hD2
    refine ⟨D2, _, rfl, sq_of hD2, sz2, fun p np => ?_⟩
    generalize hu : upd _ p _ = H3
    obtain ⟨e3, h3⟩ := gnew np hu
    rw [letters_fm, letters_fm] at h3
    exact q _ _ ((e1.trans e2).trans e3) (i2_of h3 rfl rfl)
end
end Cw
namespace Cw
open PySem PySem.Spec PyProof.Rows L2
open Evl (Ex ex_l ex_t sq_of st_of sz_of sz_lt fresh_back)
open Cs (Pr Stp Line)
section
variable {P : Program} {w : World} {K : PySem.W.Frag} {mg : Str → Option Value} {base : Heap} (T : Top w K mg)
include T
theorem ok_along : FnOk P w K mg base CX0 4 T.along.f T.along.fd ["heights"] (sp1 (iT K iI) (iT K (iRun K)) (fun l => l.length ≤ 500) Cs.along) := by
  refine T.along.F.ok sc_along (fun vs H Q E h => ?_) (fun cdv A outer s H vs Q E hr h => ?_)
  · obtain ⟨v, d, rfl, _⟩ := h; rfl
  · obtain ⟨v, l, rfl, ⟨a, xs, rfl, hS, hA⟩, hl, q⟩ := h
    refine ⟨_, (pss_cons (ps_set (i := 1) sc_along.nd rfl (Or.inl rfl) (pe_lst pa_nil))
  (pss_cons (ps_asg (pe_tup (pa_cons pe_int (pa_cons pe_int pa_nil))) (pg_tup rfl (pgs_cons (pg_name (i := 2) sc_along.nd rfl (Or.inl rfl)) (pgs_cons (pg_name (i := 3) sc_along.nd rfl (Or.inl rfl)) pgs_nil))))
  (pss_cons (ps_for PassesOwn.never rfl (pi_tup (pv 0)) (pg_name (i := 4) sc_along.nd rfl (Or.inl rfl))
  (pss_cons (ps_expr (pe_bm PySem.F.plainAttrs_list PySem.F.slot_list_append PySem.F.type_list_append mt_append (pv 1) (pa_cons (pe_tup (pa_cons (pe_glob (v := .str "fill") (by rfl) T.FILL ⟨_, rfl⟩) (pa_cons (pe_op op_sub (pv 4) (pv 2)) pa_nil))) pa_nil)))
  (pss_cons (ps_expr (pe_bm PySem.F.plainAttrs_list PySem.F.slot_list_append PySem.F.type_list_append mt_append (pv 1) (pa_cons (pe_tup (pa_cons (pe_glob (v := .str "drop") (by rfl) T.DROP ⟨_, rfl⟩) (pa_cons (pe_op op_sub (pv 3) (pv 4)) pa_nil))) pa_nil)))
  (pss_one (ps_par (i := 2) (j := 3) rfl sc_along.nd rfl rfl (by decide) rfl rfl (pa_cons (pe_callB (call_max2 rfl) (by rfl) T.b_max (by decide +kernel) (pa_cons (pv 2) (pa_cons (pv 4) pa_nil))) (pa_cons (pe_callB (call_min2 rfl) (by rfl) T.b_min (by decide +kernel) (pa_cons (pv 3) (pa_cons (pv 4) pa_nil))) pa_nil)) (by rfl))))))
  (pss_one (ps_ret (pe_call (ok_run_together T) (hr.mono (by decide)) (by rfl) T.run_together.g T.run_together.F.kp (b_run_together T) .nil pass0 (pa_cons (pv 1) pa_nil))))))), ?_⟩
    refine ⟨sz0, fun o no => ?_⟩
    generalize hu : upd _ o _ = H1
    obtain ⟨e1, h1⟩ := gnew no hu
    refine ⟨sz2, fun p0 np0 => ?_⟩
    generalize hu : upd _ p0 _ = H1b
    obtain ⟨e1b, h1b⟩ := gnew np0 hu
    replace h1 := e1b _ _ h1
    replace e1 := e1.trans e1b
    refine ⟨p0, _, rfl, st_of h1b, rfl, _, _, rfl, _, _, rfl, rfl, ?_⟩
    refine ⟨_, rfl, a, rfl, ⟨_, ex_t e1 hS⟩, ?_⟩
    refine forT (R := iI) (l := l) (xs := xs) (fun r σ' H' => ∃ F ys hi lo y, σ' = [some (.ref a), some (.ref o), some (.int hi), some (.int lo), y] ∧ Ex H H' ∧ Kp H1b H' ∧ H' o = some (.lst ys) ∧ All2 (iRun K) H' ys F ∧ F.length + 2 * r.length ≤ 1000 ∧ F ++ Cs.rawRuns hi lo r = Cs.rawRuns 0 0 l)
      (ex_t e1 hS) (hA.up (kp e1)) ⟨[], [], 0, 0, none, rfl, e1, Kp.refl _, h1, trivial, by simpa using (by omega : 2 * l.length ≤ 1000), rfl⟩ (fun r σ' H' h => ?_) (fun pre d r x σ' H' el hx h => ?_) (fun σ' H' h => ?_)
    · obtain ⟨F, ys, hi, lo, y, rfl, eH, kH, ho, hF, hn, hf⟩ := h
      exact kH
    · obtain ⟨F, ys, hi, lo, y, rfl, eH, kH, ho, hF, hn, hf⟩ := h
      cases hx
      have hn' : F.length + 2 * r.length + 2 ≤ 1000 := by simp at hn; omega
      refine ⟨_, rfl, .inl ⟨rfl, _, sq_of ho⟩, _, rfl, _, rfl, _, _, rfl, rfl, sz2, fun p np => ?_⟩
      generalize hu : upd _ p _ = H2
      obtain ⟨e2, h2⟩ := gnew np hu
      refine ⟨o, _, _, rfl, rfl, e2 _ _ ho, sz_lt (by rw [hF.len]; omega), ?_⟩
      generalize hu : upd _ o _ = H3
      obtain ⟨e3, k3, h3⟩ := gset (eH.trans e2) no (e2 _ _ ho) hu
      have hF3 := ((hF.up (kp e2)).up k3).snoc (Mono.up (R := iRun K) k3 (i2_of (d := true) (e := d - hi) h2 rfl rfl))
      refine ⟨_, rfl, .inl ⟨rfl, _, sq_of h3⟩, _, rfl, _, rfl, _, _, rfl, rfl, sz2, fun p2 np2 => ?_⟩
      generalize hu : upd _ p2 _ = H4
      obtain ⟨e4, h4⟩ := gnew np2 hu
      refine ⟨o, _, _, rfl, rfl, e4 _ _ h3, sz_lt (by rw [hF3.len]; simp; omega), ?_⟩
      generalize hu : upd _ o _ = H5
      obtain ⟨e5, k5, h5⟩ := gset (e3.trans e4) no (e4 _ _ h3) hu
      have hF5 := ((hF3.up (kp e4)).up k5).snoc (Mono.up (R := iRun K) k5 (i2_of (d := false) (e := lo - d) h4 rfl rfl))
      refine ⟨_, rfl, _, rfl, _, _, rfl, _, rfl, _, rfl, _, _, rfl, _, _, rfl, ?_⟩
      refine ⟨_, _, _, _, _, rfl, e5, ((kH.trans (kp e2)).trans k3).trans ((kp e4).trans k5), h5, hF5, by simp; omega, ?_⟩
      rw [← hf, List.append_assoc, List.append_assoc]
      rfl
    · obtain ⟨F, ys, hi, lo, y, rfl, eH, kH, ho, hF, hn, hf⟩ := h
      refine ⟨_, rfl, _, F, rfl, iL_of ho hF, by omega, fun v H2 e2 hv => ?_⟩
      refine q v H2 (eH.trans e2) ?_
      have z : F = Cs.rawRuns 0 0 l := by rw [← hf]; simp [Cs.rawRuns]
      rw [z] at hv
      exact hv
end
end Cw
namespace Cw
open PySem PySem.Spec PyProof.Rows L2
open Evl (Ex ex_l ex_t sq_of st_of sz_of sz_lt fresh_back)
open Cs (Pr Stp Line)
section
variable {P : Program} {w : World} {K : PySem.W.Frag} {mg : Str → Option Value} {base : Heap} (T : Top w K mg)
include T
omit T in
/-- what a value stands for, read off the heap -/
def unP (H : Hp) : V → Pr
  | .ref t => match H t with
    | some (.tup [.int i, .int j]) => (i, j)
    | _ => (0, 0)
  | _ => (0, 0)
omit T in
theorem unP_at {K : PySem.W.Frag} {H : Hp} {x : V} {p : Pr} (h : iPr K x H p) : (∃ t, x = .ref t ∧ H t = some (.tup [.int (unP H x).1, .int (unP H x).2])) ∧ unP H x = p := by
  obtain ⟨t, a, b, rfl, hT, ha, hb⟩ := h
  cases ha; cases hb
  have e : unP H (.ref t) = p := by
    show (match H t with | some (.tup [.int i, .int j]) => (i, j) | _ => (0, 0)) = p
    rw [hT]
  rw [e]
  exact ⟨⟨t, rfl, hT⟩, rfl⟩
omit T in
theorem all2_unP {K : PySem.W.Frag} {H : Hp} : ∀ {xs : List V} {l : List Pr}, All2 (iPr K) H xs l → (∀ x ∈ xs, iPr K x H (unP H x)) ∧ xs.map (unP H) = l
  | [], [], _ => ⟨fun x hx => (by cases hx), rfl⟩
  | x :: xs, d :: ds, h => by
    obtain ⟨a, b⟩ := all2_unP h.2
    have e := (unP_at h.1).2
    refine ⟨fun y hy => ?_, by rw [List.map_cons, e, b]⟩
    rcases List.mem_cons.mp hy with rfl | hy
    · rw [e]; exact h.1
    · exact a y hy
  | [], _ :: _, h => h.elim
  | _ :: _, [], h => h.elim
omit T in
theorem all2_map {α : Type} {R : Rp α} {H : Hp} {f : V → α} : ∀ {xs : List V}, (∀ x ∈ xs, R x H (f x)) → All2 R H xs (xs.map f)
  | [], _ => trivial
  | x :: xs, h => ⟨h x (List.mem_cons_self ..), all2_map fun y hy => h y (List.mem_cons_of_mem _ hy)⟩
theorem ok_joined : FnOk P w K mg base CX0 1 T.joined.f T.joined.fd ["pairs"] (sp1 (iL K (iPr K)) (iT K (iPr K)) (fun l => Cs.Pos l ∧ l.length ≤ 1000) Cs.nf) := by
  refine T.joined.F.ok sc_joined (fun vs H Q E h => ?_) (fun cdv A outer s H vs Q E hr h => ?_)
  · obtain ⟨v, d, rfl, _⟩ := h; rfl
  · obtain ⟨v, l, rfl, ⟨a, xs, rfl, hS, hA⟩, ⟨hp, hl⟩, q⟩ := h
    refine ⟨_, (pss_cons (ps_set (i := 1) sc_joined.nd rfl (Or.inl rfl) (pe_lst pa_nil))
  (pss_cons (ps_for PassesOwn.never rfl (pi_list (pe_callB cr_sortedPO (by rfl) T.b_sorted (by decide +kernel) (pa_cons (pv 0) pa_nil))) (pg_tup rfl (pgs_cons (pg_name (i := 2) sc_joined.nd rfl (Or.inl rfl)) (pgs_cons (pg_name (i := 3) sc_joined.nd rfl (Or.inl rfl)) pgs_nil)))
  (pss_one (ps_if (PW.pt (pw_and (pt_cmpR op_gt (pe_callB call_len_seq (by rfl) T.b_len (by decide +kernel) (pa_cons (pv 1) pa_nil)) pe_int (nomark _)) (pw_and1 (pt_cmpR op_le (pv 2) (pe_ix ix_tup (pe_ix ix_list (pv 1) (pe_un un_neg pe_int) (fun _ _ => rfl)) pe_int (fun _ _ => rfl)) (nomark _))))) (pss_one (ps_asg (pe_tup (pa_cons (pe_ix ix_tup (pe_ix ix_list (pv 1) (pe_un un_neg pe_int) (fun _ _ => rfl)) pe_int (fun _ _ => rfl)) (pa_cons (pe_callB (call_max2 rfl) (by rfl) T.b_max (by decide +kernel) (pa_cons (pe_ix ix_tup (pe_ix ix_list (pv 1) (pe_un un_neg pe_int) (fun _ _ => rfl)) pe_int (fun _ _ => rfl)) (pa_cons (pv 3) pa_nil))) pa_nil))) (pg_sub (pv 1) (pe_un un_neg pe_int) set_list))) (pss_one (ps_expr (pe_bm PySem.F.plainAttrs_list PySem.F.slot_list_append PySem.F.type_list_append mt_append (pv 1) (pa_cons (pe_tup (pa_cons (pv 2) (pa_cons (pv 3) pa_nil))) pa_nil)))))))
  (pss_one (ps_ret (pe_callTy call_tuple_of (by rfl) T.b_tuple (by decide +kernel) (pa_cons (pv 1) pa_nil)))))), ?_⟩
    refine ⟨sz0, fun o no => ?_⟩
    generalize hu : upd _ o _ = H1
    obtain ⟨e1, h1⟩ := gnew no hu
    have hA1 := hA.up (kp e1)
    obtain ⟨u1, u2⟩ := all2_unP hA1
    refine ⟨_, rfl, a, xs, unP H1, rfl, ex_l e1 hS, fun x hx => (unP_at (u1 x hx)).1, fun ys c hs hb nc => ?_⟩
    generalize hu : upd _ c _ = H2
    obtain ⟨e2, h2⟩ := gnew nc hu
    refine ⟨c, rfl, ⟨_, sq_of h2⟩, ?_⟩
    have hY : All2 (iPr K) H2 ys (ys.map (unP H1)) := (all2_map fun x hx => u1 x (hb.perm.mem_iff.mp hx)).up (kp e2)
    have hpm : (ys.map (unP H1)).Perm l := u2 ▸ hb.perm.map _
    have hso : (ys.map (unP H1)).Pairwise (fun p q => p.1 ≤ q.1) := by
      rw [List.pairwise_map]
      exact hs.imp fun {x y} z => by
        have z := SrtO.lexB_no.mp z
        omega
    have hmg : Cs.merge (ys.map (unP H1)) = Cs.nf l := Cs.merge_nf hp hpm hso
    have hle : (ys.map (unP H1)).length ≤ 1000 := by rw [hpm.length_eq]; exact hl
    generalize ys.map (unP H1) = M at hY hmg hle
    have nco : c ≠ o := fun z => by rw [z, h1] at nc; cases nc
    refine forL (R := iPr K) (l := M) (xs := ys) (fun r σ' H' => ∃ F zs y2 y3, σ' = [some (.ref a), some (.ref o), y2, y3] ∧ Ex H H' ∧ Kp H2 H' ∧ H' c = some (.lst ys) ∧ H' o = some (.lst zs) ∧ All2 (iPr K) H' zs F ∧ F.length + r.length ≤ 1000 ∧ r.foldl Cs.mstep F = Cs.nf l)
      hY ⟨[], [], none, none, rfl, e1.trans e2, Kp.refl _, h2, e2 _ _ h1, trivial, by simpa using hle, hmg⟩ (fun r σ' H' h => ?_) (fun pre d r x σ' H' el hx h => ?_) (fun σ' H' h => ?_)
    · obtain ⟨F, zs, y2, y3, rfl, eH, kH, hc, ho, hF, hn, hf⟩ := h
      exact ⟨kH, sq_of hc⟩
    · obtain ⟨F, zs, y2, y3, rfl, eH, kH, hc, ho, hF, hn, hf⟩ := h
      obtain ⟨i, j⟩ := d
      obtain ⟨t, x1, x2, rfl, hT, hk, hm⟩ := hx
      cases hk; cases hm
      have ff : r.foldl Cs.mstep (Cs.mstep F (i, j)) = Cs.nf l := hf
      have hn' : F.length + r.length + 1 ≤ 1000 := by simpa [Nat.add_assoc] using hn
      refine ⟨t, _, rfl, st_of hT, rfl, _, _, rfl, _, _, rfl, rfl, ?_⟩
      refine ⟨_, rfl, o, _, rfl, .inl (sq_of ho), _, _, rfl, rfl, _, rfl, iteD (fun c1 => ?_) (fun c1 => ?_)⟩
      · rcases snocs F with rfl | ⟨F', ⟨i', j'⟩, rfl⟩
        · rw [hF.len] at c1
          exact absurd c1 (by simp)
        · obtain ⟨ws, z, rfl, hZ, t2, z1, z2, rfl, hT2, hk2, hm2⟩ := All2.ofSnoc hF
          cases hk2; cases hm2
          rw [Cs.mstep_snoc] at ff
          refine ⟨_, rfl, _, rfl, _, rfl, _, _, _, _, rfl, rfl, sq_of ho, atI_last _ _, _, _, _, _, rfl, rfl, st_of hT2, rfl, _, _, rfl, rfl, _, rfl, iteD (fun c2 => ?_) (fun c2 => ?_)⟩
          · rw [if_pos c2] at ff
            refine ⟨_, rfl, _, rfl, _, _, _, _, rfl, rfl, sq_of ho, atI_last _ _, _, _, _, _, rfl, rfl, st_of hT2, rfl, ?_⟩
            refine ⟨_, rfl, _, rfl, _, _, _, _, rfl, rfl, sq_of ho, atI_last _ _, _, _, _, _, rfl, rfl, st_of hT2, rfl, _, rfl, _, _, rfl, sz2, fun p np => ?_⟩
            generalize hu : upd _ p _ = H3
            obtain ⟨e3, h3⟩ := gnew np hu
            refine ⟨_, rfl, _, rfl, o, _, _, _, rfl, rfl, e3 _ _ ho, ixN_last _ _, ?_⟩
            rw [set_last]
            generalize hu : upd _ o _ = H4
            obtain ⟨e4, k4, h4⟩ := gset (eH.trans e3) no (e3 _ _ ho) hu
            have h4c : H4 c = some (.lst ys) := by rw [← hu, upd_ne nco]; exact e3 _ _ hc
            exact ⟨_, _, _, _, rfl, e4, (kH.trans (kp e3)).trans k4, h4c, h4, ((hZ.up (kp e3)).up k4).snoc (Mono.up (R := iPr K) k4 (i2_of h3 rfl rfl)), by simp at hn' ⊢; omega, ff⟩
          · rw [if_neg c2] at ff
            refine ⟨_, rfl, .inl ⟨rfl, _, sq_of ho⟩, _, rfl, _, rfl, sz2, fun p np => ?_⟩
            generalize hu : upd _ p _ = H3
            obtain ⟨e3, h3⟩ := gnew np hu
            refine ⟨o, _, _, rfl, rfl, e3 _ _ ho, sz_lt (by rw [hF.len]; simp at hn' ⊢; omega), ?_⟩
            generalize hu : upd _ o _ = H4
            obtain ⟨e4, k4, h4⟩ := gset (eH.trans e3) no (e3 _ _ ho) hu
            have h4c : H4 c = some (.lst ys) := by rw [← hu, upd_ne nco]; exact e3 _ _ hc
            exact ⟨_, _, _, _, rfl, e4, (kH.trans (kp e3)).trans k4, h4c, h4, ((hF.up (kp e3)).up k4).snoc (Mono.up (R := iPr K) k4 (i2_of h3 rfl rfl)), by simp at hn' ⊢; omega, ff⟩
      · have e0 : F = [] := by
          cases F with
          | nil => rfl
          | cons u v => exact absurd (by rw [hF.len]; simp) c1
        subst e0
        refine ⟨_, rfl, .inl ⟨rfl, _, sq_of ho⟩, _, rfl, _, rfl, sz2, fun p np => ?_⟩
        generalize hu : upd _ p _ = H3
        obtain ⟨e3, h3⟩ := gnew np hu
        refine ⟨o, _, _, rfl, rfl, e3 _ _ ho, sz_lt (by rw [hF.len]; simp), ?_⟩
        generalize hu : upd _ o _ = H4
        obtain ⟨e4, k4, h4⟩ := gset (eH.trans e3) no (e3 _ _ ho) hu
        have h4c : H4 c = some (.lst ys) := by rw [← hu, upd_ne nco]; exact e3 _ _ hc
        exact ⟨_, _, _, _, rfl, e4, (kH.trans (kp e3)).trans k4, h4c, h4, ((hF.up (kp e3)).up k4).snoc (Mono.up (R := iPr K) k4 (i2_of h3 rfl rfl)), by simp at hn' ⊢; omega, ff⟩
    · obtain ⟨F, zs, y2, y3, rfl, eH, kH, hc, ho, hF, hn, hf⟩ := h
      refine ⟨_, rfl, o, _, rfl, .inl ⟨sq_of ho, fun p np => ?_⟩⟩
      generalize hu : upd _ p _ = H3
      obtain ⟨e3, h3⟩ := gnew np hu
      exact q _ _ (eH.trans e3) (hf ▸ iT_of h3 (hF.up (kp e3)))
end
end Cw
namespace Cw
open PySem PySem.Spec PyProof.Rows L2
open Evl (Ex ex_l ex_t sq_of st_of sz_of sz_lt fresh_back)
open Cs (Pr Stp Line)
section
variable {P : Program} {w : World} {K : PySem.W.Frag} {mg : Str → Option Value} {base : Heap} (T : Top w K mg)
include T
/-- Row(pairs): what its __init__ is asked -/
def spRow (K : PySem.W.Frag) (C : Addr) (R : Rp (List Pr)) : Sp := fun vs H Q _ => ∃ x v l, vs = [.ref x, v] ∧ R v H l ∧ Cs.Pos l ∧ l.length ≤ 1000 ∧ Filled x C H (fun fs H' => ∃ y, fs = [(("own_spans" : Str), y)] ∧ iT K (iPr K) y H' (Cs.nf l)) Q
theorem ok_Row_initT : FnOk P w K mg base CX0 4 T.Row_init_f T.Row_init_fd ["self", "pairs"] (spRow K T.Row.C (iT K (iPr K))) := by
  refine T.Row_init_F.ok sc_Row_init (fun vs H Q E h => ?_) (fun cdv A outer s H vs Q E hr h => ?_)
  · obtain ⟨x, v, l, rfl, _⟩ := h; rfl
  · obtain ⟨x, v, l, rfl, ⟨a, xs, rfl, hS, hA⟩, hp, hl, dx, hx, q⟩ := h
    refine ⟨_, PSs.nox (pss_cons (ps_setLc (i := 2) (own := [("pair", 3)]) (g := (gName 3)) (tt := tYes) rfl sc_Row_init.nd rfl rfl (sw_true rfl rfl rfl (by decide +kernel)) (pi_tup (pv 1)) (blkOk_by (own := [("pair", 3)]) (N := ["self", "pairs", "own", "pair"]) (sc := defScope s_Row_init) (by decide +kernel)) (fun _ _ _ _ _ => (pg_name (i := 3) sc_Row_init.nd rfl (Or.inl rfl))) (fun _ _ _ _ _ => pts_nil) (fun _ _ _ _ _ => (pe_call (ok_pair_of T) (hr.mono (by decide)) (by rfl) T.pair_of.g T.pair_of.F.kp (b_pair_of T) .nil pass0 (pa_cons (pv 3) pa_nil))))
  (pss_cons (ps_for PassesOwn.never rfl (pi_list (pv 2)) (pg_name (i := 3) sc_Row_init.nd rfl (Or.inl rfl))
  (pss_one (ps_if (pt_cmpR op_ge (pe_ix ix_tup (pv 3) pe_int (fun _ _ => rfl)) (pe_ix ix_tup (pv 3) pe_int (fun _ _ => rfl)) (nomark _)) (pss_one (ps_never)) pss_nil)))
  (pss_one (ps_fld (pv 0) (pe_call (ok_joined T) (hr.mono (by decide)) (by rfl) T.joined.g T.joined.F.kp (b_joined T) .nil pass0 (pa_cons (pv 2) pa_nil)) rfl)))), ?_⟩
    refine ⟨_, rfl, a, rfl, ⟨_, hS⟩, fun D nD => ?_⟩
    refine lcT (R := iPr K) (S := iPr K) (l := l) some hS hA nD (by omega) (fun z d H1 _ e1 hz Q1 N1 q1 q2 => ?_) fun H1 ys e1 hD hY => ?_
    · exact ⟨rfl, _, rfl, _, _, rfl, hz, trivial, q1 _ rfl⟩
    have ef : l.filterMap some = l := by simp
    rw [ef] at hY
    refine ⟨_, rfl, D, rfl, ⟨_, sq_of hD⟩, ?_⟩
    refine forL (R := iPr K) (l := l) (xs := ys) (fun r σ' H' => ∃ y, σ' = [some (.ref x), some (.ref a), some (.ref D), y] ∧ H' = H1) hY ⟨_, rfl, rfl⟩ (fun r σ' H' h => ?_) (fun pre d r z σ' H' el hz h => ?_) (fun σ' H' h => ?_)
    · obtain ⟨y, rfl, rfl⟩ := h
      exact ⟨Kp.refl _, sq_of hD⟩
    · obtain ⟨y, rfl, rfl⟩ := h
      obtain ⟨i, j⟩ := d
      have hij : i < j := hp (i, j) (by rw [el]; simp)
      obtain ⟨t, x1, x2, rfl, hT, hk, hm⟩ := hz
      cases hk; cases hm
      refine ⟨_, rfl, t, _, 0, _, rfl, rfl, st_of hT, rfl, _, rfl, t, _, 1, _, rfl, rfl, st_of hT, rfl, _, _, rfl, rfl, _, rfl, iteN (by show ¬ i ≥ j; omega) ?_⟩
      exact ⟨_, rfl, rfl⟩
    · obtain ⟨y, rfl, rfl⟩ := h
      refine ⟨_, rfl, _, l, rfl, iL_of hD hY, ⟨hp, hl⟩, fun v2 H2 e2 hv2 => ?_⟩
      have hx2 := e2 _ _ (e1 _ _ hx)
      refine ⟨_, rfl, x, _, dx, [], rfl, hx2, T.Row.cl, T.n_own_spans, by decide, ?_⟩
      generalize hu : upd _ x _ = H3
      obtain ⟨k3, h3⟩ := ginsE hu fun b u _ h => e2 _ _ (e1 b u h)
      exact q _ H3 k3 h3 ⟨v2, rfl, Mono.up (R := iT K (iPr K)) (hu ▸ Kp.ins hx2) hv2⟩
theorem ok_Row_initL : FnOk P w K mg base CX0 4 T.Row_init_f T.Row_init_fd ["self", "pairs"] (spRow K T.Row.C (iL K (iPr K))) := by
  refine T.Row_init_F.ok sc_Row_init (fun vs H Q E h => ?_) (fun cdv A outer s H vs Q E hr h => ?_)
  · obtain ⟨x, v, l, rfl, _⟩ := h; rfl
  · obtain ⟨x, v, l, rfl, ⟨a, xs, rfl, hS, hA⟩, hp, hl, dx, hx, q⟩ := h
    refine ⟨_, PSs.nox (pss_cons (ps_setLc (i := 2) (own := [("pair", 3)]) (g := (gName 3)) (tt := tYes) rfl sc_Row_init.nd rfl rfl (sw_true rfl rfl rfl (by decide +kernel)) (pi_list (pv 1)) (blkOk_by (own := [("pair", 3)]) (N := ["self", "pairs", "own", "pair"]) (sc := defScope s_Row_init) (by decide +kernel)) (fun _ _ _ _ _ => (pg_name (i := 3) sc_Row_init.nd rfl (Or.inl rfl))) (fun _ _ _ _ _ => pts_nil) (fun _ _ _ _ _ => (pe_call (ok_pair_of T) (hr.mono (by decide)) (by rfl) T.pair_of.g T.pair_of.F.kp (b_pair_of T) .nil pass0 (pa_cons (pv 3) pa_nil))))
  (pss_cons (ps_for PassesOwn.never rfl (pi_list (pv 2)) (pg_name (i := 3) sc_Row_init.nd rfl (Or.inl rfl))
  (pss_one (ps_if (pt_cmpR op_ge (pe_ix ix_tup (pv 3) pe_int (fun _ _ => rfl)) (pe_ix ix_tup (pv 3) pe_int (fun _ _ => rfl)) (nomark _)) (pss_one (ps_never)) pss_nil)))
  (pss_one (ps_fld (pv 0) (pe_call (ok_joined T) (hr.mono (by decide)) (by rfl) T.joined.g T.joined.F.kp (b_joined T) .nil pass0 (pa_cons (pv 2) pa_nil)) rfl)))), ?_⟩
    refine ⟨_, rfl, a, rfl, ⟨_, hS⟩, fun D nD => ?_⟩
    refine lcL (R := iPr K) (S := iPr K) (l := l) some hS hA nD (by omega) (fun z d H1 _ e1 hz Q1 N1 q1 q2 => ?_) fun H1 ys e1 hD hY => ?_
    · exact ⟨rfl, _, rfl, _, _, rfl, hz, trivial, q1 _ rfl⟩
    have ef : l.filterMap some = l := by simp
    rw [ef] at hY
    refine ⟨_, rfl, D, rfl, ⟨_, sq_of hD⟩, ?_⟩
    refine forL (R := iPr K) (l := l) (xs := ys) (fun r σ' H' => ∃ y, σ' = [some (.ref x), some (.ref a), some (.ref D), y] ∧ H' = H1) hY ⟨_, rfl, rfl⟩ (fun r σ' H' h => ?_) (fun pre d r z σ' H' el hz h => ?_) (fun σ' H' h => ?_)
    · obtain ⟨y, rfl, rfl⟩ := h
      exact ⟨Kp.refl _, sq_of hD⟩
    · obtain ⟨y, rfl, rfl⟩ := h
      obtain ⟨i, j⟩ := d
      have hij : i < j := hp (i, j) (by rw [el]; simp)
      obtain ⟨t, x1, x2, rfl, hT, hk, hm⟩ := hz
      cases hk; cases hm
      refine ⟨_, rfl, t, _, 0, _, rfl, rfl, st_of hT, rfl, _, rfl, t, _, 1, _, rfl, rfl, st_of hT, rfl, _, _, rfl, rfl, _, rfl, iteN (by show ¬ i ≥ j; omega) ?_⟩
      exact ⟨_, rfl, rfl⟩
    · obtain ⟨y, rfl, rfl⟩ := h
      refine ⟨_, rfl, _, l, rfl, iL_of hD hY, ⟨hp, hl⟩, fun v2 H2 e2 hv2 => ?_⟩
      have hx2 := e2 _ _ (e1 _ _ hx)
      refine ⟨_, rfl, x, _, dx, [], rfl, hx2, T.Row.cl, T.n_own_spans, by decide, ?_⟩
      generalize hu : upd _ x _ = H3
      obtain ⟨k3, h3⟩ := ginsE hu fun b u _ h => e2 _ _ (e1 b u h)
      exact q _ H3 k3 h3 ⟨v2, rfl, Mono.up (R := iT K (iPr K)) (hu ▸ Kp.ins hx2) hv2⟩
theorem b_Row_init : L2.Binds K T.Row_init_fd ["self", "pairs"] [] := by
  obtain ⟨ds, h1, h2⟩ := T.Row_init_F.binds1 (ps := ["self", "pairs"]) 2 1 (by simp) rfl fun Tp kV doc pm an cdv ct us its h1 h2 => match us, its, h1, h2 with | [_, _], [_], _, _ => ⟨_, rfl, rfl⟩
  cases h1
  exact h2
theorem b_Row_init0 : L2.Binds K T.Row_init_fd ["self", "pairs"] [.ref T.e0] := by
  obtain ⟨ds, h1, h2⟩ := T.Row_init_F.binds1 (ps := ["self", "pairs"]) 1 0 (by simp) rfl fun Tp kV doc pm an cdv ct us its h1 h2 => match us, its, h1, h2 with | [_], [_], _, _ => ⟨_, rfl, rfl⟩
  obtain ⟨u, r, h3⟩ : ∃ u, ds = [u] ∧ RelV (.ref T.e0) u := by
    cases h1 with
    | cons a b => cases b; exact ⟨_, rfl, a⟩
  subst r
  cases (show u = Value.ref T.e0 from h3)
  exact h2
omit T in
theorem mkRow {C : Addr} {R : Rp (List Pr)} {H1 : Hp} {v : V} {l : List Pr} {Q : VK} {E : XK} (hR : ∀ {H'}, Ex H1 H' → R v H' l) (hp : Cs.Pos l) (hl : l.length ≤ 1000) (q : Gives (iRow K C) (Cs.nf l) H1 Q) :
    ∀ x dx, H1 x = none → H1 dx = none → dx ≠ x → spRow K C R (.ref x :: ([v] ++ [])) (upd (upd H1 dx (.own x)) x (.ins C dx [])) (fun v H2 => v = .non ∧ Q (.ref x) H2) E := fun x dx hx hdx hne =>
  ⟨x, v, l, rfl, hR (exmk hx hdx hne), hp, hl, made hx hdx hne fun a dx' fs H' e1 ha ⟨y, ef, hy⟩ => q _ _ e1 ⟨a, dx', y, rfl, ef ▸ ha, hy⟩⟩
end
end Cw
namespace Cw
open PySem PySem.Spec PyProof.Rows L2
open Evl (Ex ex_l ex_t sq_of st_of sz_of sz_lt fresh_back)
open Cs (Pr Stp Line)
section
variable {P : Program} {w : World} {K : PySem.W.Frag} {mg : Str → Option Value} {base : Heap} (T : Top w K mg)
include T
omit T in
def dPr (p : Pr) : PyData := .tuple [.int p.1, .int p.2]
omit T in
def dPs (l : List Pr) : PyData := .tuple (l.map dPr)
omit T in
theorem dPs_shaped (l : List Pr) : SeqAt.shaped (dPs l) = true := by
  have h : ∀ l : List Pr, PyData.canLayAll0 (l.map dPr) = true ∧ PyData.depthAll (l.map dPr) ≤ 1 := by
    intro l
    induction l with
    | nil => exact ⟨rfl, Nat.zero_le _⟩
    | cons p r ih =>
      refine ⟨?_, ?_⟩
      · show (PyData.canLay0 (dPr p) && PyData.canLayAll0 (r.map dPr)) = true
        rw [ih.1]; rfl
      · show max (PyData.depth (dPr p)) (PyData.depthAll (r.map dPr)) ≤ 1
        exact Nat.max_le.mpr ⟨Nat.le_refl 1, ih.2⟩
  show (PyData.canLayAll0 (l.map dPr) && decide (PyData.depthAll (l.map dPr) + 1 ≤ 64)) = true
  rw [(h l).1, decide_eq_true (Nat.le_trans (Nat.succ_le_succ (h l).2) (by decide))]
  rfl
omit T in
theorem dPr_eqv (p q : Pr) : PyData.eqv (dPr p) (dPr q) = decide (p = q) := by
  obtain ⟨a, b⟩ := p
  obtain ⟨c, d⟩ := q
  show ((a == c) && ((b == d) && true)) = _
  rw [Bool.and_true]
  by_cases h1 : a = c <;> by_cases h2 : b = d <;> simp [h1, h2]
omit T in
theorem dPs_eqv (l m : List Pr) : PyData.eqv (dPs l) (dPs m) = decide (l = m) := by
  show PyData.eqvAll (l.map dPr) (m.map dPr) = _
  induction l generalizing m with
  | nil => cases m <;> simp [PyData.eqvAll]
  | cons p r ih =>
    cases m with
    | nil => simp [PyData.eqvAll]
    | cons q s =>
      show (PyData.eqv (dPr p) (dPr q) && PyData.eqvAll (r.map dPr) (s.map dPr)) = _
      rw [dPr_eqv, ih s]
      by_cases h1 : p = q <;> by_cases h2 : r = s <;> simp [h1, h2]
omit T in
theorem dp_pr {v : V} {H : Hp} {p : Pr} (h : iPr K v H p) : Dp K H v (dPr p) := by
  obtain ⟨t, x, y, rfl, hT, hx, hy⟩ := h
  cases hx; cases hy
  exact .tup (st_of hT) (.cons (.int _) (.cons (.int _) .nil))
omit T in
theorem dp_prs {v : V} {H : Hp} {l : List Pr} (h : iT K (iPr K) v H l) : Dp K H v (dPs l) := by
  obtain ⟨a, xs, rfl, hS, hA⟩ := h
  refine .tup hS ?_
  clear hS
  induction xs generalizing l with
  | nil => cases l with
    | nil => exact .nil
    | cons _ _ => exact hA.elim
  | cons x r ih => cases l with
    | nil => exact hA.elim
    | cons d l => exact .cons (dp_pr hA.1) (ih hA.2)
omit T in
theorem row_len {C : Addr} {v : V} {H : Hp} {l : List Pr} (h : iRow K C v H l) : ∃ a dx y, v = .ref a ∧ H a = some (.ins C dx [("own_spans", y)]) ∧ iT K (iPr K) y H l := h
theorem ok_Row_spans : FnOk P w K mg base CX0 1 T.Row_spans.f T.Row_spans.fd ["self"] (sp1 (iRow K T.Row.C) (iT K (iPr K)) (fun _ => True) id) := by
  refine T.Row_spans.F.ok sc_Row_spans (fun vs H Q E h => ?_) (fun cdv A outer s H vs Q E hr h => ?_)
  · obtain ⟨v, d, rfl, _⟩ := h; rfl
  · obtain ⟨v, l, rfl, ⟨a, dx, y, rfl, hx, hy⟩, _, q⟩ := h
    refine ⟨_, (pss_one (ps_ret (pe_fld (pv 0) rfl))), ?_⟩
    exact ⟨_, rfl, a, _, dx, _, y, rfl, hx, T.Row.cl, T.n_own_spans, rfl, q _ _ (Evl.Ex.refl _) hy⟩
theorem ok_Row_or : FnOk P w K mg base CX0 7 T.Row_or.f T.Row_or.fd ["self", "other"] (sp2 (iRow K T.Row.C) (iRow K T.Row.C) (iRow K T.Row.C) (fun S U => Cs.Pos S ∧ Cs.Pos U ∧ S.length ≤ 500 ∧ U.length ≤ 500) fun S U => Cs.nf (S ++ U)) := by
  refine T.Row_or.F.ok sc_Row_or (fun vs H Q E h => ?_) (fun cdv A outer s H vs Q E hr h => ?_)
  · obtain ⟨v, d, w, e, rfl, _⟩ := h; rfl
  · obtain ⟨v, S, w, U, rfl, ⟨a, dx, y, rfl, hx, hy⟩, hw, ⟨hp, hq, hl, hm⟩, q⟩ := h
    refine ⟨_, (pss_one (ps_ret (pe_make T.Row_mk (ok_Row_initT T) (hr.mono (by decide)) (by rfl) T.Row.g (b_Row_init T) .nil pass0 (pa_cons (pe_op op_catA (pe_fld (pv 0) rfl) (pe_prop (pv 1) T.Row.cl T.Row_spans.pr (ok_Row_spans T) (hr.mono (by decide)) (b_Row_spans T) .nil pass0 rfl)) pa_nil)))), ?_⟩
    obtain ⟨b, dx2, y2, e2, _⟩ := id hw
    subst e2
    obtain ⟨_, _, _, e2, hx2, _⟩ := id hw
    cases e2
    refine ⟨_, rfl, a, _, dx, _, y, rfl, hx, T.Row.cl, T.n_own_spans, rfl, ?_⟩
    refine ⟨_, rfl, b, _, _, rfl, hx2, _, _, rfl, hw, trivial, fun z H2 e2 hz => ?_⟩
    obtain ⟨p, xs, rfl, hS, hA⟩ := Mono.up (R := iT K (iPr K)) (kp e2) hy
    replace hz : iT K (iPr K) z H2 U := hz
    obtain ⟨p2, xs2, rfl, hS2, hA2⟩ := hz
    have hpos : Cs.Pos (S ++ U) := fun p hp' => by
      rcases List.mem_append.mp hp' with z | z
      · exact hp p z
      · exact hq p z
    have hlen : (S ++ U).length ≤ 1000 := by rw [List.length_append]; omega
    refine ⟨p, p2, xs, xs2, rfl, rfl, hS, hS2, sz_of (by rw [hA.len, hA2.len]; omega), fun e0 => ?_, fun e0 e1 => ?_, fun e0 e1 c nc => ?_⟩
    · refine mkRow (l := S ++ U) (fun e => Mono.up (kp e) ⟨p2, xs2, rfl, hS2, ?_⟩) hpos hlen fun r H3 e3 h3 => q r H3 (e2.trans e3) h3
      have := hA.len
      rw [e0] at this
      rw [List.length_eq_zero_iff.mp this.symm]
      exact hA2
    · refine mkRow (l := S ++ U) (fun e => Mono.up (kp e) ⟨p, xs, rfl, hS, ?_⟩) hpos hlen fun r H3 e3 h3 => q r H3 (e2.trans e3) h3
      have := hA2.len
      rw [e1] at this
      rw [List.length_eq_zero_iff.mp this.symm, List.append_nil]
      exact hA
    · generalize hu : upd _ c _ = H3
      obtain ⟨e3, h3⟩ := gnew nc hu
      exact mkRow (l := S ++ U) (fun e => Mono.up (kp e) (iT_of h3 ((hA.app hA2).up (kp e3)))) hpos hlen fun r H4 e4 h4 => q r H4 ((e2.trans e3).trans e4) h4
theorem ok_Row_eq : FnOk P w K mg base CX0 4 T.Row_eq.f T.Row_eq.fd ["self", "other"] (sp2 (iRow K T.Row.C) (iRow K T.Row.C) iB (fun _ _ => True) fun S U => decide (S = U)) := by
  refine T.Row_eq.F.ok sc_Row_eq (fun vs H Q E h => ?_) (fun cdv A outer s H vs Q E hr h => ?_)
  · obtain ⟨v, d, w, e, rfl, _⟩ := h; rfl
  · obtain ⟨v, S, w, U, rfl, ⟨a, dx, y, rfl, hx, hy⟩, hw, _, q⟩ := h
    refine ⟨_, (pss_one (ps_ret (pe_and (pe_callB call_isi (by rfl) T.b_isinstance (by decide +kernel) (pa_cons (pv 1) (pa_cons (pe_glob (v := .ref T.Row.C) (by rfl) T.Row.g rfl) pa_nil))) (pe_one (pe_cmpR (op_eqD hr.units) (pe_fld (pv 0) rfl) (pe_prop (pv 1) T.Row.cl T.Row_spans.pr (ok_Row_spans T) (hr.mono (by decide)) (b_Row_spans T) .nil pass0 rfl) (nomark _)))))), ?_⟩
    obtain ⟨b, dx2, y2, e2, _⟩ := id hw
    subst e2
    obtain ⟨_, _, _, e2, hx2, _⟩ := id hw
    cases e2
    refine ⟨_, rfl, _, _, _, _, true, rfl, .own _, .base (.ins hx2 T.Row.cl T.row_cls T.cls_get T.cls_tak T.row_mro), if_pos (beq_self_eq_true _), true, rfl, iteT ?_⟩
    refine ⟨_, rfl, a, _, dx, _, y, rfl, hx, T.Row.cl, T.n_own_spans, rfl, ?_⟩
    refine ⟨_, rfl, b, _, _, rfl, hx2, _, _, rfl, hw, trivial, fun z H2 e2 hz => ?_⟩
    refine ⟨_, _, dp_prs (Mono.up (R := iT K (iPr K)) (kp e2) hy), dp_prs hz, dPs_shaped _, dPs_shaped _, ?_⟩
    rw [dPs_eqv]
    exact q _ _ e2 rfl
end
end Cw
namespace Cw
open PySem PySem.Spec PyProof.Rows L2
open Evl (Ex ex_l ex_t sq_of st_of sz_of sz_lt fresh_back)
open Cs (Pr Stp Line)
section
variable {P : Program} {w : World} {K : PySem.W.Frag} {mg : Str → Option Value} {base : Heap} (T : Top w K mg)
include T
theorem ok_comb : FnOk P w K mg base CX0 7 T.comb.f T.comb.fd ["first", "length", "gap", "many"] (sp4 iI iI iI iI (iRow K T.Row.C) (fun first length gap many => 0 < length ∧ 0 ≤ many ∧ many ≤ 500) fun first length gap many => Cs.nf (Cs.cb first length (length + gap - 1) many.toNat)) := by
  refine T.comb.F.ok sc_comb (fun vs H Q E h => ?_) (fun cdv A outer s H vs Q E hr h => ?_)
  · obtain ⟨a, a', b, b', c, c', d, d', rfl, _⟩ := h; rfl
  · obtain ⟨_, a, _, b, _, c, _, d, rfl, ha, hb, hc, hd, ⟨h0, hn, hm⟩, q⟩ := h
    cases ha; cases hb; cases hc; cases hd
    refine ⟨_, (pss_one (ps_ret (pe_make T.Row_mk (ok_Row_initL T) (hr.mono (by decide)) (by rfl) T.Row.g (b_Row_init T) .nil pass0 (pa_cons (pe_lc (own := [("at", 4)]) (g := (gName 4)) (tt := tYes) rfl sc_comb.nd (pi_range1 (by rfl) T.b_range (pa_cons (pv 3) pa_nil)) (blkOk_by (own := [("at", 4)]) (N := ["first", "length", "gap", "many", "at"]) (sc := defScope s_comb) (by decide +kernel)) (fun _ _ _ _ _ => (pg_name (i := 4) sc_comb.nd rfl (Or.inl rfl))) (fun _ _ _ _ _ => pts_nil) (fun _ _ _ _ _ => (pe_tup (pa_cons (pe_op op_add (pv 0) (pe_op op_mul (pv 4) (pe_op op_add (pv 1) (pv 2)))) (pa_cons (pe_op op_add (pe_op op_add (pv 0) (pe_op op_mul (pv 4) (pe_op op_add (pv 1) (pv 2)))) (pv 1)) pa_nil))))) pa_nil)))), ?_⟩
    refine ⟨_, rfl, d, rfl, by omega, by omega, fun D nD => ?_⟩
    refine lcR (S := iPr K) (fun i => (a + (i : Int) * (b + c - 1 + 1), a + (i : Int) * (b + c - 1 + 1) + b)) nD (by omega) (fun i H1 hi e1 Q1 N1 q1 q2 => ?_) fun H1 ys e1 hD hY => ?_
    · refine ⟨rfl, _, rfl, _, rfl, _, rfl, _, rfl, _, _, rfl, rfl, _, _, rfl, rfl, .inl ⟨by omega, by omega⟩, _, _, rfl, rfl, ?_⟩
      refine ⟨_, rfl, _, rfl, _, rfl, _, rfl, _, _, rfl, rfl, _, _, rfl, rfl, .inl ⟨by omega, by omega⟩, _, _, rfl, rfl, _, rfl, _, _, rfl, rfl, sz2, fun p np => ?_⟩
      generalize hu : upd _ p _ = H2
      obtain ⟨e2, h2⟩ := gnew np hu
      refine q1 _ rfl _ _ e2 (i2_of h2 ?_ ?_)
      · show V.int _ = V.int _
        rw [show (0 : Int) + (i : Int) = i by omega, show b + c - 1 + 1 = b + c by omega]
      · show V.int _ = V.int _
        rw [show (0 : Int) + (i : Int) = i by omega, show b + c - 1 + 1 = b + c by omega]
    · have el := Cs.cb_range b (b + c - 1) d.toNat a
      refine mkRow (l := Cs.cb a b (b + c - 1) d.toNat) (fun e => iL.up e (iL_of hD ?_)) (Cs.cb_pos b _ h0 _ _) (by rw [Cs.cb_len]; omega) fun r H3 e3 h3 => q r H3 (e1.trans e3) h3
      rw [el]
      exact hY
omit T in
theorem fnNo {f : Addr} {fd : FuncData} {ps : List Str} : FnOk P w K mg base CX0 0 f fd ps (fun _ _ _ _ => False) := ⟨fun _ _ _ _ h => h.elim, fun _ _ _ _ _ _ _ _ _ _ _ _ _ h => h.elim⟩
omit T in
theorem tyx_t {H : Hp} {a : Addr} {xs : List V} (h : SqT K H a xs) : TyX K H (.ref a) (.type "tuple") := by
  rcases h with (h | ⟨o, h⟩) | ⟨o, its, n, h, hc, _⟩
  · exact .base (.tup h)
  · exact .fTuple h
  · exact .kTuple h hc
omit T in
theorem kit2 {a b c : String} {x y : Bool} (h1 : kitB a b = some x) (h2 : kitB a c = some y) : PySem.W.kitAny K (.type a) [.type b, .type c] = some (x || y) :=
  kitAny_cons (kit_ty h1) (fun hx => by subst hx; exact kitAny_cons (kit_ty h2) (fun hy => by subst hy; exact kitAny_nil) (fun hy => by subst hy; rfl)) (fun hx => by subst hx; rfl)
theorem tupled0 : FnOk P w K mg base CX0 1 T.tupled.f T.tupled.fd ["thing"] (sp1 iI iI (fun _ => True) id) := by
  refine T.tupled.F.ok sc_tupled (fun vs H Q E h => ?_) (fun cdv A outer s H vs Q E hr h => ?_)
  · obtain ⟨v, d, rfl, _⟩ := h; rfl
  · obtain ⟨v, d, rfl, hv, _, q⟩ := h
    cases hv
    have G : FnOk P w K mg base CX0 0 T.tupled.f T.tupled.fd ["thing"] (fun _ _ _ _ => False) := fnNo
    refine ⟨_, (pss_one (ps_ret (pe_ifExp (pt_val (pe_callB call_isiT (by rfl) T.b_isinstance (by decide +kernel) (pa_cons (pv 0) (pa_cons (pe_tup (pa_cons (pe_bltn (v := .ty "list") (by rfl) T.b_list (by decide +kernel) rfl) (pa_cons (pe_bltn (v := .ty "tuple") (by rfl) T.b_tuple (by decide +kernel) rfl) pa_nil))) pa_nil)))) (pe_callTy call_tuple_of (by rfl) T.b_tuple (by decide +kernel) (pa_cons (pe_lc (own := [("part", 1)]) (g := (gName 1)) (tt := tYes) rfl sc_tupled.nd (pi_tup (pv 0)) (blkOk_by (own := [("part", 1)]) (N := ["thing", "part"]) (sc := defScope s_tupled) (by decide +kernel)) (fun _ _ _ _ _ => (pg_name (i := 1) sc_tupled.nd rfl (Or.inl rfl))) (fun _ _ _ _ _ => pts_nil) (fun _ _ _ _ _ => (pe_call G hr (by rfl) T.tupled.g T.tupled.F.kp (b_tupled T) .nil pass0 (pa_cons (pv 1) pa_nil)))) pa_nil)) (pv 0)))), ?_⟩
    refine ⟨_, rfl, sz2, fun p np => ?_⟩
    generalize hu : upd _ p _ = H1
    obtain ⟨e1, h1⟩ := gnew np hu
    refine ⟨_, p, _, _, _, false, rfl, h1, .cons (.ty "list") (.cons (.ty "tuple") .nil), .base (.int _), kit2 (x := false) (y := false) (by decide +kernel) (by decide +kernel), false, rfl, iteF ?_⟩
    exact ⟨_, rfl, q _ _ e1 rfl⟩
theorem ok_tupled : FnOk P w K mg base CX0 3 T.tupled.f T.tupled.fd ["thing"] (sp1 (iT K iI) (iT K iI) (fun l => l.length ≤ 1000) id) := by
  refine FnOk.mono (j := 2) ?_ (by decide)
  refine T.tupled.F.ok sc_tupled (fun vs H Q E h => ?_) (fun cdv A outer s H vs Q E hr h => ?_)
  · obtain ⟨v, d, rfl, _⟩ := h; rfl
  · obtain ⟨v, l, rfl, ⟨a, xs, rfl, hS, hA⟩, hl, q⟩ := h
    have G : FnOk P w K mg base CX0 1 T.tupled.f T.tupled.fd ["thing"] (sp1 iI iI (fun _ => True) id) := tupled0 T
    refine ⟨_, (pss_one (ps_ret (pe_ifExp (pt_val (pe_callB call_isiT (by rfl) T.b_isinstance (by decide +kernel) (pa_cons (pv 0) (pa_cons (pe_tup (pa_cons (pe_bltn (v := .ty "list") (by rfl) T.b_list (by decide +kernel) rfl) (pa_cons (pe_bltn (v := .ty "tuple") (by rfl) T.b_tuple (by decide +kernel) rfl) pa_nil))) pa_nil)))) (pe_callTy call_tuple_of (by rfl) T.b_tuple (by decide +kernel) (pa_cons (pe_lc (own := [("part", 1)]) (g := (gName 1)) (tt := tYes) rfl sc_tupled.nd (pi_tup (pv 0)) (blkOk_by (own := [("part", 1)]) (N := ["thing", "part"]) (sc := defScope s_tupled) (by decide +kernel)) (fun _ _ _ _ _ => (pg_name (i := 1) sc_tupled.nd rfl (Or.inl rfl))) (fun _ _ _ _ _ => pts_nil) (fun _ _ _ _ _ => (pe_call G hr (by rfl) T.tupled.g T.tupled.F.kp (b_tupled T) .nil pass0 (pa_cons (pv 1) pa_nil)))) pa_nil)) (pv 0)))), ?_⟩
    refine ⟨_, rfl, sz2, fun p np => ?_⟩
    generalize hu : upd _ p _ = H1
    obtain ⟨e1, h1⟩ := gnew np hu
    refine ⟨_, p, _, _, _, true, rfl, h1, .cons (.ty "list") (.cons (.ty "tuple") .nil), tyx_t (ex_t e1 hS), kit2 (x := false) (y := true) (by decide +kernel) (by decide +kernel), true, rfl, iteT ?_⟩
    refine ⟨_, rfl, a, rfl, ⟨_, ex_t e1 hS⟩, fun D nD => ?_⟩
    refine lcT (R := iI) (S := iI) (l := l) some (ex_t e1 hS) (hA.up (kp e1)) nD (by omega) (fun z d H2 _ e2 hz Q1 N1 q1 q2 => ?_) fun H2 ys e2 hD hY => ?_
    · exact ⟨rfl, _, rfl, _, _, rfl, hz, trivial, q1 _ rfl⟩
    have ef : l.filterMap some = l := by simp
    rw [ef] at hY
    refine ⟨D, _, rfl, .inl ⟨sq_of hD, fun p2 np2 => ?_⟩⟩
    generalize hu : upd _ p2 _ = H3
    obtain ⟨e3, h3⟩ := gnew np2 hu
    exact q _ _ ((e1.trans e2).trans e3) (iT_of h3 (hY.up (kp e3)))
end
end Cw
namespace Cw
open PySem PySem.Spec PyProof.Rows L2
open Evl (Ex ex_l ex_t sq_of st_of sz_of sz_lt fresh_back)
open Cs (Pr Stp Line)
section
variable {P : Program} {w : World} {K : PySem.W.Frag} {mg : Str → Option Value} {base : Heap} (T : Top w K mg)
include T
omit T in
theorem stp_num (s : Stp) (hs : s.good) : Stp.kind s = "shift" ∨ (∀ n ∈ s.nums, 0 ≤ n) := by
  cases s with
  | fill g => exact .inr fun n hn => by rw [List.mem_singleton.mp hn]; exact hs
  | drop g => exact .inr fun n hn => by rw [List.mem_singleton.mp hn]; exact hs
  | widen a b =>
    refine .inr fun n hn => ?_
    rcases List.mem_cons.mp hn with e | hn
    · rw [e]; exact hs.1
    · rw [List.mem_singleton.mp hn]; exact hs.2
  | trim a b =>
    refine .inr fun n hn => ?_
    rcases List.mem_cons.mp hn with e | hn
    · rw [e]; exact hs.1
    · rw [List.mem_singleton.mp hn]; exact hs.2
  | shift n => exact .inl rfl
omit T in
theorem stp_len (s : Stp) : 0 < s.nums.length ∧ s.nums.length ≤ 2 := by cases s <;> exact ⟨Nat.succ_pos _, by simp [Cs.Stp.nums]⟩
/-- the table's row of a step -/
theorem Top.am_at (s : Stp) : ∃ t, PySem.W.nsIn K T.am (Stp.kind s) = some (some (.int (s.nums.length : Nat) t)) := by
  cases s with
  | fill g => exact T.am_f
  | drop g => exact T.am_dr
  | widen a b => exact T.am_w
  | trim a b => exact T.am_t
  | shift n => exact T.am_s
/-- the arguments of a step -/
theorem ok_is_good : FnOk P w K mg base CX0 4 T.is_good.f T.is_good.fd ["kind", "amounts"] (fun vs H Q _ => ∃ (y : V) (s : Stp), vs = [.str (Stp.kind s), y] ∧ iT K iI y H s.nums ∧ s.good ∧ Gives iB true H Q) := by
  refine T.is_good.F.ok sc_is_good (fun vs H Q E h => ?_) (fun cdv A outer s H vs Q E hr h => ?_)
  · obtain ⟨y, s, rfl, _⟩ := h; rfl
  · obtain ⟨y, st, rfl, ⟨a, xs, rfl, hS, hA⟩, hg, q⟩ := h
    obtain ⟨es, n, hD⟩ := T.am_d
    obtain ⟨t, ht⟩ := T.am_at st
    refine ⟨_, (pss_cons (ps_if (PW.pt (pw_or (pt_cmpR (op_notIn_kd hD) (pv 0) (pe_glob (v := .ref T.am) (by rfl) T.am_g rfl) (by rfl)) (pw_or (pt_cmpR op_ne (pe_callB call_len_seq (by rfl) T.b_len (by decide +kernel) (pa_cons (pv 1) pa_nil)) (pe_ix ix_kdict (pe_glob (v := .ref T.am) (by rfl) T.am_g rfl) (pv 0) (fun _ _ => rfl)) (nomark _)) (pw_or1 (pt_not (pt_val (pe_callB (cr_all rfl) (by rfl) T.b_all (by decide +kernel) (pa_cons (pe_lc (own := [("one", 2)]) (g := (gName 2)) (tt := tYes) rfl sc_is_good.nd (pi_tup (pv 1)) (blkOk_by (own := [("one", 2)]) (N := ["kind", "amounts", "one"]) (sc := defScope s_is_good) (by decide +kernel)) (fun _ _ _ _ _ => (pg_name (i := 2) sc_is_good.nd rfl (Or.inl rfl))) (fun _ _ _ _ _ => pts_nil) (fun _ _ _ _ _ => (pe_call (ok_is_number T) (hr.mono (by decide)) (by rfl) T.is_number.g T.is_number.F.kp (b_is_number T) .nil pass0 (pa_cons (pv 2) pa_nil)))) pa_nil)))))))) (pss_one (ps_ret pe_bl)) pss_nil)
  (pss_one (ps_ret (pe_or (pe_cmpR op_eq (pv 0) pe_str (nomark _)) (pe_one (pe_cmpR op_ge (pe_callB (cr_minT rfl) (by rfl) T.b_min (by decide +kernel) (pa_cons (pv 1) pa_nil)) pe_int (nomark _))))))), ?_⟩
    refine ⟨_, rfl, _, _, rfl, rfl, ht, _, rfl, iteF ?_⟩
    refine ⟨_, rfl, a, xs, rfl, .inr hS, _, rfl, T.am, _, .int (st.nums.length : Nat), rfl, rfl, ⟨es, n, _, hD.at_, hD.lit, ht, _, rfl⟩, rfl, _, rfl, iteNB (fun z => absurd (by rw [hA.len]) z) fun _ => ?_⟩
    refine ⟨_, rfl, a, rfl, ⟨_, hS⟩, fun D nD => ?_⟩
    refine lcT (R := iI) (S := iB) (l := st.nums) (fun _ => some true) hS hA nD (by have := (stp_len st).2; omega) (fun z d H2 _ e2 hz Q1 N1 q1 q2 => ?_) fun H2 ys e2 hDD hY => ?_
    · exact ⟨rfl, _, rfl, _, _, rfl, hz, trivial, q1 _ rfl⟩
    have ey := all2_bl hY
    rw [ey] at hDD
    refine ⟨D, _, rfl, sq_of hDD, true, ?_, iteF ?_⟩
    · show V.bl _ = V.bl true
      congr 1
      rw [List.all_eq_true]
      intro b hb
      obtain ⟨x, _, e⟩ := List.mem_filterMap.mp hb
      exact (Option.some.inj e).symm
    refine ⟨_, rfl, rfl, _, rfl, iteB (fun _ => q _ _ e2 rfl) fun hk => ?_⟩
    have hnn : ∀ n ∈ st.nums, 0 ≤ n := by
      rcases stp_num st hg with z | z
      · rw [z] at hk
        exact absurd hk (by decide)
      · exact z
    have hS2 : SqT K H2 a (st.nums.map V.int) := by
      rw [← all2_int hA]
      exact ex_t e2 hS
    refine ⟨_, rfl, a, st.nums, rfl, hS2, (stp_len st).1, fun m hm hle => ?_⟩
    refine ⟨m, 0, rfl, rfl, q _ _ e2 ?_⟩
    show V.bl _ = V.bl true
    rw [decide_eq_true (hnn m hm)]
theorem ok_filled : FnOk P w K mg base CX0 1 T.filled.f T.filled.fd ["spans", "gap"] (sp2 (iT K (iPr K)) iI (iT K (iPr K)) (fun l _ => l.length ≤ 1000) Cs.filled) := by
  refine T.filled.F.ok sc_filled (fun vs H Q E h => ?_) (fun cdv A outer s H vs Q E hr h => ?_)
  · obtain ⟨v, d, w, e, rfl, _⟩ := h; rfl
  · obtain ⟨v, l, w, gp, rfl, ⟨a, xs, rfl, hS, hA⟩, hw, hl, q⟩ := h
    cases hw
    refine ⟨_, (pss_cons (ps_set (i := 2) sc_filled.nd rfl (Or.inl rfl) (pe_lst pa_nil))
  (pss_cons (ps_for PassesOwn.never rfl (pi_tup (pv 0)) (pg_tup rfl (pgs_cons (pg_name (i := 3) sc_filled.nd rfl (Or.inl rfl)) (pgs_cons (pg_name (i := 4) sc_filled.nd rfl (Or.inl rfl)) pgs_nil)))
  (pss_one (ps_if (PW.pt (pw_and (pt_cmpR op_gt (pe_callB call_len_seq (by rfl) T.b_len (by decide +kernel) (pa_cons (pv 2) pa_nil)) pe_int (nomark _)) (pw_and1 (pt_cmpR op_le (pe_op op_sub (pv 3) (pe_ix ix_tup (pe_ix ix_list (pv 2) (pe_un un_neg pe_int) (fun _ _ => rfl)) pe_int (fun _ _ => rfl))) (pv 1) (nomark _))))) (pss_one (ps_asg (pe_tup (pa_cons (pe_ix ix_tup (pe_ix ix_list (pv 2) (pe_un un_neg pe_int) (fun _ _ => rfl)) pe_int (fun _ _ => rfl)) (pa_cons (pv 4) pa_nil))) (pg_sub (pv 2) (pe_un un_neg pe_int) set_list))) (pss_one (ps_expr (pe_bm PySem.F.plainAttrs_list PySem.F.slot_list_append PySem.F.type_list_append mt_append (pv 2) (pa_cons (pe_tup (pa_cons (pv 3) (pa_cons (pv 4) pa_nil))) pa_nil)))))))
  (pss_one (ps_ret (pe_callTy call_tuple_of (by rfl) T.b_tuple (by decide +kernel) (pa_cons (pv 2) pa_nil)))))), ?_⟩
    refine ⟨sz0, fun o no => ?_⟩
    generalize hu : upd _ o _ = H1
    obtain ⟨e1, h1⟩ := gnew no hu
    refine ⟨_, rfl, a, rfl, ⟨_, ex_t e1 hS⟩, ?_⟩
    refine forT (R := iPr K) (l := l) (xs := xs) (fun r σ' H' => ∃ F zs y2 y3, σ' = [some (.ref a), some (.int gp), some (.ref o), y2, y3] ∧ Ex H H' ∧ Kp H1 H' ∧ H' o = some (.lst zs) ∧ All2 (iPr K) H' zs F ∧ F.length + r.length ≤ 1000 ∧ r.foldl (Cs.fstep gp) F = Cs.filled l gp)
      (ex_t e1 hS) (hA.up (kp e1)) ⟨[], [], none, none, rfl, e1, Kp.refl _, h1, trivial, by simpa using hl, rfl⟩ (fun r σ' H' h => ?_) (fun pre d r x σ' H' el hx h => ?_) (fun σ' H' h => ?_)
    · obtain ⟨F, zs, y2, y3, rfl, eH, kH, ho, hF, hn, hf⟩ := h
      exact kH
    · obtain ⟨F, zs, y2, y3, rfl, eH, kH, ho, hF, hn, hf⟩ := h
      obtain ⟨i, j⟩ := d
      obtain ⟨t, x1, x2, rfl, hT, hk, hm⟩ := hx
      cases hk; cases hm
      have ff : r.foldl (Cs.fstep gp) (Cs.fstep gp F (i, j)) = Cs.filled l gp := hf
      have hn' : F.length + r.length + 1 ≤ 1000 := by simpa [Nat.add_assoc] using hn
      refine ⟨t, _, rfl, st_of hT, rfl, _, _, rfl, _, _, rfl, rfl, ?_⟩
      refine ⟨_, rfl, o, _, rfl, .inl (sq_of ho), _, _, rfl, rfl, _, rfl, iteD (fun c1 => ?_) (fun c1 => ?_)⟩
      · rcases snocs F with rfl | ⟨F', ⟨i', j'⟩, rfl⟩
        · rw [hF.len] at c1
          exact absurd c1 (by simp)
        · obtain ⟨ws, z, rfl, hZ, t2, z1, z2, rfl, hT2, hk2, hm2⟩ := All2.ofSnoc hF
          cases hk2; cases hm2
          rw [Cs.fstep_snoc] at ff
          refine ⟨_, rfl, _, rfl, _, rfl, _, _, _, _, rfl, rfl, sq_of ho, atI_last _ _, _, _, _, _, rfl, rfl, st_of hT2, rfl, _, _, rfl, rfl, _, rfl, _, _, rfl, rfl, _, rfl, iteD (fun c2 => ?_) (fun c2 => ?_)⟩
          · rw [if_pos c2] at ff
            refine ⟨_, rfl, _, rfl, _, _, _, _, rfl, rfl, sq_of ho, atI_last _ _, _, _, _, _, rfl, rfl, st_of hT2, rfl, _, rfl, sz2, fun p np => ?_⟩
            generalize hu : upd _ p _ = H3
            obtain ⟨e3, h3⟩ := gnew np hu
            refine ⟨_, rfl, _, rfl, o, _, _, _, rfl, rfl, e3 _ _ ho, ixN_last _ _, ?_⟩
            rw [set_last]
            generalize hu : upd _ o _ = H4
            obtain ⟨e4, k4, h4⟩ := gset (eH.trans e3) no (e3 _ _ ho) hu
            exact ⟨_, _, _, _, rfl, e4, (kH.trans (kp e3)).trans k4, h4, ((hZ.up (kp e3)).up k4).snoc (Mono.up (R := iPr K) k4 (i2_of h3 rfl rfl)), by simp at hn' ⊢; omega, ff⟩
          · rw [if_neg c2] at ff
            refine ⟨_, rfl, .inl ⟨rfl, _, sq_of ho⟩, _, rfl, _, rfl, sz2, fun p np => ?_⟩
            generalize hu : upd _ p _ = H3
            obtain ⟨e3, h3⟩ := gnew np hu
            refine ⟨o, _, _, rfl, rfl, e3 _ _ ho, sz_lt (by rw [hF.len]; simp at hn' ⊢; omega), ?_⟩
            generalize hu : upd _ o _ = H4
            obtain ⟨e4, k4, h4⟩ := gset (eH.trans e3) no (e3 _ _ ho) hu
            exact ⟨_, _, _, _, rfl, e4, (kH.trans (kp e3)).trans k4, h4, ((hF.up (kp e3)).up k4).snoc (Mono.up (R := iPr K) k4 (i2_of h3 rfl rfl)), by simp at hn' ⊢; omega, ff⟩
      · have e0 : F = [] := by
          cases F with
          | nil => rfl
          | cons u v => exact absurd (by rw [hF.len]; simp) c1
        subst e0
        refine ⟨_, rfl, .inl ⟨rfl, _, sq_of ho⟩, _, rfl, _, rfl, sz2, fun p np => ?_⟩
        generalize hu : upd _ p _ = H3
        obtain ⟨e3, h3⟩ := gnew np hu
        refine ⟨o, _, _, rfl, rfl, e3 _ _ ho, sz_lt (by rw [hF.len]; simp), ?_⟩
        generalize hu : upd _ o _ = H4
        obtain ⟨e4, k4, h4⟩ := gset (eH.trans e3) no (e3 _ _ ho) hu
        exact ⟨_, _, _, _, rfl, e4, (kH.trans (kp e3)).trans k4, h4, ((hF.up (kp e3)).up k4).snoc (Mono.up (R := iPr K) k4 (i2_of h3 rfl rfl)), by simp at hn' ⊢; omega, ff⟩
    · obtain ⟨F, zs, y2, y3, rfl, eH, kH, ho, hF, hn, hf⟩ := h
      refine ⟨_, rfl, o, _, rfl, .inl ⟨sq_of ho, fun p np => ?_⟩⟩
      generalize hu : upd _ p _ = H3
      obtain ⟨e3, h3⟩ := gnew np hu
      exact q _ _ (eH.trans e3) (hf ▸ iT_of h3 (hF.up (kp e3)))
omit T in
theorem moved_fm (a b : Int) : ∀ S : List Pr, S.filterMap (fun p => if p.1 + a < p.2 + b then some (p.1 + a, p.2 + b) else none) = Cs.moved S a b
  | [] => rfl
  | p :: S => by
    rw [List.filterMap_cons, moved_fm a b S]
    unfold Cs.moved
    rw [List.filter_cons]
    by_cases h : p.1 + a < p.2 + b
    · rw [if_pos h, if_pos (decide_eq_true h)]; rfl
    · rw [if_neg h, if_neg (by simpa using h)]
theorem ok_moved : FnOk P w K mg base CX0 1 T.moved.f T.moved.fd ["spans", "ahead", "after"] (sp3 (iT K (iPr K)) iI iI (iT K (iPr K)) (fun l _ _ => l.length ≤ 1000) Cs.moved) := by
  refine T.moved.F.ok sc_moved (fun vs H Q E h => ?_) (fun cdv A outer s H vs Q E hr h => ?_)
  · obtain ⟨v, d, w, e, x, g, rfl, _⟩ := h; rfl
  · obtain ⟨v, l, w, i, x, j, rfl, ⟨a, xs, rfl, hS, hA⟩, hw, hx, hl, q⟩ := h
    cases hw; cases hx
    refine ⟨_, (pss_one (ps_ret (pe_callTy call_tuple_of (by rfl) T.b_tuple (by decide +kernel) (pa_cons (pe_lc (own := [("first", 3), ("behind", 4)]) (g := (gTup K 2 (gCons (gName 3) (gCons (gName 4) gNil)))) rfl sc_moved.nd (pi_tup (pv 0)) (blkOk_by (own := [("first", 3), ("behind", 4)]) (N := ["spans", "ahead", "after", "first", "behind"]) (sc := defScope s_moved) (by decide +kernel)) (fun _ _ _ _ _ => (pg_tup rfl (pgs_cons (pg_name (i := 3) sc_moved.nd rfl (Or.inl rfl)) (pgs_cons (pg_name (i := 4) sc_moved.nd rfl (Or.inl rfl)) pgs_nil)))) (fun _ _ _ _ _ => (pts_one (pt_cmpR op_lt (pe_op op_add (pv 3) (pv 1)) (pe_op op_add (pv 4) (pv 2)) (nomark _)))) (fun _ _ _ _ _ => (pe_tup (pa_cons (pe_op op_add (pv 3) (pv 1)) (pa_cons (pe_op op_add (pv 4) (pv 2)) pa_nil))))) pa_nil)))), ?_⟩
    refine ⟨_, rfl, a, rfl, ⟨_, hS⟩, fun D nD => ?_⟩
    refine lcT (R := iPr K) (S := iPr K) (l := l) (fun p => if p.1 + i < p.2 + j then some (p.1 + i, p.2 + j) else none) hS hA nD (by omega) (fun z d H2 _ e2 hz Q1 N1 q1 q2 => ?_) fun H2 ys e2 hD hY => ?_
    · obtain ⟨c, d⟩ := d
      obtain ⟨t, x1, x2, rfl, hT, hk, hm⟩ := hz
      cases hk; cases hm
      refine ⟨t, _, rfl, st_of hT, rfl, _, _, rfl, _, _, rfl, rfl, rfl, ?_⟩
      refine ⟨_, rfl, _, rfl, _, _, rfl, rfl, _, rfl, _, rfl, _, _, rfl, rfl, _, _, rfl, rfl, _, rfl, iteD (fun c1 => ?_) (fun c1 => ?_)⟩
      · refine ⟨_, rfl, _, rfl, _, _, rfl, rfl, _, rfl, _, rfl, _, _, rfl, rfl, sz2, fun p np => ?_⟩
        generalize hu : upd _ p _ = H3
        obtain ⟨e3, h3⟩ := gnew np hu
        exact q1 _ (if_pos c1) _ _ e3 (i2_of h3 rfl rfl)
      · exact q2 (if_neg c1) _ (Evl.Ex.refl _)
    rw [moved_fm] at hY
    refine ⟨D, _, rfl, .inl ⟨sq_of hD, fun p np => ?_⟩⟩
    generalize hu : upd _ p _ = H3
    obtain ⟨e3, h3⟩ := gnew np hu
    exact q _ _ (e2.trans e3) (iT_of h3 (hY.up (kp e3)))
end
end Cw
namespace Cw
open PySem PySem.Spec PyProof.Rows L2
open Evl (Ex ex_l ex_t sq_of st_of sz_of sz_lt fresh_back)
open Cs (Pr Stp Line)
section
variable {P : Program} {w : World} {K : PySem.W.Frag} {mg : Str → Option Value} {base : Heap} (T : Top w K mg)
include T
def spStep (K : PySem.W.Frag) (C : Addr) : Sp := fun vs H Q _ => ∃ x v s, vs = [.ref x, .str (Stp.kind s), v] ∧ iT K iI v H s.nums ∧ s.good ∧ Filled x C H (fun fs H' => ∃ y, fs = [(("own_kind" : Str), .str (Stp.kind s)), (("own_amounts" : Str), y)] ∧ iT K iI y H' s.nums) Q
omit T in
theorem iTI_ins {v : V} {H : Hp} {l : List Int} {x C dx : Addr} {fs : List (Str × V)} {o : HO} (hx : H x = some (.ins C dx fs)) (h : iT K iI v H l) : iT K iI v (upd H x o) l := by
  obtain ⟨a, xs, rfl, hS, hA⟩ := h
  refine ⟨a, xs, rfl, sqt_ins hx hS, ?_⟩
  rw [all2_int hA]
  exact all2_ints l
theorem ok_Step_init : FnOk P w K mg base CX0 7 T.Step_init.f T.Step_init.fd ["self", "kind", "amounts"] (spStep K T.Step.C) := by
  refine T.Step_init.F.ok sc_Step_init (fun vs H Q E h => ?_) (fun cdv A outer s H vs Q E hr h => ?_)
  · obtain ⟨x, v, s, rfl, _⟩ := h; rfl
  · obtain ⟨x, v, st, rfl, hv, hg, dx, hx, q⟩ := h
    refine ⟨_, (pss_cons (ps_set (i := 3) sc_Step_init.nd rfl (Or.inl rfl) (pe_call (ok_tupled T) (hr.mono (by decide)) (by rfl) T.tupled.g T.tupled.F.kp (b_tupled T) .nil pass0 (pa_cons (pv 2) pa_nil)))
  (pss_cons (ps_if (pt_not (pt_val (pe_call (ok_is_good T) (hr.mono (by decide)) (by rfl) T.is_good.g T.is_good.F.kp (b_is_good T) .nil pass0 (pa_cons (pv 1) (pa_cons (pv 3) pa_nil))))) (pss_one ps_never) pss_nil)
  (pss_cons (ps_fld (pv 0) (pv 1) rfl)
  (pss_one (ps_fld (pv 0) (pv 3) rfl))))), ?_⟩
    refine ⟨_, rfl, _, _, rfl, hv, by have := (stp_len st).2; omega, fun y H1 e1 hy => ?_⟩
    refine ⟨_, rfl, _, rfl, y, st, rfl, hy, hg, fun b H2 e2 hb => ?_⟩
    cases hb
    refine ⟨true, rfl, iteF ?_⟩
    have hx2 := e2 _ _ (e1 _ _ hx)
    refine ⟨_, rfl, _, rfl, x, _, dx, [], rfl, hx2, T.Step.cl, T.n_own_kind, by decide, ?_⟩
    generalize hu : upd _ x _ = H3
    obtain ⟨k3, h3⟩ := ginsE hu fun b u _ h => e2 _ _ (e1 b u h)
    have hy3 : iT K iI y H3 st.nums := hu ▸ iTI_ins hx2 (Mono.up (kp e2) hy)
    refine ⟨_, rfl, _, rfl, x, _, dx, _, rfl, h3, T.Step.cl, T.n_own_amounts, by show 1 < 1000; decide, ?_⟩
    generalize hu4 : upd _ x _ = H4
    obtain ⟨k4, h4⟩ := ginsE hu4 k3
    exact q _ H4 k4 h4 ⟨y, rfl, hu4 ▸ iTI_ins h3 hy3⟩
omit T in
theorem mkStep {C : Addr} {H1 : Hp} {v : V} {s : Stp} {Q : VK} {E : XK} (hv : iT K iI v H1 s.nums) (hg : s.good) (q : Gives (iStep K C) s H1 Q) :
    ∀ x dx, H1 x = none → H1 dx = none → dx ≠ x → spStep K C (.ref x :: ([.str (Stp.kind s), v] ++ [])) (upd (upd H1 dx (.own x)) x (.ins C dx [])) (fun v H2 => v = .non ∧ Q (.ref x) H2) E := fun x dx hx hdx hne =>
  ⟨x, v, s, rfl, Mono.up (kp (exmk hx hdx hne)) hv, hg, made hx hdx hne fun a dx' fs H' e1 ha ⟨y, ef, hy⟩ => q _ _ e1 ⟨a, dx', y, rfl, ef ▸ ha, hy⟩⟩
omit T in
theorem kne {a b : Str} (h : a ≠ b) : ¬ V.str a = V.str b := fun z => h (V.str.inj z)
def iKd : Rp Stp := fun v _ s => v = .str (Stp.kind s)
theorem ok_Step_kind : FnOk P w K mg base CX0 1 T.Step_kind.f T.Step_kind.fd ["self"] (sp1 (iStep K T.Step.C) iKd (fun _ => True) id) := by
  refine T.Step_kind.F.ok sc_Step_kind (fun vs H Q E h => ?_) (fun cdv A outer s H vs Q E hr h => ?_)
  · obtain ⟨v, d, rfl, _⟩ := h; rfl
  · obtain ⟨v, l, rfl, ⟨a, dx, y, rfl, hx, hy⟩, _, q⟩ := h
    refine ⟨_, (pss_one (ps_ret (pe_fld (pv 0) rfl))), ?_⟩
    exact ⟨_, rfl, a, _, dx, _, _, rfl, hx, T.Step.cl, T.n_own_kind, rfl, q _ _ (Evl.Ex.refl _) rfl⟩
theorem ok_Step_amounts : FnOk P w K mg base CX0 1 T.Step_amounts.f T.Step_amounts.fd ["self"] (sp1 (iStep K T.Step.C) (fun v H s => iT K iI v H s.nums) (fun _ => True) id) := by
  refine T.Step_amounts.F.ok sc_Step_amounts (fun vs H Q E h => ?_) (fun cdv A outer s H vs Q E hr h => ?_)
  · obtain ⟨v, d, rfl, _⟩ := h; rfl
  · obtain ⟨v, l, rfl, ⟨a, dx, y, rfl, hx, hy⟩, _, q⟩ := h
    refine ⟨_, (pss_one (ps_ret (pe_fld (pv 0) rfl))), ?_⟩
    exact ⟨_, rfl, a, _, dx, _, _, rfl, hx, T.Step.cl, T.n_own_amounts, rfl, q _ _ (Evl.Ex.refl _) hy⟩
theorem ok_swings_of : FnOk P w K mg base CX0 4 T.swings_of.f T.swings_of.fd ["step"] (sp1 (iStep K T.Step.C) (fun v H s => iT K iI v H s.swings) (fun _ => True) id) := by
  refine T.swings_of.F.ok sc_swings_of (fun vs H Q E h => ?_) (fun cdv A outer s H vs Q E hr h => ?_)
  · obtain ⟨v, d, rfl, _⟩ := h; rfl
  · obtain ⟨v, st, rfl, hv, _, q⟩ := h
    obtain ⟨a, dx, y, rfl, hx, hy⟩ := id hv
    refine ⟨_, (pss_cons (ps_set (i := 1) sc_swings_of.nd rfl (Or.inl rfl) (pe_callB (cr_sumT rfl) (by rfl) T.b_sum (by decide +kernel) (pa_cons (pe_prop (pv 0) T.Step.cl T.Step_amounts.pr (ok_Step_amounts T) (hr.mono (by decide)) (b_Step_amounts T) .nil pass0 rfl) pa_nil)))
  (pss_cons (ps_if (pt_cmpR op_eq (pe_prop (pv 0) T.Step.cl T.Step_kind.pr (ok_Step_kind T) (hr.mono (by decide)) (b_Step_kind T) .nil pass0 rfl) pe_str (nomark _)) (pss_one (ps_ret (pe_tup (pa_cons (pv 1) (pa_cons (pe_un un_neg (pv 1)) pa_nil))))) pss_nil)
  (pss_cons (ps_if (pt_cmpR op_eq (pe_prop (pv 0) T.Step.cl T.Step_kind.pr (ok_Step_kind T) (hr.mono (by decide)) (b_Step_kind T) .nil pass0 rfl) pe_str (nomark _)) (pss_one (ps_ret (pe_tup (pa_cons (pe_un un_neg (pv 1)) (pa_cons (pv 1) pa_nil))))) pss_nil)
  (pss_cons (ps_if (pt_cmpR op_eq (pe_prop (pv 0) T.Step.cl T.Step_kind.pr (ok_Step_kind T) (hr.mono (by decide)) (b_Step_kind T) .nil pass0 rfl) pe_str (nomark _)) (pss_one (ps_ret (pe_tup pa_nil))) pss_nil)
  (pss_one (ps_ret (pe_ifExp (pt_cmpR op_eq (pe_prop (pv 0) T.Step.cl T.Step_kind.pr (ok_Step_kind T) (hr.mono (by decide)) (b_Step_kind T) .nil pass0 rfl) pe_str (nomark _)) (pe_tup (pa_cons (pv 1) pa_nil)) (pe_tup (pa_cons (pe_un un_neg (pv 1)) pa_nil))))))))), ?_⟩
    refine ⟨_, rfl, a, dx, _, rfl, hx, _, _, rfl, hv, trivial, fun z H1 e1 hz => ?_⟩
    obtain ⟨b, xs, rfl, hS, hA⟩ := hz
    rw [all2_int hA] at hS
    refine ⟨b, _, rfl, hS, ?_⟩
    have hx1 := e1 _ _ hx
    have hv1 := Mono.up (R := iStep K T.Step.C) (kp e1) hv
    refine ⟨_, rfl, a, dx, _, rfl, hx1, _, _, rfl, hv1, trivial, fun z H2 e2 hz => ?_⟩
    cases hz
    have hx2 := e2 _ _ hx1
    have hv2 := Mono.up (R := iStep K T.Step.C) (kp e2) hv1
    cases st with
    | fill g =>
      refine ⟨rfl, _, rfl, iteY rfl ?_⟩
      refine ⟨_, rfl, _, rfl, _, rfl, sz2, fun p np => ?_⟩
      generalize hu : upd _ p _ = H3
      obtain ⟨e3, h3⟩ := gnew np hu
      exact q _ _ ((e1.trans e2).trans e3) (iT_of h3 ⟨by show V.int (g + 0) = V.int g; rw [Int.add_zero], by show V.int (-(g + 0)) = V.int (-g); rw [Int.add_zero], trivial⟩)
    | drop g =>
      refine ⟨rfl, _, rfl, iteN (kne (a := "drop") (b := "fill") (by decide +kernel)) ?_⟩
      refine ⟨_, rfl, a, dx, _, rfl, hx2, _, _, rfl, hv2, trivial, fun z H3 e3 hz => ?_⟩
      cases hz
      refine ⟨rfl, _, rfl, iteY rfl ?_⟩
      refine ⟨_, rfl, _, rfl, _, rfl, sz2, fun p np => ?_⟩
      generalize hu : upd _ p _ = H4
      obtain ⟨e4, h4⟩ := gnew np hu
      exact q _ _ (((e1.trans e2).trans e3).trans e4) (iT_of h4 ⟨by show V.int (-(g + 0)) = V.int (-g); rw [Int.add_zero], by show V.int (g + 0) = V.int g; rw [Int.add_zero], trivial⟩)
    | widen c d =>
      refine ⟨rfl, _, rfl, iteN (kne (a := "widen") (b := "fill") (by decide +kernel)) ?_⟩
      refine ⟨_, rfl, a, dx, _, rfl, hx2, _, _, rfl, hv2, trivial, fun z H3 e3 hz => ?_⟩
      cases hz
      refine ⟨rfl, _, rfl, iteN (kne (a := "widen") (b := "drop") (by decide +kernel)) ?_⟩
      refine ⟨_, rfl, a, dx, _, rfl, e3 _ _ hx2, _, _, rfl, Mono.up (R := iStep K T.Step.C) (kp e3) hv2, trivial, fun z H4 e4 hz => ?_⟩
      cases hz
      refine ⟨rfl, _, rfl, iteN (kne (a := "widen") (b := "shift") (by decide +kernel)) ?_⟩
      refine ⟨_, rfl, a, dx, _, rfl, e4 _ _ (e3 _ _ hx2), _, _, rfl, Mono.up (R := iStep K T.Step.C) (kp (e3.trans e4)) hv2, trivial, fun z H5 e5 hz => ?_⟩
      cases hz
      refine ⟨rfl, _, rfl, iteY rfl ?_⟩
      refine ⟨_, rfl, sz1, fun p np => ?_⟩
      generalize hu : upd _ p _ = H6
      obtain ⟨e6, h6⟩ := gnew np hu
      exact q _ _ (((((e1.trans e2).trans e3).trans e4).trans e5).trans e6) (iT_of h6 ⟨by show V.int (c + (d + 0)) = V.int (c + d); rw [Int.add_zero], trivial⟩)
    | trim c d =>
      refine ⟨rfl, _, rfl, iteN (kne (a := "trim") (b := "fill") (by decide +kernel)) ?_⟩
      refine ⟨_, rfl, a, dx, _, rfl, hx2, _, _, rfl, hv2, trivial, fun z H3 e3 hz => ?_⟩
      cases hz
      refine ⟨rfl, _, rfl, iteN (kne (a := "trim") (b := "drop") (by decide +kernel)) ?_⟩
      refine ⟨_, rfl, a, dx, _, rfl, e3 _ _ hx2, _, _, rfl, Mono.up (R := iStep K T.Step.C) (kp e3) hv2, trivial, fun z H4 e4 hz => ?_⟩
      cases hz
      refine ⟨rfl, _, rfl, iteN (kne (a := "trim") (b := "shift") (by decide +kernel)) ?_⟩
      refine ⟨_, rfl, a, dx, _, rfl, e4 _ _ (e3 _ _ hx2), _, _, rfl, Mono.up (R := iStep K T.Step.C) (kp (e3.trans e4)) hv2, trivial, fun z H5 e5 hz => ?_⟩
      cases hz
      refine ⟨rfl, _, rfl, iteN (kne (a := "trim") (b := "widen") (by decide +kernel)) ?_⟩
      refine ⟨_, rfl, _, rfl, sz1, fun p np => ?_⟩
      generalize hu : upd _ p _ = H6
      obtain ⟨e6, h6⟩ := gnew np hu
      exact q _ _ (((((e1.trans e2).trans e3).trans e4).trans e5).trans e6) (iT_of h6 ⟨by show V.int (-(c + (d + 0))) = V.int (-(c + d)); rw [Int.add_zero], trivial⟩)
    | shift c =>
      refine ⟨rfl, _, rfl, iteN (kne (a := "shift") (b := "fill") (by decide +kernel)) ?_⟩
      refine ⟨_, rfl, a, dx, _, rfl, hx2, _, _, rfl, hv2, trivial, fun z H3 e3 hz => ?_⟩
      cases hz
      refine ⟨rfl, _, rfl, iteN (kne (a := "shift") (b := "drop") (by decide +kernel)) ?_⟩
      refine ⟨_, rfl, a, dx, _, rfl, e3 _ _ hx2, _, _, rfl, Mono.up (R := iStep K T.Step.C) (kp e3) hv2, trivial, fun z H4 e4 hz => ?_⟩
      cases hz
      refine ⟨rfl, _, rfl, iteY rfl ?_⟩
      refine ⟨sz0, fun p np => ?_⟩
      generalize hu : upd _ p _ = H6
      obtain ⟨e6, h6⟩ := gnew np hu
      exact q _ _ ((((e1.trans e2).trans e3).trans e4).trans e6) (iT_of h6 trivial)
end
end Cw
namespace Cw
open PySem PySem.Spec PyProof.Rows L2
open Evl (Ex ex_l ex_t sq_of st_of sz_of sz_lt fresh_back)
open Cs (Pr Stp Line)
section
variable {P : Program} {w : World} {K : PySem.W.Frag} {mg : Str → Option Value} {base : Heap} (T : Top w K mg)
include T
omit T in
theorem rdP {α β : Type} {R : Rp α} {S : Rp β} {okp : α → Prop} {f : α → β} {C : Addr} {v : V} {H : Hp} {d : α} {Q : VK} {E : XK} (hi : ∃ a dx fs, v = .ref a ∧ H a = some (.ins C dx fs)) (hv : R v H d) (ok : okp d) (q : ∀ z H', Ex H H' → S z H' (f d) → Q z H') :
    ∃ a dx fs, v = .ref a ∧ H a = some (.ins C dx fs) ∧ sp1 R S okp f (.ref a :: []) H Q E := by
  obtain ⟨a, dx, fs, rfl, hx⟩ := hi
  exact ⟨a, dx, fs, rfl, hx, _, d, rfl, hv, ok, q⟩
omit T in
theorem step_ins {C : Addr} {v : V} {H : Hp} {s : Stp} (h : iStep K C v H s) : ∃ a dx fs, v = .ref a ∧ H a = some (.ins C dx fs) := by
  obtain ⟨a, dx, y, rfl, hx, _⟩ := h
  exact ⟨a, dx, _, rfl, hx⟩
omit T in
theorem row_ins {C : Addr} {v : V} {H : Hp} {s : List Pr} (h : iRow K C v H s) : ∃ a dx fs, v = .ref a ∧ H a = some (.ins C dx fs) := by
  obtain ⟨a, dx, y, rfl, hx, _⟩ := h
  exact ⟨a, dx, _, rfl, hx⟩
omit T in
theorem pipe_ins {C D : Addr} {v : V} {H : Hp} {s : Line} (h : iPipe K C D v H s) : ∃ a dx fs, v = .ref a ∧ H a = some (.ins C dx fs) := by
  obtain ⟨a, dx, y, rfl, hx, _⟩ := h
  exact ⟨a, dx, _, rfl, hx⟩
omit T in
theorem nums0 {y : V} {H : Hp} {l : List Int} {i : Nat} {n : Int} (h : iT K iI y H l) (e : l[i]? = some n) : ∃ a, y = .ref a ∧ SqT K H a (l.map V.int) ∧ atI (l.map V.int) (i : Int) = some (.int n) := by
  obtain ⟨a, xs, rfl, hS, hA⟩ := h
  rw [all2_int hA] at hS
  exact ⟨a, rfl, hS, atI_nat (by rw [List.getElem?_map, e]; rfl)⟩
/-- step.kind, step.amounts[i] -/
theorem ok_edges_of : FnOk P w K mg base CX0 4 T.edges_of.f T.edges_of.fd ["step"] (sp1 (iStep K T.Step.C) (iPr K) (fun _ => True) Cs.Stp.edges) := by
  refine T.edges_of.F.ok sc_edges_of (fun vs H Q E h => ?_) (fun cdv A outer s H vs Q E hr h => ?_)
  · obtain ⟨v, d, rfl, _⟩ := h; rfl
  · obtain ⟨v, st, rfl, hv, _, q⟩ := h
    refine ⟨_, (pss_cons (ps_if (pt_cmpR op_eq (pe_prop (pv 0) T.Step.cl T.Step_kind.pr (ok_Step_kind T) (hr.mono (by decide)) (b_Step_kind T) .nil pass0 rfl) pe_str (nomark _)) (pss_one (ps_ret (pe_tup (pa_cons (pe_ix ix_tup (pe_prop (pv 0) T.Step.cl T.Step_amounts.pr (ok_Step_amounts T) (hr.mono (by decide)) (b_Step_amounts T) .nil pass0 rfl) pe_int (fun _ _ => rfl)) (pa_cons (pe_ix ix_tup (pe_prop (pv 0) T.Step.cl T.Step_amounts.pr (ok_Step_amounts T) (hr.mono (by decide)) (b_Step_amounts T) .nil pass0 rfl) pe_int (fun _ _ => rfl)) pa_nil))))) pss_nil)
  (pss_cons (ps_if (pt_cmpR op_eq (pe_prop (pv 0) T.Step.cl T.Step_kind.pr (ok_Step_kind T) (hr.mono (by decide)) (b_Step_kind T) .nil pass0 rfl) pe_str (nomark _)) (pss_one (ps_ret (pe_tup (pa_cons (pe_un un_neg (pe_ix ix_tup (pe_prop (pv 0) T.Step.cl T.Step_amounts.pr (ok_Step_amounts T) (hr.mono (by decide)) (b_Step_amounts T) .nil pass0 rfl) pe_int (fun _ _ => rfl))) (pa_cons (pe_ix ix_tup (pe_prop (pv 0) T.Step.cl T.Step_amounts.pr (ok_Step_amounts T) (hr.mono (by decide)) (b_Step_amounts T) .nil pass0 rfl) pe_int (fun _ _ => rfl)) pa_nil))))) pss_nil)
  (pss_one (ps_ret (pe_ifExp (pt_cmpR op_eq (pe_prop (pv 0) T.Step.cl T.Step_kind.pr (ok_Step_kind T) (hr.mono (by decide)) (b_Step_kind T) .nil pass0 rfl) pe_str (nomark _)) (pe_tup (pa_cons (pe_ix ix_tup (pe_prop (pv 0) T.Step.cl T.Step_amounts.pr (ok_Step_amounts T) (hr.mono (by decide)) (b_Step_amounts T) .nil pass0 rfl) pe_int (fun _ _ => rfl)) (pa_cons (pe_un un_neg (pe_ix ix_tup (pe_prop (pv 0) T.Step.cl T.Step_amounts.pr (ok_Step_amounts T) (hr.mono (by decide)) (b_Step_amounts T) .nil pass0 rfl) pe_int (fun _ _ => rfl))) pa_nil))) (pe_tup (pa_cons pe_int (pa_cons pe_int pa_nil)))))))), ?_⟩
    refine ⟨_, rfl, rdP (step_ins hv) hv trivial fun z H1 e1 hz => ?_⟩
    cases hz
    have hv1 := Mono.up (R := iStep K T.Step.C) (kp e1) hv
    cases st with
    | shift c =>
      refine ⟨rfl, _, rfl, iteY rfl ?_⟩
      refine ⟨_, rfl, rdP (step_ins hv1) hv1 trivial fun z H2 e2 hz => ?_⟩
      obtain ⟨a, rfl, hS, ha⟩ := nums0 hz (show [c][0]? = some c from rfl)
      have hv2 := Mono.up (R := iStep K T.Step.C) (kp e2) hv1
      refine ⟨a, _, _, _, rfl, rfl, hS, ha, ?_⟩
      refine ⟨_, rfl, rdP (step_ins hv2) hv2 trivial fun z H3 e3 hz => ?_⟩
      obtain ⟨a, rfl, hS, ha⟩ := nums0 hz (show [c][0]? = some c from rfl)
      refine ⟨a, _, _, _, rfl, rfl, hS, ha, sz2, fun p np => ?_⟩
      generalize hu : upd _ p _ = H4
      obtain ⟨e4, h4⟩ := gnew np hu
      exact q _ _ (((e1.trans e2).trans e3).trans e4) (i2_of h4 rfl rfl)
    | widen c d =>
      refine ⟨rfl, _, rfl, iteN (kne (a := "widen") (b := "shift") (by decide +kernel)) ?_⟩
      refine ⟨_, rfl, rdP (step_ins hv1) hv1 trivial fun z H2 e2 hz => ?_⟩
      cases hz
      have hv2 := Mono.up (R := iStep K T.Step.C) (kp e2) hv1
      refine ⟨rfl, _, rfl, iteY rfl ?_⟩
      refine ⟨_, rfl, rdP (step_ins hv2) hv2 trivial fun z H3 e3 hz => ?_⟩
      obtain ⟨a, rfl, hS, ha⟩ := nums0 hz (show [c, d][0]? = some c from rfl)
      have hv3 := Mono.up (R := iStep K T.Step.C) (kp e3) hv2
      refine ⟨a, _, _, _, rfl, rfl, hS, ha, _, rfl, ?_⟩
      refine ⟨_, rfl, rdP (step_ins hv3) hv3 trivial fun z H4 e4 hz => ?_⟩
      obtain ⟨a, rfl, hS, ha⟩ := nums0 hz (show [c, d][1]? = some d from rfl)
      refine ⟨a, _, _, _, rfl, rfl, hS, ha, sz2, fun p np => ?_⟩
      generalize hu : upd _ p _ = H5
      obtain ⟨e5, h5⟩ := gnew np hu
      exact q _ _ ((((e1.trans e2).trans e3).trans e4).trans e5) (i2_of h5 rfl rfl)
    | trim c d =>
      refine ⟨rfl, _, rfl, iteN (kne (a := "trim") (b := "shift") (by decide +kernel)) ?_⟩
      refine ⟨_, rfl, rdP (step_ins hv1) hv1 trivial fun z H2 e2 hz => ?_⟩
      cases hz
      have hv2 := Mono.up (R := iStep K T.Step.C) (kp e2) hv1
      refine ⟨rfl, _, rfl, iteN (kne (a := "trim") (b := "widen") (by decide +kernel)) ?_⟩
      refine ⟨_, rfl, rdP (step_ins hv2) hv2 trivial fun z H3 e3 hz => ?_⟩
      cases hz
      have hv3 := Mono.up (R := iStep K T.Step.C) (kp e3) hv2
      refine ⟨rfl, _, rfl, iteY rfl ?_⟩
      refine ⟨_, rfl, rdP (step_ins hv3) hv3 trivial fun z H4 e4 hz => ?_⟩
      obtain ⟨a, rfl, hS, ha⟩ := nums0 hz (show [c, d][0]? = some c from rfl)
      have hv4 := Mono.up (R := iStep K T.Step.C) (kp e4) hv3
      refine ⟨a, _, _, _, rfl, rfl, hS, ha, ?_⟩
      refine ⟨_, rfl, rdP (step_ins hv4) hv4 trivial fun z H5 e5 hz => ?_⟩
      obtain ⟨a, rfl, hS, ha⟩ := nums0 hz (show [c, d][1]? = some d from rfl)
      refine ⟨a, _, _, _, rfl, rfl, hS, ha, _, rfl, sz2, fun p np => ?_⟩
      generalize hu : upd _ p _ = H6
      obtain ⟨e6, h6⟩ := gnew np hu
      exact q _ _ (((((e1.trans e2).trans e3).trans e4).trans e5).trans e6) (i2_of h6 rfl rfl)
    | fill c =>
      refine ⟨rfl, _, rfl, iteN (kne (a := "fill") (b := "shift") (by decide +kernel)) ?_⟩
      refine ⟨_, rfl, rdP (step_ins hv1) hv1 trivial fun z H2 e2 hz => ?_⟩
      cases hz
      have hv2 := Mono.up (R := iStep K T.Step.C) (kp e2) hv1
      refine ⟨rfl, _, rfl, iteN (kne (a := "fill") (b := "widen") (by decide +kernel)) ?_⟩
      refine ⟨_, rfl, rdP (step_ins hv2) hv2 trivial fun z H3 e3 hz => ?_⟩
      cases hz
      refine ⟨rfl, _, rfl, iteN (kne (a := "fill") (b := "trim") (by decide +kernel)) ?_⟩
      refine ⟨sz2, fun p np => ?_⟩
      generalize hu : upd _ p _ = H6
      obtain ⟨e6, h6⟩ := gnew np hu
      exact q _ _ (((e1.trans e2).trans e3).trans e6) (i2_of h6 rfl rfl)
    | drop c =>
      refine ⟨rfl, _, rfl, iteN (kne (a := "drop") (b := "shift") (by decide +kernel)) ?_⟩
      refine ⟨_, rfl, rdP (step_ins hv1) hv1 trivial fun z H2 e2 hz => ?_⟩
      cases hz
      have hv2 := Mono.up (R := iStep K T.Step.C) (kp e2) hv1
      refine ⟨rfl, _, rfl, iteN (kne (a := "drop") (b := "widen") (by decide +kernel)) ?_⟩
      refine ⟨_, rfl, rdP (step_ins hv2) hv2 trivial fun z H3 e3 hz => ?_⟩
      cases hz
      refine ⟨rfl, _, rfl, iteN (kne (a := "drop") (b := "trim") (by decide +kernel)) ?_⟩
      refine ⟨sz2, fun p np => ?_⟩
      generalize hu : upd _ p _ = H6
      obtain ⟨e6, h6⟩ := gnew np hu
      exact q _ _ (((e1.trans e2).trans e3).trans e6) (i2_of h6 rfl rfl)
/-- a step called on a row -/
theorem ok_Step_call : FnOk P w K mg base CX0 7 T.Step_call.f T.Step_call.fd ["self", "row"] (sp2 (iStep K T.Step.C) (iRow K T.Row.C) (iRow K T.Row.C) (fun s S => s.good ∧ Cs.Norm S ∧ S.length ≤ 500) Cs.Stp.host) := by
  refine T.Step_call.F.ok sc_Step_call (fun vs H Q E h => ?_) (fun cdv A outer s H vs Q E hr h => ?_)
  · obtain ⟨v, d, w, e, rfl, _⟩ := h; rfl
  · obtain ⟨v, st, w, S, rfl, hv, hw, ⟨hg, hn, hl⟩, q⟩ := h
    obtain ⟨a, dx, y, rfl, hx, hy⟩ := id hv
    have hp := (Cs.Stp.raw_law hg hn).1
    have hl2 := Nat.le_trans (Cs.raw_len st S) hl
    refine ⟨_, (pss_cons (ps_if (pt_cmpR op_eq (pe_fld (pv 0) rfl) pe_str (nomark _)) (pss_one (ps_ret (pe_make T.Row_mk (ok_Row_initT T) (hr.mono (by decide)) (by rfl) T.Row.g (b_Row_init T) .nil pass0 (pa_cons (pe_call (ok_filled T) (hr.mono (by decide)) (by rfl) T.filled.g T.filled.F.kp (b_filled T) .nil pass0 (pa_cons (pe_prop (pv 1) T.Row.cl T.Row_spans.pr (ok_Row_spans T) (hr.mono (by decide)) (b_Row_spans T) .nil pass0 rfl) (pa_cons (pe_ix ix_tup (pe_fld (pv 0) rfl) pe_int (fun _ _ => rfl)) pa_nil))) pa_nil)))) pss_nil)
  (pss_cons (ps_if (pt_cmpR op_eq (pe_fld (pv 0) rfl) pe_str (nomark _)) (pss_one (ps_ret (pe_make T.Row_mk (ok_Row_initL T) (hr.mono (by decide)) (by rfl) T.Row.g (b_Row_init T) .nil pass0 (pa_cons (pe_lc (own := [("pair", 4)]) (g := (gName 4)) (tt := tTest (tOp _ (tOp _ (tOp (rIxT K) _ _) (tOp (rIxT K) _ _)) (tOp (rIxT K) (tFld K _ "own_amounts") _))) rfl sc_Step_call.nd (pi_tup (pe_prop (pv 1) T.Row.cl T.Row_spans.pr (ok_Row_spans T) (hr.mono (by decide)) (b_Row_spans T) .nil pass0 rfl)) (blkOk_by (own := [("pair", 4)]) (N := ["self", "row", "ahead", "after", "pair"]) (sc := defScope s_Step_call) (by decide +kernel)) (fun _ _ _ _ _ => (pg_name (i := 4) sc_Step_call.nd rfl (Or.inl rfl))) (fun _ _ _ _ _ => (pts_one (pt_cmpR op_gt (pe_op op_sub (pe_ix ix_tup (pv 4) pe_int (fun _ _ => rfl)) (pe_ix ix_tup (pv 4) pe_int (fun _ _ => rfl))) (pe_ix ix_tup (pe_fld (pv 0) rfl) pe_int (fun _ _ => rfl)) (nomark _)))) (fun _ _ _ _ _ => (pv 4))) pa_nil)))) pss_nil)
  (pss_cons (ps_asg (pe_call (ok_edges_of T) (hr.mono (by decide)) (by rfl) T.edges_of.g T.edges_of.F.kp (b_edges_of T) .nil pass0 (pa_cons (pv 0) pa_nil)) (pg_tup rfl (pgs_cons (pg_name (i := 2) sc_Step_call.nd rfl (Or.inl rfl)) (pgs_cons (pg_name (i := 3) sc_Step_call.nd rfl (Or.inl rfl)) pgs_nil))))
  (pss_one (ps_ret (pe_make T.Row_mk (ok_Row_initT T) (hr.mono (by decide)) (by rfl) T.Row.g (b_Row_init T) .nil pass0 (pa_cons (pe_call (ok_moved T) (hr.mono (by decide)) (by rfl) T.moved.g T.moved.F.kp (b_moved T) .nil pass0 (pa_cons (pe_prop (pv 1) T.Row.cl T.Row_spans.pr (ok_Row_spans T) (hr.mono (by decide)) (b_Row_spans T) .nil pass0 rfl) (pa_cons (pv 2) (pa_cons (pv 3) pa_nil)))) pa_nil))))))), ?_⟩
    refine ⟨_, rfl, a, _, dx, _, _, rfl, hx, T.Step.cl, T.n_own_kind, rfl, ?_⟩
    cases st with
    | fill g =>
      refine ⟨rfl, _, rfl, iteY rfl ?_⟩
      refine ⟨_, rfl, rdP (row_ins hw) hw trivial fun z H1 e1 hz => ?_⟩
      refine ⟨_, rfl, a, _, dx, _, _, rfl, e1 _ _ hx, T.Step.cl, T.n_own_amounts, rfl, ?_⟩
      obtain ⟨b, rfl, hS, ha⟩ := nums0 (Mono.up (R := iT K iI) (kp e1) hy) (show [g][0]? = some g from rfl)
      refine ⟨b, _, _, _, rfl, rfl, hS, ha, z, S, _, g, rfl, hz, rfl, Nat.le_trans hl (by decide), fun r H2 e2 hr2 => ?_⟩
      exact mkRow (l := Cs.filled S g) (fun e => Mono.up (kp e) hr2) hp (Nat.le_trans hl2 (by decide)) fun r H3 e3 h3 => q r H3 ((e1.trans e2).trans e3) h3
    | drop g =>
      refine ⟨rfl, _, rfl, iteN (kne (a := "drop") (b := "fill") (by decide +kernel)) ?_⟩
      refine ⟨_, rfl, a, _, dx, _, _, rfl, hx, T.Step.cl, T.n_own_kind, rfl, ?_⟩
      refine ⟨rfl, _, rfl, iteY rfl ?_⟩
      refine ⟨_, rfl, rdP (row_ins hw) hw trivial fun z H1 e1 hz => ?_⟩
      obtain ⟨c, xs, rfl, hS, hA⟩ := hz
      have hA : All2 (iPr K) H1 xs S := hA
      refine ⟨c, rfl, ⟨_, hS⟩, fun D nD => ?_⟩
      refine lcT (R := iPr K) (S := iPr K) (l := S) (fun p => if g < p.2 - p.1 then some p else none) hS hA nD (by omega) (fun z d H2 _ e2 hz Q1 N1 q1 q2 => ?_) fun H2 ys e2 hD hY => ?_
      · obtain ⟨i, j⟩ := d
        obtain ⟨t, x1, x2, rfl, hT, hk, hm⟩ := id hz
        cases hk; cases hm
        obtain ⟨b, rfl, hS2, ha⟩ := nums0 (Mono.up (R := iT K iI) (kp (e1.trans e2)) hy) (show [g][0]? = some g from rfl)
        refine ⟨rfl, _, rfl, t, _, 1, _, rfl, rfl, st_of hT, rfl, _, rfl, t, _, 0, _, rfl, rfl, st_of hT, rfl, _, _, rfl, rfl, ?_⟩
        refine ⟨_, rfl, a, _, dx, _, _, rfl, e2 _ _ (e1 _ _ hx), T.Step.cl, T.n_own_amounts, rfl, b, _, _, _, rfl, rfl, hS2, ha, _, _, rfl, rfl, _, rfl, iteD (fun c1 => ?_) (fun c1 => ?_)⟩
        · exact ⟨_, rfl, q1 (i, j) (if_pos c1) _ _ (Evl.Ex.refl _) hz⟩
        · exact q2 (if_neg c1) _ (Evl.Ex.refl _)
      have ef : S.filterMap (fun p => if g < p.2 - p.1 then some p else none) = (Stp.drop g).raw S := by
        show _ = S.filter fun p => decide (g < p.2 - p.1)
        rw [← List.filterMap_eq_filter]
        congr 1
        funext p
        by_cases h : g < p.2 - p.1 <;> simp [Option.guard, h]
      rw [ef] at hY
      exact mkRow (l := (Stp.drop g).raw S) (fun e => iL.up e (iL_of hD hY)) hp (by omega) fun r H3 e3 h3 => q r H3 ((e1.trans e2).trans e3) h3
    | widen c d =>
      refine ⟨rfl, _, rfl, iteN (kne (a := "widen") (b := "fill") (by decide +kernel)) ?_⟩
      refine ⟨_, rfl, a, _, dx, _, _, rfl, hx, T.Step.cl, T.n_own_kind, rfl, ?_⟩
      refine ⟨rfl, _, rfl, iteN (kne (a := "widen") (b := "drop") (by decide +kernel)) ?_⟩
      refine ⟨_, rfl, _, _, rfl, hv, trivial, fun z H1 e1 ⟨p, x, y, ez, hT, hx1, hy1⟩ => ?_⟩
      subst ez
      cases hx1; cases hy1
      refine ⟨p, _, rfl, st_of hT, rfl, _, _, rfl, _, _, rfl, rfl, ?_⟩
      have hw1 := Mono.up (R := iRow K T.Row.C) (kp e1) hw
      refine ⟨_, rfl, rdP (row_ins hw1) hw1 trivial fun z H2 e2 hz => ?_⟩
      refine ⟨_, rfl, _, rfl, z, S, _, _, _, _, rfl, hz, rfl, rfl, by omega, fun r H3 e3 hr3 => ?_⟩
      exact mkRow (l := (Stp.widen c d).raw S) (fun e => Mono.up (kp e) hr3) hp (by omega) fun r H4 e4 h4 => q r H4 (((e1.trans e2).trans e3).trans e4) h4
    | trim c d =>
      refine ⟨rfl, _, rfl, iteN (kne (a := "trim") (b := "fill") (by decide +kernel)) ?_⟩
      refine ⟨_, rfl, a, _, dx, _, _, rfl, hx, T.Step.cl, T.n_own_kind, rfl, ?_⟩
      refine ⟨rfl, _, rfl, iteN (kne (a := "trim") (b := "drop") (by decide +kernel)) ?_⟩
      refine ⟨_, rfl, _, _, rfl, hv, trivial, fun z H1 e1 ⟨p, x, y, ez, hT, hx1, hy1⟩ => ?_⟩
      subst ez
      cases hx1; cases hy1
      refine ⟨p, _, rfl, st_of hT, rfl, _, _, rfl, _, _, rfl, rfl, ?_⟩
      have hw1 := Mono.up (R := iRow K T.Row.C) (kp e1) hw
      refine ⟨_, rfl, rdP (row_ins hw1) hw1 trivial fun z H2 e2 hz => ?_⟩
      refine ⟨_, rfl, _, rfl, z, S, _, _, _, _, rfl, hz, rfl, rfl, by omega, fun r H3 e3 hr3 => ?_⟩
      exact mkRow (l := (Stp.trim c d).raw S) (fun e => Mono.up (kp e) hr3) hp (by omega) fun r H4 e4 h4 => q r H4 (((e1.trans e2).trans e3).trans e4) h4
    | shift c =>
      refine ⟨rfl, _, rfl, iteN (kne (a := "shift") (b := "fill") (by decide +kernel)) ?_⟩
      refine ⟨_, rfl, a, _, dx, _, _, rfl, hx, T.Step.cl, T.n_own_kind, rfl, ?_⟩
      refine ⟨rfl, _, rfl, iteN (kne (a := "shift") (b := "drop") (by decide +kernel)) ?_⟩
      refine ⟨_, rfl, _, _, rfl, hv, trivial, fun z H1 e1 ⟨p, x, y, ez, hT, hx1, hy1⟩ => ?_⟩
      subst ez
      cases hx1; cases hy1
      refine ⟨p, _, rfl, st_of hT, rfl, _, _, rfl, _, _, rfl, rfl, ?_⟩
      have hw1 := Mono.up (R := iRow K T.Row.C) (kp e1) hw
      refine ⟨_, rfl, rdP (row_ins hw1) hw1 trivial fun z H2 e2 hz => ?_⟩
      refine ⟨_, rfl, _, rfl, z, S, _, _, _, _, rfl, hz, rfl, rfl, by omega, fun r H3 e3 hr3 => ?_⟩
      exact mkRow (l := (Stp.shift c).raw S) (fun e => Mono.up (kp e) hr3) hp (by omega) fun r H4 e4 h4 => q r H4 (((e1.trans e2).trans e3).trans e4) h4
end
end Cw
namespace Cw
open PySem PySem.Spec PyProof.Rows L2
open Evl (Ex ex_l ex_t sq_of st_of sz_of sz_lt fresh_back)
open Cs (Pr Stp Line)
section
variable {P : Program} {w : World} {K : PySem.W.Frag} {mg : Str → Option Value} {base : Heap} (T : Top w K mg)
include T
theorem b_Pipeline_init : L2.Binds K T.Pipeline_init_fd ["self", "steps"] [] := by
  obtain ⟨ds, h1, h2⟩ := T.Pipeline_init_F.binds1 (ps := ["self", "steps"]) 2 1 (by simp) rfl fun Tp kV doc pm an cdv ct us its h1 h2 => match us, its, h1, h2 with | [_, _], [_], _, _ => ⟨_, rfl, rfl⟩
  cases h1
  exact h2
def spPipe (K : PySem.W.Frag) (C D : Addr) : Sp := fun vs H Q _ => ∃ x v l, vs = [.ref x, v] ∧ iL K (iStep K D) v H l ∧ Filled x C H (fun fs H' => ∃ y, fs = [(("own_steps" : Str), y)] ∧ iT K (iStep K D) y H' l) Q
theorem ok_Pipeline_init : FnOk P w K mg base CX0 1 T.Pipeline_init_f T.Pipeline_init_fd ["self", "steps"] (spPipe K T.Pipeline.C T.Step.C) := by
  refine T.Pipeline_init_F.ok sc_Pipeline_init (fun vs H Q E h => ?_) (fun cdv A outer s H vs Q E hr h => ?_)
  · obtain ⟨x, v, l, rfl, _⟩ := h; rfl
  · obtain ⟨x, v, l, rfl, ⟨a, xs, rfl, hS, hA⟩, dx, hx, q⟩ := h
    refine ⟨_, PSs.nox (pss_one (ps_fld (pv 0) (pe_callTy call_tuple_of (by rfl) T.b_tuple (by decide +kernel) (pa_cons (pv 1) pa_nil)) rfl)), ?_⟩
    refine ⟨_, rfl, a, _, rfl, .inl ⟨hS, fun p np => ?_⟩⟩
    generalize hu : upd _ p _ = H1
    obtain ⟨e1, h1⟩ := gnew np hu
    have hy := iT_of (K := K) h1 (hA.up (kp e1))
    have hx2 := e1 _ _ hx
    refine ⟨_, rfl, x, _, dx, [], rfl, hx2, T.Pipeline.cl, T.n_own_steps, by decide, ?_⟩
    generalize hu : upd _ x _ = H3
    obtain ⟨k3, h3⟩ := ginsE hu fun b u _ h => e1 b u h
    exact q _ H3 k3 h3 ⟨_, rfl, Mono.up (R := iT K (iStep K T.Step.C)) (hu ▸ Kp.ins hx2) hy⟩
omit T in
theorem mkPipe {C D : Addr} {H1 : Hp} {v : V} {l : Line} {Q : VK} {E : XK} (hv : iL K (iStep K D) v H1 l) (q : Gives (iPipe K C D) l H1 Q) :
    ∀ x dx, H1 x = none → H1 dx = none → dx ≠ x → spPipe K C D (.ref x :: ([v] ++ [])) (upd (upd H1 dx (.own x)) x (.ins C dx [])) (fun v H2 => v = .non ∧ Q (.ref x) H2) E := fun x dx hx hdx hne =>
  ⟨x, v, l, rfl, iL.up (exmk hx hdx hne) hv, made hx hdx hne fun a dx' fs H' e1 ha ⟨y, ef, hy⟩ => q _ _ e1 ⟨a, dx', y, rfl, ef ▸ ha, hy⟩⟩
theorem ok_Pipeline_heights : FnOk P w K mg base CX0 7 T.Pipeline_heights.f T.Pipeline_heights.fd ["self"] (sp1 (iPipe K T.Pipeline.C T.Step.C) (iT K iI) (fun l => l.length ≤ 100) Cs.heights) := by
  refine T.Pipeline_heights.F.ok sc_Pipeline_heights (fun vs H Q E h => ?_) (fun cdv A outer s H vs Q E hr h => ?_)
  · obtain ⟨v, d, rfl, _⟩ := h; rfl
  · obtain ⟨v, l, rfl, ⟨a, dx, y, rfl, hx, hy⟩, hl, q⟩ := h
    obtain ⟨b, xs, rfl, hS, hA⟩ := hy
    refine ⟨_, (pss_cons (ps_set (i := 1) sc_Pipeline_heights.nd rfl (Or.inl rfl) (pe_lst (pa_cons pe_int pa_nil)))
  (pss_cons (ps_for PassesOwn.never rfl (pi_tup (pe_fld (pv 0) rfl)) (pg_name (i := 2) sc_Pipeline_heights.nd rfl (Or.inl rfl))
  (pss_one (ps_for PassesOwn.never rfl (pi_tup (pe_call (ok_swings_of T) (hr.mono (by decide)) (by rfl) T.swings_of.g T.swings_of.F.kp (b_swings_of T) .nil pass0 (pa_cons (pv 2) pa_nil))) (pg_name (i := 3) sc_Pipeline_heights.nd rfl (Or.inl rfl))
  (pss_one (ps_expr (pe_bm PySem.F.plainAttrs_list PySem.F.slot_list_append PySem.F.type_list_append mt_append (pv 1) (pa_cons (pe_op op_add (pe_ix ix_list (pv 1) (pe_un un_neg pe_int) (fun _ _ => rfl)) (pv 3)) pa_nil)))))))
  (pss_one (ps_ret (pe_callTy call_tuple_of (by rfl) T.b_tuple (by decide +kernel) (pa_cons (pv 1) pa_nil)))))), ?_⟩
    refine ⟨sz1, fun o no => ?_⟩
    generalize hu : upd _ o _ = H1
    obtain ⟨e1, h1⟩ := gnew no hu
    refine ⟨_, rfl, a, _, dx, _, _, rfl, e1 _ _ hx, T.Pipeline.cl, T.n_own_steps, rfl, b, rfl, ⟨_, ex_t e1 hS⟩, ?_⟩
    refine forT (R := iStep K T.Step.C) (l := l) (xs := xs) (fun r σ' H' => ∃ (F : List Int) (h : Int) (y2 y3 : Option V), σ' = [some (.ref a), some (.ref o), y2, y3] ∧ Ex H H' ∧ Kp H1 H' ∧ H' o = some (.lst ((F ++ [h]).map V.int)) ∧ F.length + 2 * r.length ≤ 200 ∧ F ++ Cs.hts h (Cs.Line.sw r) = Cs.heights l)
      (ex_t e1 hS) (hA.up (kp e1)) ⟨[], 0, none, none, rfl, e1, Kp.refl _, h1, by simpa using (by omega : 2 * l.length ≤ 200), rfl⟩ (fun r σ' H' h => ?_) (fun pre d r x σ' H' el hx h => ?_) (fun σ' H' h => ?_)
    · obtain ⟨F, h, y2, y3, rfl, eH, kH, ho, hn, hf⟩ := h
      exact kH
    · obtain ⟨F, h, y2, y3, rfl, eH, kH, ho, hn, hf⟩ := h
      have hn' : F.length + 2 * r.length + 2 ≤ 200 := by simp at hn; omega
      refine ⟨_, rfl, _, d, rfl, hx, trivial, fun z H2 e2 hz => ?_⟩
      obtain ⟨c, ws, rfl, hC, hW⟩ := hz
      refine ⟨c, rfl, ⟨_, hC⟩, ?_⟩
      have hsl : d.swings.length ≤ 2 := by cases d <;> simp [Cs.Stp.swings]
      refine forT (R := iI) (l := d.swings) (xs := ws) (fun r' σ' H' => ∃ (F' : List Int) (h' : Int) (y3 : Option V), σ' = [some (.ref a), some (.ref o), some x, y3] ∧ Ex H H' ∧ Kp H2 H' ∧ H' o = some (.lst ((F' ++ [h']).map V.int)) ∧ F'.length + r'.length ≤ F.length + d.swings.length ∧ F' ++ Cs.hts h' (r' ++ Cs.Line.sw r) = Cs.heights l)
        hC hW ⟨F, h, _, rfl, eH.trans e2, Kp.refl _, e2 _ _ ho, Nat.le_refl _, by rw [← hf, Cs.Line.sw_cons]⟩ (fun r' σ' H' h => ?_) (fun pre' n r' x' σ' H' el' hx' h => ?_) (fun σ' H' h => ?_)
      · obtain ⟨F', h', y3, rfl, eH', kH', ho', hn2, hf'⟩ := h
        exact kH'
      · obtain ⟨F', h', y3, rfl, eH', kH', ho', hn2, hf'⟩ := h
        cases hx'
        have hn3 : F'.length + r'.length + 1 ≤ F.length + d.swings.length := by simpa [Nat.add_assoc] using hn2
        refine ⟨_, rfl, .inl ⟨rfl, _, sq_of ho'⟩, _, rfl, _, rfl, _, _, _, .int h', rfl, rfl, sq_of ho', ?_, _, rfl, _, _, rfl, rfl, ?_⟩
        · rw [List.map_append]; exact atI_last _ _
        refine ⟨o, _, _, rfl, rfl, ho', sz_lt (by simp; omega), ?_⟩
        generalize hu : upd _ o _ = H3
        obtain ⟨e3, k3, h3⟩ := gset eH' no ho' hu
        refine ⟨F' ++ [h'], h' + n, _, rfl, e3, kH'.trans k3, ?_, by simp; omega, ?_⟩
        · rw [h3, List.map_append (l₁ := F' ++ [h'])]; rfl
        · rw [← hf', List.append_assoc]; rfl
      · obtain ⟨F', h', y3, rfl, eH', kH', ho', hn2, hf'⟩ := h
        refine ⟨F', h', _, _, rfl, eH', (kH.trans (kp e2)).trans kH', ho', ?_, hf'⟩
        simp at hn2
        omega
    · obtain ⟨F, h, y2, y3, rfl, eH, kH, ho, hn, hf⟩ := h
      refine ⟨_, rfl, o, _, rfl, .inl ⟨sq_of ho, fun p np => ?_⟩⟩
      generalize hu : upd _ p _ = H3
      obtain ⟨e3, h3⟩ := gnew np hu
      have hf : F ++ [h] = Cs.heights l := hf
      exact q _ _ (eH.trans e3) (hf ▸ iT_of h3 (all2_ints _))
omit T in
theorem heights_len (l : Line) : (Cs.heights l).length ≤ 1 + 2 * l.length := by
  have h1 : ∀ (ws : List Int) (h : Int), (Cs.hts h ws).length = ws.length + 1 := by
    intro ws
    induction ws with
    | nil => intro h; rfl
    | cons w ws ih => intro h; show (Cs.hts (h + w) ws).length + 1 = _; rw [ih]; rfl
  have h2 : l.sw.length ≤ 2 * l.length := by
    induction l with
    | nil => exact Nat.le_refl _
    | cons s l ih =>
      rw [Cs.Line.sw_cons, List.length_append, List.length_cons]
      have : s.swings.length ≤ 2 := by cases s <;> simp [Cs.Stp.swings]
      omega
  unfold Cs.heights
  rw [h1]
  omega
omit T in
theorem word_len (l : Line) : (Cs.word l).length ≤ 2 * (1 + 2 * l.length) := by
  have h1 : ∀ (R F : List Run), (R.foldl Cs.rstep F).length ≤ F.length + R.length := Cs.foldl_len (fun F p => by
    rcases snocs F with rfl | ⟨i, q, rfl⟩
    · show (if 0 < p.2 then [p] else []).length ≤ _
      split <;> simp
    · rw [rstep_snoc]
      split
      · simp
      · split <;> simp)
  have h2 : ∀ (hs : List Int) (hi lo : Int), (Cs.rawRuns hi lo hs).length = 2 * hs.length := by
    intro hs
    induction hs with
    | nil => intro _ _; rfl
    | cons h t ih => intro hi lo; show (Cs.rawRuns _ _ t).length + 1 + 1 = 2 * (t.length + 1); rw [ih]; omega
  have h3 := h1 (Cs.rawRuns 0 0 (Cs.heights l)) []
  rw [h2] at h3
  have h4 := heights_len l
  show (List.foldl Cs.rstep [] _).length ≤ _
  simp at h3
  omega
theorem ok_Pipeline_word : FnOk P w K mg base CX0 10 T.Pipeline_word.f T.Pipeline_word.fd ["self"] (sp1 (iPipe K T.Pipeline.C T.Step.C) (iT K (iRun K)) (fun l => l.length ≤ 100) Cs.word) := by
  refine T.Pipeline_word.F.ok sc_Pipeline_word (fun vs H Q E h => ?_) (fun cdv A outer s H vs Q E hr h => ?_)
  · obtain ⟨v, d, rfl, _⟩ := h; rfl
  · obtain ⟨v, l, rfl, hv, hl, q⟩ := h
    refine ⟨_, (pss_one (ps_ret (pe_call (ok_along T) (hr.mono (by decide)) (by rfl) T.along.g T.along.F.kp (b_along T) .nil pass0 (pa_cons (pe_prop (pv 0) T.Pipeline.cl T.Pipeline_heights.pr (ok_Pipeline_heights T) (hr.mono (by decide)) (b_Pipeline_heights T) .nil pass0 rfl) pa_nil)))), ?_⟩
    refine ⟨_, rfl, rdP (pipe_ins hv) hv hl fun z H1 e1 hz => ?_⟩
    refine ⟨z, _, rfl, hz, by have := heights_len l; omega, fun u H2 e2 hu => q u H2 (e1.trans e2) hu⟩
theorem ok_Pipeline_fills : FnOk P w K mg base CX0 13 T.Pipeline_fills.f T.Pipeline_fills.fd ["self"] (sp1 (iPipe K T.Pipeline.C T.Step.C) iI (fun l => l.length ≤ 100) Cs.fills) := by
  refine T.Pipeline_fills.F.ok sc_Pipeline_fills (fun vs H Q E h => ?_) (fun cdv A outer s H vs Q E hr h => ?_)
  · obtain ⟨v, d, rfl, _⟩ := h; rfl
  · obtain ⟨v, l, rfl, hv, hl, q⟩ := h
    refine ⟨_, (pss_one (ps_ret (pe_ix ix_tup (pe_call (ok_letters T) (hr.mono (by decide)) (by rfl) T.letters.g T.letters.F.kp (b_letters T) .nil pass0 (pa_cons (pe_prop (pv 0) T.Pipeline.cl T.Pipeline_word.pr (ok_Pipeline_word T) (hr.mono (by decide)) (b_Pipeline_word T) .nil pass0 rfl) pa_nil)) pe_int (fun _ _ => rfl)))), ?_⟩
    refine ⟨_, rfl, rdP (pipe_ins hv) hv hl fun z H1 e1 hz => ?_⟩
    refine ⟨z, _, rfl, hz, by have := word_len l; omega, fun u H2 e2 ⟨t, x, y, eu, hT, hx, hy⟩ => ?_⟩
    subst eu
    cases hx; cases hy
    exact ⟨t, _, 0, _, rfl, rfl, st_of hT, rfl, q _ H2 (e1.trans e2) rfl⟩
theorem ok_Pipeline_drops : FnOk P w K mg base CX0 13 T.Pipeline_drops.f T.Pipeline_drops.fd ["self"] (sp1 (iPipe K T.Pipeline.C T.Step.C) iI (fun l => l.length ≤ 100) Cs.drops) := by
  refine T.Pipeline_drops.F.ok sc_Pipeline_drops (fun vs H Q E h => ?_) (fun cdv A outer s H vs Q E hr h => ?_)
  · obtain ⟨v, d, rfl, _⟩ := h; rfl
  · obtain ⟨v, l, rfl, hv, hl, q⟩ := h
    refine ⟨_, (pss_one (ps_ret (pe_ix ix_tup (pe_call (ok_letters T) (hr.mono (by decide)) (by rfl) T.letters.g T.letters.F.kp (b_letters T) .nil pass0 (pa_cons (pe_prop (pv 0) T.Pipeline.cl T.Pipeline_word.pr (ok_Pipeline_word T) (hr.mono (by decide)) (b_Pipeline_word T) .nil pass0 rfl) pa_nil)) pe_int (fun _ _ => rfl)))), ?_⟩
    refine ⟨_, rfl, rdP (pipe_ins hv) hv hl fun z H1 e1 hz => ?_⟩
    refine ⟨z, _, rfl, hz, by have := word_len l; omega, fun u H2 e2 ⟨t, x, y, eu, hT, hx, hy⟩ => ?_⟩
    subst eu
    cases hx; cases hy
    exact ⟨t, _, 1, _, rfl, rfl, st_of hT, rfl, q _ H2 (e1.trans e2) rfl⟩
theorem ok_Pipeline_starts : FnOk P w K mg base CX0 7 T.Pipeline_starts.f T.Pipeline_starts.fd ["self"] (sp1 (iPipe K T.Pipeline.C T.Step.C) iI (fun l => l.length ≤ 100) Cs.Line.starts) := by
  refine T.Pipeline_starts.F.ok sc_Pipeline_starts (fun vs H Q E h => ?_) (fun cdv A outer s H vs Q E hr h => ?_)
  · obtain ⟨v, d, rfl, _⟩ := h; rfl
  · obtain ⟨v, l, rfl, ⟨a, dx, y, rfl, hx, hy⟩, hl, q⟩ := h
    obtain ⟨b, xs, rfl, hS, hA⟩ := hy
    refine ⟨_, (pss_one (ps_ret (pe_callB (cr_sum rfl) (by rfl) T.b_sum (by decide +kernel) (pa_cons (pe_lc (own := [("step", 1)]) (g := (gName 1)) (tt := tYes) (te := tOp (rIxT K) _ _) rfl sc_Pipeline_starts.nd (pi_tup (pe_fld (pv 0) rfl)) (blkOk_by (own := [("step", 1)]) (N := ["self", "step"]) (sc := defScope s_Pipeline_starts) (by decide +kernel)) (fun _ _ _ _ _ => (pg_name (i := 1) sc_Pipeline_starts.nd rfl (Or.inl rfl))) (fun _ _ _ _ _ => pts_nil) (fun _ _ _ _ _ => (pe_ix ix_tup (pe_call (ok_edges_of T) (hr.mono (by decide)) (by rfl) T.edges_of.g T.edges_of.F.kp (b_edges_of T) .nil pass0 (pa_cons (pv 1) pa_nil)) pe_int (fun _ _ => rfl)))) pa_nil)))), ?_⟩
    refine ⟨_, rfl, a, _, dx, _, _, rfl, hx, T.Pipeline.cl, T.n_own_steps, rfl, b, rfl, ⟨_, hS⟩, fun D nD => ?_⟩
    refine lcT (R := iStep K T.Step.C) (S := iI) (l := l) (fun s => some s.edges.1) hS hA nD (by omega) (fun z d H2 _ e2 hz Q1 N1 q1 q2 => ?_) fun H2 ys e2 hD hY => ?_
    · refine ⟨rfl, _, rfl, _, d, rfl, hz, trivial, fun u H3 e3 ⟨t, x, y, eu, hT, hx, hy⟩ => ?_⟩
      subst eu
      cases hx; cases hy
      exact ⟨t, _, 0, _, rfl, rfl, st_of hT, rfl, q1 _ rfl _ _ e3 rfl⟩
    rw [all2_int hY, List.filterMap_eq_map'] at hD
    exact ⟨D, _, rfl, sq_of hD, q _ _ e2 rfl⟩
theorem ok_Pipeline_ends : FnOk P w K mg base CX0 7 T.Pipeline_ends.f T.Pipeline_ends.fd ["self"] (sp1 (iPipe K T.Pipeline.C T.Step.C) iI (fun l => l.length ≤ 100) Cs.Line.ends) := by
  refine T.Pipeline_ends.F.ok sc_Pipeline_ends (fun vs H Q E h => ?_) (fun cdv A outer s H vs Q E hr h => ?_)
  · obtain ⟨v, d, rfl, _⟩ := h; rfl
  · obtain ⟨v, l, rfl, ⟨a, dx, y, rfl, hx, hy⟩, hl, q⟩ := h
    obtain ⟨b, xs, rfl, hS, hA⟩ := hy
    refine ⟨_, (pss_one (ps_ret (pe_callB (cr_sum rfl) (by rfl) T.b_sum (by decide +kernel) (pa_cons (pe_lc (own := [("step", 1)]) (g := (gName 1)) (tt := tYes) (te := tOp (rIxT K) _ _) rfl sc_Pipeline_ends.nd (pi_tup (pe_fld (pv 0) rfl)) (blkOk_by (own := [("step", 1)]) (N := ["self", "step"]) (sc := defScope s_Pipeline_ends) (by decide +kernel)) (fun _ _ _ _ _ => (pg_name (i := 1) sc_Pipeline_ends.nd rfl (Or.inl rfl))) (fun _ _ _ _ _ => pts_nil) (fun _ _ _ _ _ => (pe_ix ix_tup (pe_call (ok_edges_of T) (hr.mono (by decide)) (by rfl) T.edges_of.g T.edges_of.F.kp (b_edges_of T) .nil pass0 (pa_cons (pv 1) pa_nil)) pe_int (fun _ _ => rfl)))) pa_nil)))), ?_⟩
    refine ⟨_, rfl, a, _, dx, _, _, rfl, hx, T.Pipeline.cl, T.n_own_steps, rfl, b, rfl, ⟨_, hS⟩, fun D nD => ?_⟩
    refine lcT (R := iStep K T.Step.C) (S := iI) (l := l) (fun s => some s.edges.2) hS hA nD (by omega) (fun z d H2 _ e2 hz Q1 N1 q1 q2 => ?_) fun H2 ys e2 hD hY => ?_
    · refine ⟨rfl, _, rfl, _, d, rfl, hz, trivial, fun u H3 e3 ⟨t, x, y, eu, hT, hx, hy⟩ => ?_⟩
      subst eu
      cases hx; cases hy
      exact ⟨t, _, 1, _, rfl, rfl, st_of hT, rfl, q1 _ rfl _ _ e3 rfl⟩
    rw [all2_int hY, List.filterMap_eq_map'] at hD
    exact ⟨D, _, rfl, sq_of hD, q _ _ e2 rfl⟩
theorem Top.step_co : StX.CallO K T.Step.C T.Step_call.f := ⟨T.Step_call.m.at_, T.Step_call.m.fn, T.step_fi⟩
theorem Top.pipe_co : StX.CallO K T.Pipeline.C T.Pipeline_call.f := ⟨T.Pipeline_call.m.at_, T.Pipeline_call.m.fn, T.pipe_fi⟩
theorem ok_Pipeline_call : FnOk P w K mg base CX0 10 T.Pipeline_call.f T.Pipeline_call.fd ["self", "row"] (sp2 (iPipe K T.Pipeline.C T.Step.C) (iRow K T.Row.C) (iRow K T.Row.C) (fun l S => l.good ∧ Cs.Norm S ∧ S.length ≤ 500) Cs.Line.host) := by
  refine T.Pipeline_call.F.ok sc_Pipeline_call (fun vs H Q E h => ?_) (fun cdv A outer s H vs Q E hr h => ?_)
  · obtain ⟨v, d, w, e, rfl, _⟩ := h; rfl
  · obtain ⟨v, l, w, S, rfl, ⟨a, dx, y, rfl, hx, hy⟩, hw, ⟨hg, hn, hl⟩, q⟩ := h
    obtain ⟨b, xs, rfl, hS, hA⟩ := hy
    refine ⟨_, (pss_cons (ps_for PassesOwn.never rfl (pi_tup (pe_fld (pv 0) rfl)) (pg_name (i := 2) sc_Pipeline_call.nd rfl (Or.inl rfl))
  (pss_one (ps_set (i := 1) sc_Pipeline_call.nd rfl (Or.inl rfl) (StX.pe_callO (pv 2) T.step_co ((ok_Step_call T).raw (b_Step_call T) .nil) (hr.mono (by decide)) pass0 (pa_cons (pv 1) pa_nil)))))
  (pss_one (ps_ret (pv 1)))), ?_⟩
    refine ⟨_, rfl, a, _, dx, _, _, rfl, hx, T.Pipeline.cl, T.n_own_steps, rfl, b, rfl, ⟨_, hS⟩, ?_⟩
    refine forT (R := iStep K T.Step.C) (l := l) (xs := xs) (fun r σ' H' => ∃ v U y2, σ' = [some (.ref a), some v, y2] ∧ Ex H H' ∧ iRow K T.Row.C v H' U ∧ Cs.Norm U ∧ U.length ≤ 500 ∧ Cs.Line.host r U = Cs.Line.host l S)
      hS hA ⟨w, S, none, rfl, Evl.Ex.refl _, hw, hn, hl, rfl⟩ (fun r σ' H' h => ?_) (fun pre d r x σ' H' el hx h => ?_) (fun σ' H' h => ?_)
    · obtain ⟨v, U, y2, rfl, eH, _⟩ := h
      exact kp eH
    · obtain ⟨v, U, y2, rfl, eH, hv, hN, hU, hf⟩ := h
      have hd : d.good := hg d (by rw [el]; simp)
      obtain ⟨c, dx2, y3, rfl, hc, hy3⟩ := id hx
      refine ⟨_, rfl, c, rfl, _, rfl, .inr ⟨_, _, hc⟩, _, d, v, U, rfl, hx, hv, ⟨hd, hN, hU⟩, fun u H2 e2 hu => ?_⟩
      refine ⟨u, _, _, rfl, eH.trans e2, hu, ?_, Nat.le_trans (Cs.host_len d U) hU, hf⟩
      rw [Cs.Stp.host_law hd hN]
      exact (Cs.Stp.law_ok hd hN).1
    · obtain ⟨v, U, y2, rfl, eH, hv, hN, hU, hf⟩ := h
      have hf : U = Cs.Line.host l S := hf
      exact ⟨_, rfl, q _ _ eH (hf ▸ hv)⟩
end
end Cw
namespace Cw
open PySem PySem.Spec PyProof.Rows L2
open Evl (Ex ex_l ex_t sq_of st_of sz_of sz_lt fresh_back)
open Cs (Pr Stp Line)
section
variable {P : Program} {w : World} {K : PySem.W.Frag} {mg : Str → Option Value} {base : Heap} (T : Top w K mg)
include T
omit T in
theorem st_at {x : V} {H : Hp} {s : Stp} (h : iSt K x H s) : ∃ t y, x = .ref t ∧ H t = some (.tup [.str (Stp.kind s), y]) ∧ iT K iI y H s.nums := by
  obtain ⟨t, k, y, rfl, hT, hk, hy⟩ := h
  cases hk
  exact ⟨t, y, rfl, hT, hy⟩
theorem ok_law_edges : FnOk P w K mg base CX0 1 T.law_edges.f T.law_edges.fd ["_law_line_here"] (sp1 (iLine K) (iPr K) (fun _ => True) fun l => (Cs.Line.starts l, Cs.Line.ends l)) := by
  refine T.law_edges.F.ok sc_law_edges (fun vs H Q E h => ?_) (fun cdv A outer s H vs Q E hr h => ?_)
  · obtain ⟨v, d, rfl, _⟩ := h; rfl
  · obtain ⟨v, l, rfl, ⟨a, xs, rfl, hS, hA⟩, _, q⟩ := h
    refine ⟨_, (pss_cons (ps_asg (pe_tup (pa_cons pe_int (pa_cons pe_int pa_nil))) (pg_tup rfl (pgs_cons (pg_name (i := 1) sc_law_edges.nd rfl (Or.inl rfl)) (pgs_cons (pg_name (i := 2) sc_law_edges.nd rfl (Or.inl rfl)) pgs_nil))))
  (pss_cons (ps_for PassesOwn.never rfl (pi_tup (pv 0)) (pg_tup rfl (pgs_cons (pg_name (i := 3) sc_law_edges.nd rfl (Or.inl rfl)) (pgs_cons (pg_name (i := 4) sc_law_edges.nd rfl (Or.inl rfl)) pgs_nil)))
  (pss_one (ps_if (pt_cmpR op_eq (pv 3) pe_str (nomark _)) (pss_one (ps_par (i := 1) (j := 2) rfl sc_law_edges.nd rfl rfl (by decide) rfl rfl (pa_cons (pe_op op_add (pv 1) (pe_ix ix_tup (pv 4) pe_int (fun _ _ => rfl))) (pa_cons (pe_op op_add (pv 2) (pe_ix ix_tup (pv 4) pe_int (fun _ _ => rfl))) pa_nil)) (by rfl))) (pss_one (ps_if (pt_cmpR op_eq (pv 3) pe_str (nomark _)) (pss_one (ps_par (i := 1) (j := 2) rfl sc_law_edges.nd rfl rfl (by decide) rfl rfl (pa_cons (pe_op op_sub (pv 1) (pe_ix ix_tup (pv 4) pe_int (fun _ _ => rfl))) (pa_cons (pe_op op_add (pv 2) (pe_ix ix_tup (pv 4) pe_int (fun _ _ => rfl))) pa_nil)) (by rfl))) (pss_one (ps_if (pt_cmpR op_eq (pv 3) pe_str (nomark _)) (pss_one (ps_par (i := 1) (j := 2) rfl sc_law_edges.nd rfl rfl (by decide) rfl rfl (pa_cons (pe_op op_add (pv 1) (pe_ix ix_tup (pv 4) pe_int (fun _ _ => rfl))) (pa_cons (pe_op op_sub (pv 2) (pe_ix ix_tup (pv 4) pe_int (fun _ _ => rfl))) pa_nil)) (by rfl))) pss_nil)))))))
  (pss_one (ps_ret (pe_tup (pa_cons (pv 1) (pa_cons (pv 2) pa_nil))))))), ?_⟩
    refine ⟨sz2, fun p0 np0 => ?_⟩
    generalize hu : upd _ p0 _ = H1
    obtain ⟨e1, h1⟩ := gnew np0 hu
    refine ⟨p0, _, rfl, st_of h1, rfl, _, _, rfl, _, _, rfl, rfl, ?_⟩
    refine ⟨_, rfl, a, rfl, ⟨_, ex_t e1 hS⟩, ?_⟩
    refine forT (R := iSt K) (l := l) (xs := xs) (fun r σ' H' => ∃ (i j : Int) (y2 y3 : Option V), σ' = [some (.ref a), some (.int i), some (.int j), y2, y3] ∧ H' = H1 ∧ i + Cs.Line.starts r = Cs.Line.starts l ∧ j + Cs.Line.ends r = Cs.Line.ends l)
      (ex_t e1 hS) (hA.up (kp e1)) ⟨0, 0, none, none, rfl, rfl, by omega, by omega⟩ (fun r σ' H' h => ?_) (fun pre d r x σ' H' el hx h => ?_) (fun σ' H' h => ?_)
    · obtain ⟨i, j, y2, y3, rfl, rfl, _⟩ := h
      exact Kp.refl _
    · obtain ⟨i, j, y2, y3, rfl, rfl, h1, h2⟩ := h
      obtain ⟨t, y, rfl, hT, hy⟩ := st_at hx
      rw [Cs.Line.starts_cons] at h1
      rw [Cs.Line.ends_cons] at h2
      refine ⟨t, _, rfl, st_of hT, rfl, _, _, rfl, _, _, rfl, rfl, ?_⟩
      cases d with
      | shift n =>
        obtain ⟨b, rfl, hB, hb⟩ := nums0 hy (show [n][0]? = some n from rfl)
        refine ⟨_, rfl, rfl, _, rfl, iteY rfl ?_⟩
        refine ⟨_, rfl, _, rfl, b, _, _, _, rfl, rfl, hB, hb, _, _, rfl, rfl, _, rfl, _, rfl, b, _, _, _, rfl, rfl, hB, hb, _, _, rfl, rfl, _, _, rfl, ?_⟩
        exact ⟨_, _, _, _, rfl, rfl, by have : (Stp.shift n).edges = (n, n) := rfl; rw [this] at h1; omega, by have : (Stp.shift n).edges = (n, n) := rfl; rw [this] at h2; omega⟩
      | widen c e =>
        obtain ⟨b, rfl, hB, hb⟩ := nums0 hy (show [c, e][0]? = some c from rfl)
        have hb2 := nums0 hy (show [c, e][1]? = some e from rfl)
        obtain ⟨b', eb, hB', hb'⟩ := hb2
        cases eb
        refine ⟨_, rfl, rfl, _, rfl, iteN (kne (a := "widen") (b := "shift") (by decide +kernel)) ?_⟩
        refine ⟨_, rfl, rfl, _, rfl, iteY rfl ?_⟩
        refine ⟨_, rfl, _, rfl, b, _, _, _, rfl, rfl, hB, hb, _, _, rfl, rfl, _, rfl, _, rfl, b, _, _, _, rfl, rfl, hB, hb', _, _, rfl, rfl, _, _, rfl, ?_⟩
        have ee : (Stp.widen c e).edges = (-c, e) := rfl
        rw [ee] at h1 h2
        exact ⟨_, _, _, _, rfl, rfl, by omega, by omega⟩
      | trim c e =>
        obtain ⟨b, rfl, hB, hb⟩ := nums0 hy (show [c, e][0]? = some c from rfl)
        have hb2 := nums0 hy (show [c, e][1]? = some e from rfl)
        obtain ⟨b', eb, hB', hb'⟩ := hb2
        cases eb
        refine ⟨_, rfl, rfl, _, rfl, iteN (kne (a := "trim") (b := "shift") (by decide +kernel)) ?_⟩
        refine ⟨_, rfl, rfl, _, rfl, iteN (kne (a := "trim") (b := "widen") (by decide +kernel)) ?_⟩
        refine ⟨_, rfl, rfl, _, rfl, iteY rfl ?_⟩
        refine ⟨_, rfl, _, rfl, b, _, _, _, rfl, rfl, hB, hb, _, _, rfl, rfl, _, rfl, _, rfl, b, _, _, _, rfl, rfl, hB, hb', _, _, rfl, rfl, _, _, rfl, ?_⟩
        have ee : (Stp.trim c e).edges = (c, -e) := rfl
        rw [ee] at h1 h2
        exact ⟨_, _, _, _, rfl, rfl, by omega, by omega⟩
      | fill c =>
        refine ⟨_, rfl, rfl, _, rfl, iteN (kne (a := "fill") (b := "shift") (by decide +kernel)) ?_⟩
        refine ⟨_, rfl, rfl, _, rfl, iteN (kne (a := "fill") (b := "widen") (by decide +kernel)) ?_⟩
        refine ⟨_, rfl, rfl, _, rfl, iteN (kne (a := "fill") (b := "trim") (by decide +kernel)) ?_⟩
        have ee : (Stp.fill c).edges = (0, 0) := rfl
        rw [ee] at h1 h2
        exact ⟨_, _, _, _, rfl, rfl, by omega, by omega⟩
      | drop c =>
        refine ⟨_, rfl, rfl, _, rfl, iteN (kne (a := "drop") (b := "shift") (by decide +kernel)) ?_⟩
        refine ⟨_, rfl, rfl, _, rfl, iteN (kne (a := "drop") (b := "widen") (by decide +kernel)) ?_⟩
        refine ⟨_, rfl, rfl, _, rfl, iteN (kne (a := "drop") (b := "trim") (by decide +kernel)) ?_⟩
        have ee : (Stp.drop c).edges = (0, 0) := rfl
        rw [ee] at h1 h2
        exact ⟨_, _, _, _, rfl, rfl, by omega, by omega⟩
    · obtain ⟨i, j, y2, y3, rfl, rfl, h1, h2⟩ := h
      have z1 : i = Cs.Line.starts l := by rw [← h1]; show i = i + 0; omega
      have z2 : j = Cs.Line.ends l := by rw [← h2]; show j = j + 0; omega
      refine ⟨_, rfl, _, rfl, sz2, fun p np => ?_⟩
      generalize hu : upd _ p _ = H3
      obtain ⟨e3, h3⟩ := gnew np hu
      exact q _ _ (e1.trans e3) (i2_of h3 (congrArg V.int z1) (congrArg V.int z2))
end
end Cw
namespace Cw
open PySem PySem.Spec PyProof.Rows L2
open Evl (Ex ex_l ex_t sq_of st_of sz_of sz_lt fresh_back)
open Cs (Pr Stp Line)
section
variable {P : Program} {w : World} {K : PySem.W.Frag} {mg : Str → Option Value} {base : Heap} (T : Top w K mg)
include T
omit T in
theorem atN {F : List Int} {h : Int} : atI ((F ++ [h]).map V.int) (-1) = some (.int h) := by rw [List.map_append]; exact atI_last _ _
theorem ok_law_trip : FnOk P w K mg base CX0 1 T.law_trip.f T.law_trip.fd ["_law_line_here"] (sp1 (iLine K) (iL K iI) (fun l => l.length ≤ 100) Cs.heights) := by
  refine T.law_trip.F.ok sc_law_trip (fun vs H Q E h => ?_) (fun cdv A outer s H vs Q E hr h => ?_)
  · obtain ⟨v, d, rfl, _⟩ := h; rfl
  · obtain ⟨v, l, rfl, ⟨a, xs, rfl, hS, hA⟩, hl, q⟩ := h
    refine ⟨_, (pss_cons (ps_set (i := 1) sc_law_trip.nd rfl (Or.inl rfl) (pe_lst (pa_cons pe_int pa_nil)))
  (pss_cons (ps_for PassesOwn.never rfl (pi_tup (pv 0)) (pg_tup rfl (pgs_cons (pg_name (i := 2) sc_law_trip.nd rfl (Or.inl rfl)) (pgs_cons (pg_name (i := 3) sc_law_trip.nd rfl (Or.inl rfl)) pgs_nil)))
  (pss_one (ps_if (pt_cmpR op_eq (pv 2) pe_str (nomark _)) (pss_one (ps_set (i := 1) sc_law_trip.nd rfl (Or.inl rfl) (pe_op op_cat (pv 1) (pe_lst (pa_cons (pe_op op_add (pe_ix ix_list (pv 1) (pe_un un_neg pe_int) (fun _ _ => rfl)) (pe_ix ix_tup (pv 3) pe_int (fun _ _ => rfl))) (pa_cons (pe_ix ix_list (pv 1) (pe_un un_neg pe_int) (fun _ _ => rfl)) pa_nil)))))) (pss_one (ps_if (pt_cmpR op_eq (pv 2) pe_str (nomark _)) (pss_one (ps_set (i := 1) sc_law_trip.nd rfl (Or.inl rfl) (pe_op op_cat (pv 1) (pe_lst (pa_cons (pe_op op_sub (pe_ix ix_list (pv 1) (pe_un un_neg pe_int) (fun _ _ => rfl)) (pe_ix ix_tup (pv 3) pe_int (fun _ _ => rfl))) (pa_cons (pe_ix ix_list (pv 1) (pe_un un_neg pe_int) (fun _ _ => rfl)) pa_nil)))))) (pss_one (ps_if (pt_cmpR op_eq (pv 2) pe_str (nomark _)) (pss_one (ps_expr (pe_bm PySem.F.plainAttrs_list PySem.F.slot_list_append PySem.F.type_list_append mt_append (pv 1) (pa_cons (pe_op op_add (pe_op op_add (pe_ix ix_list (pv 1) (pe_un un_neg pe_int) (fun _ _ => rfl)) (pe_ix ix_tup (pv 3) pe_int (fun _ _ => rfl))) (pe_ix ix_tup (pv 3) pe_int (fun _ _ => rfl))) pa_nil)))) (pss_one (ps_if (pt_cmpR op_eq (pv 2) pe_str (nomark _)) (pss_one (ps_expr (pe_bm PySem.F.plainAttrs_list PySem.F.slot_list_append PySem.F.type_list_append mt_append (pv 1) (pa_cons (pe_op op_sub (pe_op op_sub (pe_ix ix_list (pv 1) (pe_un un_neg pe_int) (fun _ _ => rfl)) (pe_ix ix_tup (pv 3) pe_int (fun _ _ => rfl))) (pe_ix ix_tup (pv 3) pe_int (fun _ _ => rfl))) pa_nil)))) pss_nil)))))))))
  (pss_one (ps_ret (pv 1))))), ?_⟩
    refine ⟨sz1, fun o no => ?_⟩
    generalize hu : upd _ o _ = H1
    obtain ⟨e1, h1⟩ := gnew no hu
    refine ⟨_, rfl, a, rfl, ⟨_, ex_t e1 hS⟩, ?_⟩
    refine forT (R := iSt K) (l := l) (xs := xs) (fun r σ' H' => ∃ (o : Addr) (F : List Int) (h : Int) (y2 y3 : Option V), σ' = [some (.ref a), some (.ref o), y2, y3] ∧ Ex H H' ∧ Kp H1 H' ∧ H o = none ∧ H' o = some (.lst ((F ++ [h]).map V.int)) ∧ F.length + 2 * r.length ≤ 200 ∧ F ++ Cs.hts h (Cs.Line.sw r) = Cs.heights l)
      (ex_t e1 hS) (hA.up (kp e1)) ⟨o, [], 0, none, none, rfl, e1, Kp.refl _, no, h1, by simpa using (by omega : 2 * l.length ≤ 200), rfl⟩ (fun r σ' H' h => ?_) (fun pre d r x σ' H' el hx h => ?_) (fun σ' H' h => ?_)
    · obtain ⟨o, F, h, y2, y3, rfl, eH, kH, no, ho, hn, hf⟩ := h
      exact kH
    · obtain ⟨o, F, h, y2, y3, rfl, eH, kH, no, ho, hn, hf⟩ := h
      have hn' : F.length + 2 * r.length + 2 ≤ 200 := by simp at hn; omega
      obtain ⟨t, y, rfl, hT, hy⟩ := st_at hx
      rw [Cs.Line.sw_cons] at hf
      refine ⟨t, _, rfl, st_of hT, rfl, _, _, rfl, _, _, rfl, rfl, ?_⟩
      cases d with
      | fill g =>
        obtain ⟨b, rfl, hB, hb⟩ := nums0 hy (show [g][0]? = some g from rfl)
        refine ⟨_, rfl, rfl, _, rfl, iteY rfl ?_⟩
        refine ⟨_, rfl, _, rfl, _, rfl, _, _, _, _, rfl, rfl, sq_of ho, atN, _, rfl, b, _, _, _, rfl, rfl, hB, hb, _, _, rfl, rfl, _, rfl, _, rfl, _, _, _, _, rfl, rfl, sq_of ho, atN, sz2, fun p np => ?_⟩
        generalize hu : upd _ p _ = H3
        obtain ⟨e3, h3⟩ := gnew np hu
        refine ⟨o, p, _, _, rfl, rfl, e3 _ _ ho, h3, sz_of (by simp; omega), fun p2 np2 => ?_⟩
        generalize hu : upd _ p2 _ = H4
        obtain ⟨e4, h4⟩ := gnew np2 hu
        refine ⟨p2, F ++ [h, h + g], h, _, _, rfl, (eH.trans e3).trans e4, kH.trans (kp (e3.trans e4)), fresh_back (eH.trans e3) np2, ?_, by simp; omega, ?_⟩
        · rw [h4]; simp
        · rw [← hf]
          show _ = F ++ (h :: (h + g) :: Cs.hts (h + g + -g) (Cs.Line.sw r))
          rw [show h + g + -g = h by omega, List.append_assoc]; rfl
      | drop g =>
        obtain ⟨b, rfl, hB, hb⟩ := nums0 hy (show [g][0]? = some g from rfl)
        refine ⟨_, rfl, rfl, _, rfl, iteN (kne (a := "drop") (b := "fill") (by decide +kernel)) ?_⟩
        refine ⟨_, rfl, rfl, _, rfl, iteY rfl ?_⟩
        refine ⟨_, rfl, _, rfl, _, rfl, _, _, _, _, rfl, rfl, sq_of ho, atN, _, rfl, b, _, _, _, rfl, rfl, hB, hb, _, _, rfl, rfl, _, rfl, _, rfl, _, _, _, _, rfl, rfl, sq_of ho, atN, sz2, fun p np => ?_⟩
        generalize hu : upd _ p _ = H3
        obtain ⟨e3, h3⟩ := gnew np hu
        refine ⟨o, p, _, _, rfl, rfl, e3 _ _ ho, h3, sz_of (by simp; omega), fun p2 np2 => ?_⟩
        generalize hu : upd _ p2 _ = H4
        obtain ⟨e4, h4⟩ := gnew np2 hu
        refine ⟨p2, F ++ [h, h - g], h, _, _, rfl, (eH.trans e3).trans e4, kH.trans (kp (e3.trans e4)), fresh_back (eH.trans e3) np2, ?_, by simp; omega, ?_⟩
        · rw [h4]; simp
        · rw [← hf]
          show _ = F ++ (h :: (h + -g) :: Cs.hts (h + -g + g) (Cs.Line.sw r))
          rw [show h + -g + g = h by omega, show h + -g = h - g by omega, List.append_assoc]; rfl
      | widen c e =>
        obtain ⟨b, rfl, hB, hb⟩ := nums0 hy (show [c, e][0]? = some c from rfl)
        have hb2 := nums0 hy (show [c, e][1]? = some e from rfl)
        obtain ⟨b', eb, hB', hb'⟩ := hb2
        cases eb
        refine ⟨_, rfl, rfl, _, rfl, iteN (kne (a := "widen") (b := "fill") (by decide +kernel)) ?_⟩
        refine ⟨_, rfl, rfl, _, rfl, iteN (kne (a := "widen") (b := "drop") (by decide +kernel)) ?_⟩
        refine ⟨_, rfl, rfl, _, rfl, iteY rfl ?_⟩
        refine ⟨_, rfl, .inl ⟨rfl, _, sq_of ho⟩, _, rfl, _, rfl, _, _, _, _, rfl, rfl, sq_of ho, atN, _, rfl, b, _, _, _, rfl, rfl, hB, hb, _, _, rfl, rfl, _, rfl, b, _, _, _, rfl, rfl, hB, hb', _, _, rfl, rfl, ?_⟩
        refine ⟨o, _, _, rfl, rfl, ho, sz_lt (by simp; omega), ?_⟩
        generalize hu : upd _ o _ = H3
        obtain ⟨e3, k3, h3⟩ := gset eH no ho hu
        refine ⟨o, F ++ [h], h + c + e, _, _, rfl, e3, kH.trans k3, no, ?_, by simp; omega, ?_⟩
        · rw [h3, List.map_append (l₁ := F ++ [h])]; rfl
        · rw [← hf]
          show _ = F ++ (h :: Cs.hts (h + (c + e)) (Cs.Line.sw r))
          rw [show h + (c + e) = h + c + e by omega, List.append_assoc]; rfl
      | trim c e =>
        obtain ⟨b, rfl, hB, hb⟩ := nums0 hy (show [c, e][0]? = some c from rfl)
        have hb2 := nums0 hy (show [c, e][1]? = some e from rfl)
        obtain ⟨b', eb, hB', hb'⟩ := hb2
        cases eb
        refine ⟨_, rfl, rfl, _, rfl, iteN (kne (a := "trim") (b := "fill") (by decide +kernel)) ?_⟩
        refine ⟨_, rfl, rfl, _, rfl, iteN (kne (a := "trim") (b := "drop") (by decide +kernel)) ?_⟩
        refine ⟨_, rfl, rfl, _, rfl, iteN (kne (a := "trim") (b := "widen") (by decide +kernel)) ?_⟩
        refine ⟨_, rfl, rfl, _, rfl, iteY rfl ?_⟩
        refine ⟨_, rfl, .inl ⟨rfl, _, sq_of ho⟩, _, rfl, _, rfl, _, _, _, _, rfl, rfl, sq_of ho, atN, _, rfl, b, _, _, _, rfl, rfl, hB, hb, _, _, rfl, rfl, _, rfl, b, _, _, _, rfl, rfl, hB, hb', _, _, rfl, rfl, ?_⟩
        refine ⟨o, _, _, rfl, rfl, ho, sz_lt (by simp; omega), ?_⟩
        generalize hu : upd _ o _ = H3
        obtain ⟨e3, k3, h3⟩ := gset eH no ho hu
        refine ⟨o, F ++ [h], h - c - e, _, _, rfl, e3, kH.trans k3, no, ?_, by simp; omega, ?_⟩
        · rw [h3, List.map_append (l₁ := F ++ [h])]; rfl
        · rw [← hf]
          show _ = F ++ (h :: Cs.hts (h + -(c + e)) (Cs.Line.sw r))
          rw [show h + -(c + e) = h - c - e by omega, List.append_assoc]; rfl
      | shift c =>
        refine ⟨_, rfl, rfl, _, rfl, iteN (kne (a := "shift") (b := "fill") (by decide +kernel)) ?_⟩
        refine ⟨_, rfl, rfl, _, rfl, iteN (kne (a := "shift") (b := "drop") (by decide +kernel)) ?_⟩
        refine ⟨_, rfl, rfl, _, rfl, iteN (kne (a := "shift") (b := "widen") (by decide +kernel)) ?_⟩
        refine ⟨_, rfl, rfl, _, rfl, iteN (kne (a := "shift") (b := "trim") (by decide +kernel)) ?_⟩
        exact ⟨o, F, h, _, _, rfl, eH, kH, no, ho, by omega, hf⟩
    · obtain ⟨o, F, h, y2, y3, rfl, eH, kH, no, ho, hn, hf⟩ := h
      have hf : F ++ [h] = Cs.heights l := hf
      refine ⟨_, rfl, q _ _ eH ?_⟩
      rw [← hf]
      exact iL_of ho (all2_ints _)
/-- letters as a text -/
def spS (l : List Bool) : Str := ⟨(l.map fun b => if b then 102 else 100).toArray⟩
omit T in
theorem spS_len (l : List Bool) : (spS l).length = l.length := by simp [spS, Str.length]
omit T in
theorem spS_app (l m : List Bool) : spS l ++ spS m = spS (l ++ m) := by
  show Str.mk _ = Str.mk _
  congr 1
  simp [spS]
omit T in
theorem spS_rep (n : Nat) (b : Bool) : (⟨(List.replicate n (if b then 102 else 100)).toArray⟩ : Str) = spS (List.replicate n b) := by
  unfold spS
  rw [List.map_replicate]
def iSp : Rp (List Bool) := fun v _ l => v = .str (spS l)
omit T in
theorem pmax0 (n : Int) : (if n > 0 then n else 0) = ((n.toNat : Nat) : Int) := by split <;> omega
theorem ok_law_spell : FnOk P w K mg base CX0 4 T.law_spell.f T.law_spell.fd ["_law_line_here"] (sp1 (iLine K) iSp (fun l => l.length ≤ 100 ∧ ∀ h ∈ Cs.heights l, -100000 ≤ h ∧ h ≤ 100000) Cs.spelt) := by
  refine T.law_spell.F.ok sc_law_spell (fun vs H Q E h => ?_) (fun cdv A outer s H vs Q E hr h => ?_)
  · obtain ⟨v, d, rfl, _⟩ := h; rfl
  · obtain ⟨v, l, rfl, hv, ⟨hl, hb⟩, q⟩ := h
    refine ⟨_, (pss_cons (ps_asg (pe_tup (pa_cons pe_int (pa_cons pe_int (pa_cons pe_str pa_nil)))) (pg_tup rfl (pgs_cons (pg_name (i := 1) sc_law_spell.nd rfl (Or.inl rfl)) (pgs_cons (pg_name (i := 2) sc_law_spell.nd rfl (Or.inl rfl)) (pgs_cons (pg_name (i := 3) sc_law_spell.nd rfl (Or.inl rfl)) pgs_nil)))))
  (pss_cons (ps_for PassesOwn.never rfl (pi_list (pe_call (ok_law_trip T) (hr.mono (by decide)) (by rfl) T.law_trip.g T.law_trip.F.kp (b_law_trip T) .nil pass0 (pa_cons (pv 0) pa_nil))) (pg_name (i := 4) sc_law_spell.nd rfl (Or.inl rfl))
  (pss_cons (ps_set (i := 3) sc_law_spell.nd rfl (Or.inl rfl) (pe_op op_add_str (pe_op op_add_str (pv 3) (pe_op op_mulS pe_str (pe_callB (call_max2 rfl) (by rfl) T.b_max (by decide +kernel) (pa_cons pe_int (pa_cons (pe_op op_sub (pv 4) (pv 1)) pa_nil))))) (pe_op op_mulS pe_str (pe_callB (call_max2 rfl) (by rfl) T.b_max (by decide +kernel) (pa_cons pe_int (pa_cons (pe_op op_sub (pv 2) (pv 4)) pa_nil))))))
  (pss_one (ps_par (i := 1) (j := 2) rfl sc_law_spell.nd rfl rfl (by decide) rfl rfl (pa_cons (pe_callB (call_max2 rfl) (by rfl) T.b_max (by decide +kernel) (pa_cons (pv 1) (pa_cons (pv 4) pa_nil))) (pa_cons (pe_callB (call_min2 rfl) (by rfl) T.b_min (by decide +kernel) (pa_cons (pv 2) (pa_cons (pv 4) pa_nil))) pa_nil)) (by rfl)))))
  (pss_one (ps_ret (pv 3))))), ?_⟩
    refine ⟨sz3, fun p0 np0 => ?_⟩
    generalize hu : upd _ p0 _ = H1
    obtain ⟨e1, h1⟩ := gnew np0 hu
    refine ⟨p0, _, rfl, st_of h1, rfl, _, _, rfl, _, _, rfl, _, _, rfl, rfl, ?_⟩
    refine ⟨_, rfl, _, l, rfl, Mono.up (kp e1) hv, hl, fun u H2 e2 ⟨c, ws, eu, hC, hW⟩ => ?_⟩
    subst eu
    refine ⟨c, rfl, ⟨_, hC⟩, ?_⟩
    refine forL (R := iI) (l := Cs.heights l) (xs := ws) (fun r σ' H' => ∃ (v0 : V) (hi lo : Int) (S : List Bool) (y : Option V), σ' = [some v0, some (.int hi), some (.int lo), some (.str (spS S)), y] ∧ H' = H2 ∧ 0 ≤ hi ∧ hi ≤ 100000 ∧ -100000 ≤ lo ∧ lo ≤ 0 ∧ (S.length : Int) = hi - lo ∧ S ++ Cs.spell hi lo r = Cs.spelt l)
      hW ⟨v, 0, 0, [], none, rfl, rfl, by omega, by omega, by omega, by omega, rfl, rfl⟩ (fun r σ' H' h => ?_) (fun pre d r x σ' H' el hx h => ?_) (fun σ' H' h => ?_)
    · obtain ⟨v0, hi, lo, S, y, rfl, rfl, _⟩ := h
      exact ⟨Kp.refl _, hC⟩
    · obtain ⟨v0, hi, lo, S, y, rfl, rfl, b1, b2, b3, b4, hs, hf⟩ := h
      cases hx
      have hd := hb d (by rw [el]; simp)
      refine ⟨_, rfl, _, rfl, _, rfl, _, _, rfl, rfl, _, _, rfl, 102, _, rfl, rfl, ?_, ?_, ?_⟩
      · split <;> omega
      · split <;> omega
      rw [pmax0, show ((((d - hi).toNat : Nat) : Int)).toNat = (d - hi).toNat by omega, show (⟨(List.replicate (d - hi).toNat 102).toArray⟩ : Str) = spS (List.replicate (d - hi).toNat true) from spS_rep _ true]
      have z0 : (100000 : Nat) ≤ sizeLine := sz_of (Nat.le_refl _)
      have zb : (400000 : Nat) ≤ sizeLine := by decide +kernel
      refine ⟨_, _, rfl, rfl, ?_, ?_⟩
      · rw [spS_len, spS_len, List.length_replicate]; omega
      rw [spS_app]
      refine ⟨_, rfl, _, rfl, _, _, rfl, rfl, _, _, rfl, 100, _, rfl, rfl, ?_, ?_, ?_⟩
      · split <;> omega
      · split <;> omega
      rw [pmax0, show ((((lo - d).toNat : Nat) : Int)).toNat = (lo - d).toNat by omega, show (⟨(List.replicate (lo - d).toNat 100).toArray⟩ : Str) = spS (List.replicate (lo - d).toNat false) from spS_rep _ false]
      refine ⟨_, _, rfl, rfl, ?_, ?_⟩
      · rw [spS_len, spS_len, List.length_append, List.length_replicate, List.length_replicate]; omega
      rw [spS_app]
      refine ⟨_, rfl, _, rfl, _, _, rfl, _, rfl, _, rfl, _, _, rfl, _, _, rfl, ?_⟩
      refine ⟨v0, Cs.pmax hi d, Cs.pmin lo d, _, _, rfl, rfl, ?_, ?_, ?_, ?_, ?_, ?_⟩
      · rw [Cs.pmax_eq]; omega
      · rw [Cs.pmax_eq]; omega
      · rw [Cs.pmin_eq]; omega
      · rw [Cs.pmin_eq]; omega
      · rw [Cs.pmax_eq, Cs.pmin_eq, List.length_append, List.length_append, List.length_replicate, List.length_replicate]; omega
      · rw [← hf, List.append_assoc, List.append_assoc]; rfl
    · obtain ⟨v0, hi, lo, S, y, rfl, rfl, b1, b2, b3, b4, hs, hf⟩ := h
      have hf : S ++ [] = Cs.spelt l := hf
      rw [List.append_nil] at hf
      exact ⟨_, rfl, q _ _ (e1.trans e2) (hf ▸ rfl)⟩
end
end Cw
namespace Cw
open PySem PySem.Spec PyProof.Rows L2
open Evl (Ex ex_l ex_t sq_of st_of sz_of sz_lt fresh_back)
open Cs (Pr Stp Line)
section
variable {P : Program} {w : World} {K : PySem.W.Frag} {mg : Str → Option Value} {base : Heap} (T : Top w K mg)
include T
omit T in
theorem leT_pr (p q : Pr) : Ob.lexAt (fun j => decide ([p.1, p.2].getD j 0 = [q.1, q.2].getD j 0)) (fun j => decide ([p.1, p.2].getD j 0 ≤ [q.1, q.2].getD j 0)) (decide ([p.1, p.2].length ≤ [q.1, q.2].length)) 0 (min [p.1, p.2].length [q.1, q.2].length) = Cs.leP p q := by
  show Ob.lexAt _ _ _ 0 2 = _
  rw [Ob.lexAt_succ, Ob.lexAt_succ, Ob.lexAt_zero]
  unfold Cs.leP
  show (if decide (p.1 = q.1) = true then if decide (p.2 = q.2) = true then decide (2 ≤ 2) else decide (p.2 ≤ q.2) else decide (p.1 ≤ q.1)) = _
  by_cases h1 : p.1 = q.1 <;> by_cases h2 : p.2 = q.2 <;> simp [h1, h2]
omit T in
theorem all2_take {α : Type} {R : Rp α} {H : Hp} : ∀ {xs : List V} {l : List α}, All2 R H xs l → ∀ n : Nat, All2 R H (xs.take n) (l.take n)
  | _, _, _, 0 => by simp only [List.take_zero]; trivial
  | [], [], _, n + 1 => trivial
  | _ :: _, _ :: _, h, n + 1 => ⟨h.1, all2_take h.2 n⟩
  | [], _ :: _, h, _ + 1 => h.elim
  | _ :: _, [], h, _ + 1 => h.elim
omit T in
theorem all2_drop {α : Type} {R : Rp α} {H : Hp} : ∀ {xs : List V} {l : List α}, All2 R H xs l → ∀ n : Nat, All2 R H (xs.drop n) (l.drop n)
  | _, _, h, 0 => h
  | [], [], _, n + 1 => trivial
  | _ :: _, _ :: _, h, n + 1 => all2_drop h.2 n
  | [], _ :: _, h, _ + 1 => h.elim
  | _ :: _, [], h, _ + 1 => h.elim
theorem ok_law_risingL : FnOk P w K mg base CX0 1 T.law_rising.f T.law_rising.fd ["_law_pairs_so"] (spNL (iL K (iPr K)) (iPr K) (fun l => l.length ≤ 1000) Cs.rising) := by
  refine T.law_rising.F.ok sc_law_rising (fun vs H Q E h => ?_) (fun cdv A outer s H vs Q E hr h => ?_)
  · obtain ⟨v, d, rfl, _⟩ := h; rfl
  · obtain ⟨v, l, rfl, ⟨a, xs, rfl, hS, hA⟩, hl, q⟩ := h
    refine ⟨_, (pss_cons (ps_set (i := 1) sc_law_rising.nd rfl (Or.inl rfl) (pe_lst pa_nil))
  (pss_cons (ps_for PassesOwn.never rfl (pi_list (pv 0)) (pg_name (i := 2) sc_law_rising.nd rfl (Or.inr rfl))
  (pss_one (ps_expr (pe_bm PySem.F.plainAttrs_list PySem.F.slot_list_insert PySem.F.type_list_insert mt_insert (pv 1) (pa_cons (pe_callB call_len_seq (by rfl) T.b_len (by decide +kernel) (pa_cons (pe_lc (own := [("_law_far", 3)]) (g := (gName 3)) (tt := tTest (tOp (rLeT K) _ _)) rfl sc_law_rising.nd (pi_list (pv 1)) (blkOk_by (own := [("_law_far", 3)]) (N := ["_law_pairs_so", "_law_found", "_law_own", "_law_far"]) (sc := defScope s_law_rising) (by decide +kernel)) (fun _ _ _ _ _ => (pg_name (i := 3) sc_law_rising.nd rfl (Or.inl rfl))) (fun _ _ _ _ _ => (pts_one (pt_cmpR (op_leT hr.units0) (pv 3) (pv 2) (nomark _)))) (fun _ _ _ _ _ => pe_int)) pa_nil)) (pa_cons (pv 2) pa_nil))))))
  (pss_one (ps_ret (pv 1))))), ?_⟩
    refine ⟨sz0, fun o no => ?_⟩
    generalize hu : upd _ o _ = H1
    obtain ⟨e1, h1⟩ := gnew no hu
    refine ⟨_, rfl, a, rfl, ⟨_, ex_l e1 hS⟩, ?_⟩
    refine forL (R := iPr K) (l := l) (xs := xs) (fun r σ' H' => ∃ (F : List Pr) (zs : List V) (y2 y3 : Option V), σ' = [some (.ref a), some (.ref o), y2, y3] ∧ Ex H H' ∧ Kp H1 H' ∧ H' o = some (.lst zs) ∧ All2 (iPr K) H' zs F ∧ F.length + r.length ≤ 1000 ∧ r.foldl Cs.rins F = Cs.rising l)
      (hA.up (kp e1)) ⟨[], [], none, none, rfl, e1, Kp.refl _, h1, trivial, by simpa using hl, rfl⟩ (fun r σ' H' h => ?_) (fun pre d r x σ' H' el hx h => ?_) (fun σ' H' h => ?_)
    · obtain ⟨F, zs, y2, y3, rfl, eH, kH, ho, hF, hn, hf⟩ := h
      exact ⟨kH, ex_l eH hS⟩
    · obtain ⟨F, zs, y2, y3, rfl, eH, kH, ho, hF, hn, hf⟩ := h
      obtain ⟨t, x1, x2, rfl, hT, hk, hm⟩ := id hx
      cases hk; cases hm
      have ff : r.foldl Cs.rins (Cs.rins F d) = Cs.rising l := hf
      have hn' : F.length + r.length + 1 ≤ 1000 := by simpa [Nat.add_assoc] using hn
      have hy : zs.length < sizeLine := sz_lt (by rw [hF.len]; omega)
      refine ⟨_, rfl, .inl ⟨rfl, _, sq_of ho⟩, ?_⟩
      refine ⟨_, rfl, o, rfl, ⟨_, sq_of ho⟩, fun D nD => ?_⟩
      refine lcL (R := iPr K) (S := iI) (l := F) (fun p => if Cs.leP p d = true then some 1 else none) (sq_of ho) hF nD (by omega) (fun z d2 H2 _ e2 hz Q1 N1 q1 q2 => ?_) fun H2 ys2 e2 hD hY => ?_
      · obtain ⟨t2, z1, z2, rfl, hT2, hk2, hm2⟩ := hz
        cases hk2; cases hm2
        refine ⟨rfl, _, rfl, _, rfl, t2, t, [d2.1, d2.2], [d.1, d.2], rfl, rfl, st_of hT2, st_of (e2 _ _ hT), _, rfl, ?_⟩
        rw [leT_pr]
        refine iteB (fun c => ?_) fun c => ?_
        · exact q1 1 (if_pos c) _ _ (Evl.Ex.refl _) rfl
        · exact q2 (if_neg (by rw [c]; decide)) _ (Evl.Ex.refl _)
      have hlen : ((F.filterMap fun p => if Cs.leP p d = true then some (1 : Int) else none).length) = (F.filter fun p => Cs.leP p d).length := by
        clear hF hf ff hn hn' hY
        induction F with
        | nil => rfl
        | cons p F ih =>
          rw [List.filterMap_cons, List.filter_cons]
          by_cases c : Cs.leP p d = true
          · rw [if_pos c, if_pos c, List.length_cons, List.length_cons, ih]
          · rw [if_neg c, if_neg c, ih]
      have hle := List.length_filter_le (fun p => Cs.leP p d) F
      refine ⟨D, _, rfl, .inl (sq_of hD), _, rfl, o, _, _, _, rfl, rfl, e2 _ _ ho, hy, by omega, by rw [hY.len, hlen]; omega, ?_⟩
      rw [hY.len, hlen]
      generalize hu : upd _ o _ = H3
      obtain ⟨e3, k3, h3⟩ := gset (eH.trans e2) no (e2 _ _ ho) hu
      have hF3 := (hF.up (kp e2)).up k3
      refine ⟨Cs.rins F d, _, _, _, rfl, e3, (kH.trans (kp e2)).trans k3, h3, ?_, by rw [Cs.rins_len]; omega, ff⟩
      refine All2.app (All2.app ?_ ⟨Mono.up (R := iPr K) k3 (Mono.up (R := iPr K) (kp e2) hx), trivial⟩) ?_
      · exact all2_take hF3 _
      · exact all2_drop hF3 _
    · obtain ⟨F, zs, y2, y3, rfl, eH, kH, ho, hF, hn, hf⟩ := h
      have hf : F = Cs.rising l := hf
      exact ⟨_, rfl, q _ _ _ eH no ho (hf ▸ hF)⟩
theorem ok_law_risingT : FnOk P w K mg base CX0 1 T.law_rising.f T.law_rising.fd ["_law_pairs_so"] (spNL (iT K (iPr K)) (iPr K) (fun l => l.length ≤ 1000) Cs.rising) := by
  refine T.law_rising.F.ok sc_law_rising (fun vs H Q E h => ?_) (fun cdv A outer s H vs Q E hr h => ?_)
  · obtain ⟨v, d, rfl, _⟩ := h; rfl
  · obtain ⟨v, l, rfl, ⟨a, xs, rfl, hS, hA⟩, hl, q⟩ := h
    refine ⟨_, (pss_cons (ps_set (i := 1) sc_law_rising.nd rfl (Or.inl rfl) (pe_lst pa_nil))
  (pss_cons (ps_for PassesOwn.never rfl (pi_tup (pv 0)) (pg_name (i := 2) sc_law_rising.nd rfl (Or.inr rfl))
  (pss_one (ps_expr (pe_bm PySem.F.plainAttrs_list PySem.F.slot_list_insert PySem.F.type_list_insert mt_insert (pv 1) (pa_cons (pe_callB call_len_seq (by rfl) T.b_len (by decide +kernel) (pa_cons (pe_lc (own := [("_law_far", 3)]) (g := (gName 3)) (tt := tTest (tOp (rLeT K) _ _)) rfl sc_law_rising.nd (pi_list (pv 1)) (blkOk_by (own := [("_law_far", 3)]) (N := ["_law_pairs_so", "_law_found", "_law_own", "_law_far"]) (sc := defScope s_law_rising) (by decide +kernel)) (fun _ _ _ _ _ => (pg_name (i := 3) sc_law_rising.nd rfl (Or.inl rfl))) (fun _ _ _ _ _ => (pts_one (pt_cmpR (op_leT hr.units0) (pv 3) (pv 2) (nomark _)))) (fun _ _ _ _ _ => pe_int)) pa_nil)) (pa_cons (pv 2) pa_nil))))))
  (pss_one (ps_ret (pv 1))))), ?_⟩
    refine ⟨sz0, fun o no => ?_⟩
    generalize hu : upd _ o _ = H1
    obtain ⟨e1, h1⟩ := gnew no hu
    refine ⟨_, rfl, a, rfl, ⟨_, ex_t e1 hS⟩, ?_⟩
    refine forT (R := iPr K) (l := l) (xs := xs) (fun r σ' H' => ∃ (F : List Pr) (zs : List V) (y2 y3 : Option V), σ' = [some (.ref a), some (.ref o), y2, y3] ∧ Ex H H' ∧ Kp H1 H' ∧ H' o = some (.lst zs) ∧ All2 (iPr K) H' zs F ∧ F.length + r.length ≤ 1000 ∧ r.foldl Cs.rins F = Cs.rising l)
      (ex_t e1 hS) (hA.up (kp e1)) ⟨[], [], none, none, rfl, e1, Kp.refl _, h1, trivial, by simpa using hl, rfl⟩ (fun r σ' H' h => ?_) (fun pre d r x σ' H' el hx h => ?_) (fun σ' H' h => ?_)
    · obtain ⟨F, zs, y2, y3, rfl, eH, kH, ho, hF, hn, hf⟩ := h
      exact kH
    · obtain ⟨F, zs, y2, y3, rfl, eH, kH, ho, hF, hn, hf⟩ := h
      obtain ⟨t, x1, x2, rfl, hT, hk, hm⟩ := id hx
      cases hk; cases hm
      have ff : r.foldl Cs.rins (Cs.rins F d) = Cs.rising l := hf
      have hn' : F.length + r.length + 1 ≤ 1000 := by simpa [Nat.add_assoc] using hn
      have hy : zs.length < sizeLine := sz_lt (by rw [hF.len]; omega)
      refine ⟨_, rfl, .inl ⟨rfl, _, sq_of ho⟩, ?_⟩
      refine ⟨_, rfl, o, rfl, ⟨_, sq_of ho⟩, fun D nD => ?_⟩
      refine lcL (R := iPr K) (S := iI) (l := F) (fun p => if Cs.leP p d = true then some 1 else none) (sq_of ho) hF nD (by omega) (fun z d2 H2 _ e2 hz Q1 N1 q1 q2 => ?_) fun H2 ys2 e2 hD hY => ?_
      · obtain ⟨t2, z1, z2, rfl, hT2, hk2, hm2⟩ := hz
        cases hk2; cases hm2
        refine ⟨rfl, _, rfl, _, rfl, t2, t, [d2.1, d2.2], [d.1, d.2], rfl, rfl, st_of hT2, st_of (e2 _ _ hT), _, rfl, ?_⟩
        rw [leT_pr]
        refine iteB (fun c => ?_) fun c => ?_
        · exact q1 1 (if_pos c) _ _ (Evl.Ex.refl _) rfl
        · exact q2 (if_neg (by rw [c]; decide)) _ (Evl.Ex.refl _)
      have hlen : ((F.filterMap fun p => if Cs.leP p d = true then some (1 : Int) else none).length) = (F.filter fun p => Cs.leP p d).length := by
        clear hF hf ff hn hn' hY
        induction F with
        | nil => rfl
        | cons p F ih =>
          rw [List.filterMap_cons, List.filter_cons]
          by_cases c : Cs.leP p d = true
          · rw [if_pos c, if_pos c, List.length_cons, List.length_cons, ih]
          · rw [if_neg c, if_neg c, ih]
      have hle := List.length_filter_le (fun p => Cs.leP p d) F
      refine ⟨D, _, rfl, .inl (sq_of hD), _, rfl, o, _, _, _, rfl, rfl, e2 _ _ ho, hy, by omega, by rw [hY.len, hlen]; omega, ?_⟩
      rw [hY.len, hlen]
      generalize hu : upd _ o _ = H3
      obtain ⟨e3, k3, h3⟩ := gset (eH.trans e2) no (e2 _ _ ho) hu
      have hF3 := (hF.up (kp e2)).up k3
      refine ⟨Cs.rins F d, _, _, _, rfl, e3, (kH.trans (kp e2)).trans k3, h3, ?_, by rw [Cs.rins_len]; omega, ff⟩
      refine All2.app (All2.app ?_ ⟨Mono.up (R := iPr K) k3 (Mono.up (R := iPr K) (kp e2) hx), trivial⟩) ?_
      · exact all2_take hF3 _
      · exact all2_drop hF3 _
    · obtain ⟨F, zs, y2, y3, rfl, eH, kH, ho, hF, hn, hf⟩ := h
      have hf : F = Cs.rising l := hf
      exact ⟨_, rfl, q _ _ _ eH no ho (hf ▸ hF)⟩
end
end Cw
namespace Cw
open PySem PySem.Spec PyProof.Rows L2
open Evl (Ex ex_l ex_t sq_of st_of sz_of sz_lt fresh_back)
open Cs (Pr Stp Line)
section
variable {P : Program} {w : World} {K : PySem.W.Frag} {mg : Str → Option Value} {base : Heap} (T : Top w K mg)
include T
omit T in
theorem dpAll_prs {H : Hp} : ∀ {xs : List V} {l : List Pr}, All2 (iPr K) H xs l → DpAll K H xs (l.map dPr)
  | [], [], _ => .nil
  | _ :: _, _ :: _, h => .cons (dp_pr h.1) (dpAll_prs h.2)
  | [], _ :: _, h => h.elim
  | _ :: _, [], h => h.elim
omit T in
theorem dPl_shaped (l : List Pr) : SeqAt.shaped (.list (l.map dPr)) = true := dPs_shaped l
omit T in
theorem dPl_nil (l : List Pr) : PyData.eqv (.list (l.map dPr)) (.list []) = l.isEmpty := by cases l <;> rfl
theorem ok_law_oneL : FnOk P w K mg base CX0 4 T.law_one.f T.law_one.fd ["_law_pairs_so"] (sp1 (iL K (iPr K)) (iT K (iPr K)) (fun l => Cs.Pos l ∧ l.length ≤ 1000) Cs.nf) := by
  refine T.law_one.F.ok sc_law_one (fun vs H Q E h => ?_) (fun cdv A outer s H vs Q E hr h => ?_)
  · obtain ⟨v, d, rfl, _⟩ := h; rfl
  · obtain ⟨v, l, rfl, hv, ⟨hp, hl⟩, q⟩ := h
    refine ⟨_, (pss_cons (ps_set (i := 1) sc_law_one.nd rfl (Or.inl rfl) (pe_lst pa_nil))
  (pss_cons (ps_for PassesOwn.never rfl (pi_list (pe_call (ok_law_risingL T) (hr.mono (by decide)) (by rfl) T.law_rising.g T.law_rising.F.kp (b_law_rising T) .nil pass0 (pa_cons (pv 0) pa_nil))) (pg_tup rfl (pgs_cons (pg_name (i := 2) sc_law_one.nd rfl (Or.inl rfl)) (pgs_cons (pg_name (i := 3) sc_law_one.nd rfl (Or.inl rfl)) pgs_nil)))
  (pss_one (ps_if (PW.pt (pw_and (pt_cmpR (op_neD hr.units) (pv 1) (pe_lst pa_nil) (nomark _)) (pw_and1 (pt_cmpR op_le (pv 2) (pe_ix ix_tup (pe_ix ix_list (pv 1) (pe_un un_neg pe_int) (fun _ _ => rfl)) pe_int (fun _ _ => rfl)) (nomark _))))) (pss_one (ps_asg (pe_tup (pa_cons (pe_ix ix_tup (pe_ix ix_list (pv 1) (pe_un un_neg pe_int) (fun _ _ => rfl)) pe_int (fun _ _ => rfl)) (pa_cons (pe_callB (call_max2 rfl) (by rfl) T.b_max (by decide +kernel) (pa_cons (pe_ix ix_tup (pe_ix ix_list (pv 1) (pe_un un_neg pe_int) (fun _ _ => rfl)) pe_int (fun _ _ => rfl)) (pa_cons (pv 3) pa_nil))) pa_nil))) (pg_sub (pv 1) (pe_un un_neg pe_int) set_list))) (pss_one (ps_expr (pe_bm PySem.F.plainAttrs_list PySem.F.slot_list_append PySem.F.type_list_append mt_append (pv 1) (pa_cons (pe_tup (pa_cons (pv 2) (pa_cons (pv 3) pa_nil))) pa_nil)))))))
  (pss_one (ps_ret (pe_callTy call_tuple_of (by rfl) T.b_tuple (by decide +kernel) (pa_cons (pv 1) pa_nil)))))), ?_⟩
    refine ⟨sz0, fun o no => ?_⟩
    generalize hu : upd _ o _ = H1
    obtain ⟨e1, h1⟩ := gnew no hu
    refine ⟨_, rfl, _, l, rfl, iL.up e1 hv, hl, fun c ys H2 e2 nc hC hY => ?_⟩
    refine ⟨c, rfl, ⟨_, sq_of hC⟩, ?_⟩
    have hmg := Cs.one_nf hp
    have hle : (Cs.rising l).length ≤ 1000 := by rw [Cs.rising_len]; exact hl
    generalize Cs.rising l = M at hY hmg hle
    have nco : c ≠ o := fun z => by rw [z, h1] at nc; cases nc
    refine forL (R := iPr K) (l := M) (xs := ys) (fun r σ' H' => ∃ (F : List Pr) (zs : List V) (y2 y3 : Option V), σ' = [some v, some (.ref o), y2, y3] ∧ Ex H H' ∧ Kp H2 H' ∧ H' c = some (.lst ys) ∧ H' o = some (.lst zs) ∧ All2 (iPr K) H' zs F ∧ F.length + r.length ≤ 1000 ∧ r.foldl Cs.mstep F = Cs.nf l)
      hY ⟨[], [], none, none, rfl, e1.trans e2, Kp.refl _, hC, e2 _ _ h1, trivial, by simpa using hle, hmg⟩ (fun r σ' H' h => ?_) (fun pre d r x σ' H' el hx h => ?_) (fun σ' H' h => ?_)
    · obtain ⟨F, zs, y2, y3, rfl, eH, kH, hc, ho, hF, hn, hf⟩ := h
      exact ⟨kH, sq_of hc⟩
    · obtain ⟨F, zs, y2, y3, rfl, eH, kH, hc, ho, hF, hn, hf⟩ := h
      obtain ⟨i, j⟩ := d
      obtain ⟨t, x1, x2, rfl, hT, hk, hm⟩ := hx
      cases hk; cases hm
      have ff : r.foldl Cs.mstep (Cs.mstep F (i, j)) = Cs.nf l := hf
      have hn' : F.length + r.length + 1 ≤ 1000 := by simpa [Nat.add_assoc] using hn
      refine ⟨t, _, rfl, st_of hT, rfl, _, _, rfl, _, _, rfl, rfl, ?_⟩
      refine ⟨_, rfl, sz0, fun pe npe => ?_⟩
      generalize hu : upd _ pe _ = H2b
      obtain ⟨e2b, h2b⟩ := gnew npe hu
      replace ho := e2b _ _ ho
      replace hc := e2b _ _ hc
      replace eH := eH.trans e2b
      replace kH := kH.trans (kp e2b)
      replace hF := hF.up (kp e2b)
      refine ⟨_, _, .lst (sq_of ho) (dpAll_prs hF), .lst (sq_of h2b) .nil, dPl_shaped _, by decide +kernel, _, rfl, ?_⟩
      rw [dPl_nil]
      rcases snocs F with rfl | ⟨F', ⟨i', j'⟩, rfl⟩
      · refine iteBN (fun z => by cases z) fun _ => ?_
        refine ⟨_, rfl, .inl ⟨rfl, _, sq_of ho⟩, _, rfl, _, rfl, sz2, fun p np => ?_⟩
        generalize hu : upd _ p _ = H3
        obtain ⟨e3, h3⟩ := gnew np hu
        refine ⟨o, _, _, rfl, rfl, e3 _ _ ho, sz_lt (by rw [hF.len]; simp), ?_⟩
        generalize hu : upd _ o _ = H4
        obtain ⟨e4, k4, h4⟩ := gset (eH.trans e3) no (e3 _ _ ho) hu
        have h4c : H4 c = some (.lst ys) := by rw [← hu, upd_ne nco]; exact e3 _ _ hc
        exact ⟨_, _, _, _, rfl, e4, (kH.trans (kp e3)).trans k4, h4c, h4, ((hF.up (kp e3)).up k4).snoc (Mono.up (R := iPr K) k4 (i2_of h3 rfl rfl)), by simp at hn' ⊢; omega, ff⟩
      · refine iteBN (fun _ => ?_) fun z => by simp at z
        obtain ⟨ws, z, rfl, hZ, t2, z1, z2, rfl, hT2, hk2, hm2⟩ := All2.ofSnoc hF
        cases hk2; cases hm2
        rw [Cs.mstep_snoc] at ff
        refine ⟨_, rfl, _, rfl, _, rfl, _, _, _, _, rfl, rfl, sq_of ho, atI_last _ _, _, _, _, _, rfl, rfl, st_of hT2, rfl, _, _, rfl, rfl, _, rfl, iteD (fun c2 => ?_) (fun c2 => ?_)⟩
        · rw [if_pos c2] at ff
          refine ⟨_, rfl, _, rfl, _, _, _, _, rfl, rfl, sq_of ho, atI_last _ _, _, _, _, _, rfl, rfl, st_of hT2, rfl, ?_⟩
          refine ⟨_, rfl, _, rfl, _, _, _, _, rfl, rfl, sq_of ho, atI_last _ _, _, _, _, _, rfl, rfl, st_of hT2, rfl, _, rfl, _, _, rfl, sz2, fun p np => ?_⟩
          generalize hu : upd _ p _ = H3
          obtain ⟨e3, h3⟩ := gnew np hu
          refine ⟨_, rfl, _, rfl, o, _, _, _, rfl, rfl, e3 _ _ ho, ixN_last _ _, ?_⟩
          rw [set_last]
          generalize hu : upd _ o _ = H4
          obtain ⟨e4, k4, h4⟩ := gset (eH.trans e3) no (e3 _ _ ho) hu
          have h4c : H4 c = some (.lst ys) := by rw [← hu, upd_ne nco]; exact e3 _ _ hc
          exact ⟨_, _, _, _, rfl, e4, (kH.trans (kp e3)).trans k4, h4c, h4, ((hZ.up (kp e3)).up k4).snoc (Mono.up (R := iPr K) k4 (i2_of h3 rfl rfl)), by simp at hn' ⊢; omega, ff⟩
        · rw [if_neg c2] at ff
          refine ⟨_, rfl, .inl ⟨rfl, _, sq_of ho⟩, _, rfl, _, rfl, sz2, fun p np => ?_⟩
          generalize hu : upd _ p _ = H3
          obtain ⟨e3, h3⟩ := gnew np hu
          refine ⟨o, _, _, rfl, rfl, e3 _ _ ho, sz_lt (by rw [hF.len]; simp at hn' ⊢; omega), ?_⟩
          generalize hu : upd _ o _ = H4
          obtain ⟨e4, k4, h4⟩ := gset (eH.trans e3) no (e3 _ _ ho) hu
          have h4c : H4 c = some (.lst ys) := by rw [← hu, upd_ne nco]; exact e3 _ _ hc
          exact ⟨_, _, _, _, rfl, e4, (kH.trans (kp e3)).trans k4, h4c, h4, ((hF.up (kp e3)).up k4).snoc (Mono.up (R := iPr K) k4 (i2_of h3 rfl rfl)), by simp at hn' ⊢; omega, ff⟩
    · obtain ⟨F, zs, y2, y3, rfl, eH, kH, hc, ho, hF, hn, hf⟩ := h
      refine ⟨_, rfl, o, _, rfl, .inl ⟨sq_of ho, fun p np => ?_⟩⟩
      generalize hu : upd _ p _ = H3
      obtain ⟨e3, h3⟩ := gnew np hu
      exact q _ _ (eH.trans e3) (hf ▸ iT_of h3 (hF.up (kp e3)))
theorem ok_law_oneT : FnOk P w K mg base CX0 4 T.law_one.f T.law_one.fd ["_law_pairs_so"] (sp1 (iT K (iPr K)) (iT K (iPr K)) (fun l => Cs.Pos l ∧ l.length ≤ 1000) Cs.nf) := by
  refine T.law_one.F.ok sc_law_one (fun vs H Q E h => ?_) (fun cdv A outer s H vs Q E hr h => ?_)
  · obtain ⟨v, d, rfl, _⟩ := h; rfl
  · obtain ⟨v, l, rfl, hv, ⟨hp, hl⟩, q⟩ := h
    refine ⟨_, (pss_cons (ps_set (i := 1) sc_law_one.nd rfl (Or.inl rfl) (pe_lst pa_nil))
  (pss_cons (ps_for PassesOwn.never rfl (pi_list (pe_call (ok_law_risingT T) (hr.mono (by decide)) (by rfl) T.law_rising.g T.law_rising.F.kp (b_law_rising T) .nil pass0 (pa_cons (pv 0) pa_nil))) (pg_tup rfl (pgs_cons (pg_name (i := 2) sc_law_one.nd rfl (Or.inl rfl)) (pgs_cons (pg_name (i := 3) sc_law_one.nd rfl (Or.inl rfl)) pgs_nil)))
  (pss_one (ps_if (PW.pt (pw_and (pt_cmpR (op_neD hr.units) (pv 1) (pe_lst pa_nil) (nomark _)) (pw_and1 (pt_cmpR op_le (pv 2) (pe_ix ix_tup (pe_ix ix_list (pv 1) (pe_un un_neg pe_int) (fun _ _ => rfl)) pe_int (fun _ _ => rfl)) (nomark _))))) (pss_one (ps_asg (pe_tup (pa_cons (pe_ix ix_tup (pe_ix ix_list (pv 1) (pe_un un_neg pe_int) (fun _ _ => rfl)) pe_int (fun _ _ => rfl)) (pa_cons (pe_callB (call_max2 rfl) (by rfl) T.b_max (by decide +kernel) (pa_cons (pe_ix ix_tup (pe_ix ix_list (pv 1) (pe_un un_neg pe_int) (fun _ _ => rfl)) pe_int (fun _ _ => rfl)) (pa_cons (pv 3) pa_nil))) pa_nil))) (pg_sub (pv 1) (pe_un un_neg pe_int) set_list))) (pss_one (ps_expr (pe_bm PySem.F.plainAttrs_list PySem.F.slot_list_append PySem.F.type_list_append mt_append (pv 1) (pa_cons (pe_tup (pa_cons (pv 2) (pa_cons (pv 3) pa_nil))) pa_nil)))))))
  (pss_one (ps_ret (pe_callTy call_tuple_of (by rfl) T.b_tuple (by decide +kernel) (pa_cons (pv 1) pa_nil)))))), ?_⟩
    refine ⟨sz0, fun o no => ?_⟩
    generalize hu : upd _ o _ = H1
    obtain ⟨e1, h1⟩ := gnew no hu
    refine ⟨_, rfl, _, l, rfl, Mono.up (R := iT K (iPr K)) (kp e1) hv, hl, fun c ys H2 e2 nc hC hY => ?_⟩
    refine ⟨c, rfl, ⟨_, sq_of hC⟩, ?_⟩
    have hmg := Cs.one_nf hp
    have hle : (Cs.rising l).length ≤ 1000 := by rw [Cs.rising_len]; exact hl
    generalize Cs.rising l = M at hY hmg hle
    have nco : c ≠ o := fun z => by rw [z, h1] at nc; cases nc
    refine forL (R := iPr K) (l := M) (xs := ys) (fun r σ' H' => ∃ (F : List Pr) (zs : List V) (y2 y3 : Option V), σ' = [some v, some (.ref o), y2, y3] ∧ Ex H H' ∧ Kp H2 H' ∧ H' c = some (.lst ys) ∧ H' o = some (.lst zs) ∧ All2 (iPr K) H' zs F ∧ F.length + r.length ≤ 1000 ∧ r.foldl Cs.mstep F = Cs.nf l)
      hY ⟨[], [], none, none, rfl, e1.trans e2, Kp.refl _, hC, e2 _ _ h1, trivial, by simpa using hle, hmg⟩ (fun r σ' H' h => ?_) (fun pre d r x σ' H' el hx h => ?_) (fun σ' H' h => ?_)
    · obtain ⟨F, zs, y2, y3, rfl, eH, kH, hc, ho, hF, hn, hf⟩ := h
      exact ⟨kH, sq_of hc⟩
    · obtain ⟨F, zs, y2, y3, rfl, eH, kH, hc, ho, hF, hn, hf⟩ := h
      obtain ⟨i, j⟩ := d
      obtain ⟨t, x1, x2, rfl, hT, hk, hm⟩ := hx
      cases hk; cases hm
      have ff : r.foldl Cs.mstep (Cs.mstep F (i, j)) = Cs.nf l := hf
      have hn' : F.length + r.length + 1 ≤ 1000 := by simpa [Nat.add_assoc] using hn
      refine ⟨t, _, rfl, st_of hT, rfl, _, _, rfl, _, _, rfl, rfl, ?_⟩
      refine ⟨_, rfl, sz0, fun pe npe => ?_⟩
      generalize hu : upd _ pe _ = H2b
      obtain ⟨e2b, h2b⟩ := gnew npe hu
      replace ho := e2b _ _ ho
      replace hc := e2b _ _ hc
      replace eH := eH.trans e2b
      replace kH := kH.trans (kp e2b)
      replace hF := hF.up (kp e2b)
      refine ⟨_, _, .lst (sq_of ho) (dpAll_prs hF), .lst (sq_of h2b) .nil, dPl_shaped _, by decide +kernel, _, rfl, ?_⟩
      rw [dPl_nil]
      rcases snocs F with rfl | ⟨F', ⟨i', j'⟩, rfl⟩
      · refine iteBN (fun z => by cases z) fun _ => ?_
        refine ⟨_, rfl, .inl ⟨rfl, _, sq_of ho⟩, _, rfl, _, rfl, sz2, fun p np => ?_⟩
        generalize hu : upd _ p _ = H3
        obtain ⟨e3, h3⟩ := gnew np hu
        refine ⟨o, _, _, rfl, rfl, e3 _ _ ho, sz_lt (by rw [hF.len]; simp), ?_⟩
        generalize hu : upd _ o _ = H4
        obtain ⟨e4, k4, h4⟩ := gset (eH.trans e3) no (e3 _ _ ho) hu
        have h4c : H4 c = some (.lst ys) := by rw [← hu, upd_ne nco]; exact e3 _ _ hc
        exact ⟨_, _, _, _, rfl, e4, (kH.trans (kp e3)).trans k4, h4c, h4, ((hF.up (kp e3)).up k4).snoc (Mono.up (R := iPr K) k4 (i2_of h3 rfl rfl)), by simp at hn' ⊢; omega, ff⟩
      · refine iteBN (fun _ => ?_) fun z => by simp at z
        obtain ⟨ws, z, rfl, hZ, t2, z1, z2, rfl, hT2, hk2, hm2⟩ := All2.ofSnoc hF
        cases hk2; cases hm2
        rw [Cs.mstep_snoc] at ff
        refine ⟨_, rfl, _, rfl, _, rfl, _, _, _, _, rfl, rfl, sq_of ho, atI_last _ _, _, _, _, _, rfl, rfl, st_of hT2, rfl, _, _, rfl, rfl, _, rfl, iteD (fun c2 => ?_) (fun c2 => ?_)⟩
        · rw [if_pos c2] at ff
          refine ⟨_, rfl, _, rfl, _, _, _, _, rfl, rfl, sq_of ho, atI_last _ _, _, _, _, _, rfl, rfl, st_of hT2, rfl, ?_⟩
          refine ⟨_, rfl, _, rfl, _, _, _, _, rfl, rfl, sq_of ho, atI_last _ _, _, _, _, _, rfl, rfl, st_of hT2, rfl, _, rfl, _, _, rfl, sz2, fun p np => ?_⟩
          generalize hu : upd _ p _ = H3
          obtain ⟨e3, h3⟩ := gnew np hu
          refine ⟨_, rfl, _, rfl, o, _, _, _, rfl, rfl, e3 _ _ ho, ixN_last _ _, ?_⟩
          rw [set_last]
          generalize hu : upd _ o _ = H4
          obtain ⟨e4, k4, h4⟩ := gset (eH.trans e3) no (e3 _ _ ho) hu
          have h4c : H4 c = some (.lst ys) := by rw [← hu, upd_ne nco]; exact e3 _ _ hc
          exact ⟨_, _, _, _, rfl, e4, (kH.trans (kp e3)).trans k4, h4c, h4, ((hZ.up (kp e3)).up k4).snoc (Mono.up (R := iPr K) k4 (i2_of h3 rfl rfl)), by simp at hn' ⊢; omega, ff⟩
        · rw [if_neg c2] at ff
          refine ⟨_, rfl, .inl ⟨rfl, _, sq_of ho⟩, _, rfl, _, rfl, sz2, fun p np => ?_⟩
          generalize hu : upd _ p _ = H3
          obtain ⟨e3, h3⟩ := gnew np hu
          refine ⟨o, _, _, rfl, rfl, e3 _ _ ho, sz_lt (by rw [hF.len]; simp at hn' ⊢; omega), ?_⟩
          generalize hu : upd _ o _ = H4
          obtain ⟨e4, k4, h4⟩ := gset (eH.trans e3) no (e3 _ _ ho) hu
          have h4c : H4 c = some (.lst ys) := by rw [← hu, upd_ne nco]; exact e3 _ _ hc
          exact ⟨_, _, _, _, rfl, e4, (kH.trans (kp e3)).trans k4, h4c, h4, ((hF.up (kp e3)).up k4).snoc (Mono.up (R := iPr K) k4 (i2_of h3 rfl rfl)), by simp at hn' ⊢; omega, ff⟩
    · obtain ⟨F, zs, y2, y3, rfl, eH, kH, hc, ho, hF, hn, hf⟩ := h
      refine ⟨_, rfl, o, _, rfl, .inl ⟨sq_of ho, fun p np => ?_⟩⟩
      generalize hu : upd _ p _ = H3
      obtain ⟨e3, h3⟩ := gnew np hu
      exact q _ _ (eH.trans e3) (hf ▸ iT_of h3 (hF.up (kp e3)))
end
end Cw
namespace Cw
open PySem PySem.Spec PyProof.Rows L2
open Evl (Ex ex_l ex_t sq_of st_of sz_of sz_lt fresh_back)
open Cs (Pr Stp Line)
section
variable {P : Program} {w : World} {K : PySem.W.Frag} {mg : Str → Option Value} {base : Heap} (T : Top w K mg)
include T
omit T in
theorem norm_lt {U : List Pr} (h : Cs.Norm U) {p : Pr} (hp : p ∈ U) : p.1 < p.2 := h.1 p hp
/-- a comprehension over pairs that makes pairs -/
theorem ok_law_made : FnOk P w K mg base CX0 7 T.law_made.f T.law_made.fd ["_law_line_here", "_law_track_here"] (sp2 (iLine K) (iT K (iPr K)) (iT K (iPr K)) (fun l S => l.good ∧ Cs.Norm S ∧ S.length ≤ 500) Cs.Line.law) := by
  refine T.law_made.F.ok sc_law_made (fun vs H Q E h => ?_) (fun cdv A outer s H vs Q E hr h => ?_)
  · obtain ⟨v, d, w, e, rfl, _⟩ := h; rfl
  · obtain ⟨v, l, w, S, rfl, ⟨a, xs, rfl, hS, hA⟩, hw, ⟨hg, hN0, hl⟩, q⟩ := h
    refine ⟨_, (pss_cons (ps_for PassesOwn.never rfl (pi_tup (pv 0)) (pg_tup rfl (pgs_cons (pg_name (i := 2) sc_law_made.nd rfl (Or.inl rfl)) (pgs_cons (pg_name (i := 3) sc_law_made.nd rfl (Or.inr rfl)) pgs_nil)))
  (pss_one (ps_if (pt_cmpR op_eq (pv 2) pe_str (nomark _)) (pss_cons (ps_set (i := 4) sc_law_made.nd rfl (Or.inl rfl) (pe_call (ok_law_oneL T) (hr.mono (by decide)) (by rfl) T.law_one.g T.law_one.F.kp (b_law_one T) .nil pass0 (pa_cons (pe_lc (own := [("_law_low", 5), ("_law_high", 6)]) (g := (gTup K 2 (gCons (gName 5) (gCons (gName 6) gNil)))) (tt := tYes) (te := tTup (tCons _ (tCons (tOp _ _ (tOp (rIxT K) _ _)) tNil))) rfl sc_law_made.nd (pi_tup (pv 1)) (blkOk_by (own := [("_law_low", 5), ("_law_high", 6)]) (N := ["_law_line_here", "_law_track_here", "_law_sort_so", "_law_nums_so", "_law_wide_so", "_law_low", "_law_high"]) (sc := defScope s_law_made) (by decide +kernel)) (fun _ _ _ _ _ => (pg_tup rfl (pgs_cons (pg_name (i := 5) sc_law_made.nd rfl (Or.inl rfl)) (pgs_cons (pg_name (i := 6) sc_law_made.nd rfl (Or.inl rfl)) pgs_nil)))) (fun _ _ _ _ _ => pts_nil) (fun _ _ _ _ _ => (pe_tup (pa_cons (pv 5) (pa_cons (pe_op op_add (pv 6) (pe_ix ix_tup (pv 3) pe_int (fun _ _ => rfl))) pa_nil))))) pa_nil)))
  (pss_one (ps_set (i := 1) sc_law_made.nd rfl (Or.inl rfl) (pe_callTy call_tuple_of (by rfl) T.b_tuple (by decide +kernel) (pa_cons (pe_lc (own := [("_law_low", 5), ("_law_high", 6)]) (g := (gTup K 2 (gCons (gName 5) (gCons (gName 6) gNil)))) (tt := tYes) (te := tTup (tCons _ (tCons (tOp _ _ (tOp (rIxT K) _ _)) tNil))) rfl sc_law_made.nd (pi_tup (pv 4)) (blkOk_by (own := [("_law_low", 5), ("_law_high", 6)]) (N := ["_law_line_here", "_law_track_here", "_law_sort_so", "_law_nums_so", "_law_wide_so", "_law_low", "_law_high"]) (sc := defScope s_law_made) (by decide +kernel)) (fun _ _ _ _ _ => (pg_tup rfl (pgs_cons (pg_name (i := 5) sc_law_made.nd rfl (Or.inl rfl)) (pgs_cons (pg_name (i := 6) sc_law_made.nd rfl (Or.inl rfl)) pgs_nil)))) (fun _ _ _ _ _ => pts_nil) (fun _ _ _ _ _ => (pe_tup (pa_cons (pv 5) (pa_cons (pe_op op_sub (pv 6) (pe_ix ix_tup (pv 3) pe_int (fun _ _ => rfl))) pa_nil))))) pa_nil))))) (pss_one (ps_if (pt_cmpR op_eq (pv 2) pe_str (nomark _)) (pss_one (ps_set (i := 1) sc_law_made.nd rfl (Or.inl rfl) (pe_callTy call_tuple_of (by rfl) T.b_tuple (by decide +kernel) (pa_cons (pe_lc (own := [("_law_low", 5), ("_law_high", 6)]) (g := (gTup K 2 (gCons (gName 5) (gCons (gName 6) gNil)))) (tt := tTest (tOp _ (tOp _ _ _) (tOp (rIxT K) _ _))) rfl sc_law_made.nd (pi_tup (pv 1)) (blkOk_by (own := [("_law_low", 5), ("_law_high", 6)]) (N := ["_law_line_here", "_law_track_here", "_law_sort_so", "_law_nums_so", "_law_wide_so", "_law_low", "_law_high"]) (sc := defScope s_law_made) (by decide +kernel)) (fun _ _ _ _ _ => (pg_tup rfl (pgs_cons (pg_name (i := 5) sc_law_made.nd rfl (Or.inl rfl)) (pgs_cons (pg_name (i := 6) sc_law_made.nd rfl (Or.inl rfl)) pgs_nil)))) (fun _ _ _ _ _ => (pts_one (pt_cmpR op_gt (pe_op op_sub (pv 6) (pv 5)) (pe_ix ix_tup (pv 3) pe_int (fun _ _ => rfl)) (nomark _)))) (fun _ _ _ _ _ => (pe_tup (pa_cons (pv 5) (pa_cons (pv 6) pa_nil))))) pa_nil)))) (pss_one (ps_if (pt_cmpR op_eq (pv 2) pe_str (nomark _)) (pss_one (ps_set (i := 1) sc_law_made.nd rfl (Or.inl rfl) (pe_callTy call_tuple_of (by rfl) T.b_tuple (by decide +kernel) (pa_cons (pe_lc (own := [("_law_low", 5), ("_law_high", 6)]) (g := (gTup K 2 (gCons (gName 5) (gCons (gName 6) gNil)))) (tt := tYes) (te := tTup (tCons (tOp _ _ (tOp (rIxT K) _ _)) (tCons (tOp _ _ (tOp (rIxT K) _ _)) tNil))) rfl sc_law_made.nd (pi_tup (pv 1)) (blkOk_by (own := [("_law_low", 5), ("_law_high", 6)]) (N := ["_law_line_here", "_law_track_here", "_law_sort_so", "_law_nums_so", "_law_wide_so", "_law_low", "_law_high"]) (sc := defScope s_law_made) (by decide +kernel)) (fun _ _ _ _ _ => (pg_tup rfl (pgs_cons (pg_name (i := 5) sc_law_made.nd rfl (Or.inl rfl)) (pgs_cons (pg_name (i := 6) sc_law_made.nd rfl (Or.inl rfl)) pgs_nil)))) (fun _ _ _ _ _ => pts_nil) (fun _ _ _ _ _ => (pe_tup (pa_cons (pe_op op_add (pv 5) (pe_ix ix_tup (pv 3) pe_int (fun _ _ => rfl))) (pa_cons (pe_op op_add (pv 6) (pe_ix ix_tup (pv 3) pe_int (fun _ _ => rfl))) pa_nil))))) pa_nil)))) (pss_one (ps_if (pt_cmpR op_eq (pv 2) pe_str (nomark _)) (pss_one (ps_set (i := 1) sc_law_made.nd rfl (Or.inl rfl) (pe_call (ok_law_oneL T) (hr.mono (by decide)) (by rfl) T.law_one.g T.law_one.F.kp (b_law_one T) .nil pass0 (pa_cons (pe_lc (own := [("_law_low", 5), ("_law_high", 6)]) (g := (gTup K 2 (gCons (gName 5) (gCons (gName 6) gNil)))) (tt := tYes) (te := tTup (tCons (tOp _ _ (tOp (rIxT K) _ _)) (tCons (tOp _ _ (tOp (rIxT K) _ _)) tNil))) rfl sc_law_made.nd (pi_tup (pv 1)) (blkOk_by (own := [("_law_low", 5), ("_law_high", 6)]) (N := ["_law_line_here", "_law_track_here", "_law_sort_so", "_law_nums_so", "_law_wide_so", "_law_low", "_law_high"]) (sc := defScope s_law_made) (by decide +kernel)) (fun _ _ _ _ _ => (pg_tup rfl (pgs_cons (pg_name (i := 5) sc_law_made.nd rfl (Or.inl rfl)) (pgs_cons (pg_name (i := 6) sc_law_made.nd rfl (Or.inl rfl)) pgs_nil)))) (fun _ _ _ _ _ => pts_nil) (fun _ _ _ _ _ => (pe_tup (pa_cons (pe_op op_sub (pv 5) (pe_ix ix_tup (pv 3) pe_int (fun _ _ => rfl))) (pa_cons (pe_op op_add (pv 6) (pe_ix ix_tup (pv 3) pe_int (fun _ _ => rfl))) pa_nil))))) pa_nil)))) (pss_one (ps_set (i := 1) sc_law_made.nd rfl (Or.inl rfl) (pe_callTy call_tuple_of (by rfl) T.b_tuple (by decide +kernel) (pa_cons (pe_lc (own := [("_law_low", 5), ("_law_high", 6)]) (g := (gTup K 2 (gCons (gName 5) (gCons (gName 6) gNil)))) (tt := tTest (tOp _ (tOp _ _ _) (tCB (rSumT K) (tCons _ tNil)))) (te := tTup (tCons (tOp _ _ (tOp (rIxT K) _ _)) (tCons (tOp _ _ (tOp (rIxT K) _ _)) tNil))) rfl sc_law_made.nd (pi_tup (pv 1)) (blkOk_by (own := [("_law_low", 5), ("_law_high", 6)]) (N := ["_law_line_here", "_law_track_here", "_law_sort_so", "_law_nums_so", "_law_wide_so", "_law_low", "_law_high"]) (sc := defScope s_law_made) (by decide +kernel)) (fun _ _ _ _ _ => (pg_tup rfl (pgs_cons (pg_name (i := 5) sc_law_made.nd rfl (Or.inl rfl)) (pgs_cons (pg_name (i := 6) sc_law_made.nd rfl (Or.inl rfl)) pgs_nil)))) (fun _ _ _ _ _ => (pts_one (pt_cmpR op_gt (pe_op op_sub (pv 6) (pv 5)) (pe_callB (cr_sumT rfl) (by rfl) T.b_sum (by decide +kernel) (pa_cons (pv 3) pa_nil)) (nomark _)))) (fun _ _ _ _ _ => (pe_tup (pa_cons (pe_op op_add (pv 5) (pe_ix ix_tup (pv 3) pe_int (fun _ _ => rfl))) (pa_cons (pe_op op_sub (pv 6) (pe_ix ix_tup (pv 3) pe_int (fun _ _ => rfl))) pa_nil))))) pa_nil)))))))))))))
  (pss_one (ps_ret (pv 1)))), ?_⟩
    refine ⟨_, rfl, a, rfl, ⟨_, hS⟩, ?_⟩
    refine forT (R := iSt K) (l := l) (xs := xs) (fun r σ' H' => ∃ (v : V) (U : List Pr) (y2 y3 y4 : Option V), σ' = [some (.ref a), some v, y2, y3, y4, none, none] ∧ Ex H H' ∧ iT K (iPr K) v H' U ∧ Cs.Norm U ∧ U.length ≤ 500 ∧ Cs.Line.law r U = Cs.Line.law l S)
      hS hA ⟨w, S, none, none, none, rfl, Evl.Ex.refl _, hw, hN0, hl, rfl⟩ (fun r σ' H' h => ?_) (fun pre d r x σ' H' el hx h => ?_) (fun σ' H' h => ?_)
    · obtain ⟨v, U, y2, y3, y4, rfl, eH, _⟩ := h
      exact kp eH
    · obtain ⟨v, U, y2, y3, y4, rfl, eH, ⟨c, us, ev, hC, hU⟩, hN, hlU, hf⟩ := h
      subst ev
      have hd : d.good := hg d (by rw [el]; simp)
      have hlw := Cs.Stp.law_ok hd hN
      have hll := Nat.le_trans (Cs.law_len d U) hlU
      have fin : ∀ (z : V) (y2 y3 y4 : Option V) (H2 : Hp), Ex H' H2 → iT K (iPr K) z H2 (d.law U) → ∃ (v : V) (U : List Pr) (w2 w3 w4 : Option V), [some (V.ref a), some z, y2, y3, y4, none, none] = [some (.ref a), some v, w2, w3, w4, none, none] ∧ Ex H H2 ∧ iT K (iPr K) v H2 U ∧ Cs.Norm U ∧ U.length ≤ 500 ∧ Cs.Line.law r U = Cs.Line.law l S :=
        fun z y2 y3 y4 H2 e2 hz => ⟨z, d.law U, y2, y3, y4, rfl, eH.trans e2, hz, hlw.1, hll, hf⟩
      obtain ⟨t, y, rfl, hT, hy⟩ := st_at hx
      refine ⟨t, _, rfl, st_of hT, rfl, _, _, rfl, _, _, rfl, rfl, ?_⟩
      cases d with
      | fill g =>
        obtain ⟨b, rfl, hB, hb⟩ := nums0 hy (show [g][0]? = some g from rfl)
        refine ⟨_, rfl, rfl, _, rfl, iteY rfl ?_⟩
        refine ⟨_, rfl, c, rfl, ⟨_, hC⟩, fun D nD => ?_⟩
        refine lcT (R := iPr K) (S := iPr K) (l := U) (fun p => some (p.1, p.2 + g)) hC hU nD (by omega) (fun z d H2 _ e2 hz Q1 N1 q1 q2 => ?_) fun H2 ys e2 hD hY => ?_
        · obtain ⟨t2, x1, x2, rfl, hT2, hk, hm⟩ := hz
          cases hk; cases hm
          refine ⟨t2, _, rfl, st_of hT2, rfl, _, _, rfl, _, _, rfl, rfl, rfl, ?_⟩
          refine ⟨_, rfl, _, rfl, _, rfl, b, _, _, _, rfl, rfl, ex_t e2 hB, hb, _, _, rfl, rfl, sz2, fun p np => ?_⟩
          generalize hu : upd _ p _ = H3
          obtain ⟨e3, h3⟩ := gnew np hu
          exact q1 _ rfl _ _ e3 (i2_of h3 rfl rfl)
        rw [List.filterMap_eq_map'] at hY
        have hpos : Cs.Pos (U.map fun p => (p.1, p.2 + g)) := fun p hp => by
          obtain ⟨p0, h0, rfl⟩ := List.mem_map.mp hp
          have := norm_lt hN h0
          have : 0 ≤ g := hd
          dsimp only
          omega
        refine ⟨_, _, rfl, iL_of hD hY, ⟨hpos, by rw [List.length_map]; omega⟩, fun z H3 e3 ⟨c2, ws, ez, hC2, hW⟩ => ?_⟩
        subst ez
        refine ⟨_, rfl, c2, rfl, ⟨_, hC2⟩, fun D2 nD2 => ?_⟩
        refine lcT (R := iPr K) (S := iPr K) (fun p => some (p.1, p.2 - g)) hC2 hW nD2 (by have := Cs.nf_len (U.map fun p => (p.1, p.2 + g)); rw [List.length_map] at this; omega) (fun z d H4 _ e4 hz Q1 N1 q1 q2 => ?_) fun H4 ys2 e4 hD2 hY2 => ?_
        · obtain ⟨t2, x1, x2, rfl, hT2, hk, hm⟩ := hz
          cases hk; cases hm
          refine ⟨t2, _, rfl, st_of hT2, rfl, _, _, rfl, _, _, rfl, rfl, rfl, ?_⟩
          refine ⟨_, rfl, _, rfl, _, rfl, b, _, _, _, rfl, rfl, ex_t ((e2.trans e3).trans e4) hB, hb, _, _, rfl, rfl, sz2, fun p np => ?_⟩
          generalize hu : upd _ p _ = H5
          obtain ⟨e5, h5⟩ := gnew np hu
          exact q1 _ rfl _ _ e5 (i2_of h5 rfl rfl)
        rw [List.filterMap_eq_map'] at hY2
        refine ⟨D2, _, rfl, .inl ⟨sq_of hD2, fun p np => ?_⟩⟩
        generalize hu : upd _ p _ = H5
        obtain ⟨e5, h5⟩ := gnew np hu
        exact fin _ _ _ _ _ (((e2.trans e3).trans e4).trans e5) (iT_of h5 (hY2.up (kp e5)))
      | drop g =>
        obtain ⟨b, rfl, hB, hb⟩ := nums0 hy (show [g][0]? = some g from rfl)
        refine ⟨_, rfl, rfl, _, rfl, iteN (kne (a := "drop") (b := "fill") (by decide +kernel)) ?_⟩
        refine ⟨_, rfl, rfl, _, rfl, iteY rfl ?_⟩
        refine ⟨_, rfl, c, rfl, ⟨_, hC⟩, fun D nD => ?_⟩
        refine lcT (R := iPr K) (S := iPr K) (l := U) (fun p => if g < p.2 - p.1 then some p else none) hC hU nD (by omega) (fun z d H2 _ e2 hz Q1 N1 q1 q2 => ?_) fun H2 ys e2 hD hY => ?_
        · obtain ⟨i, j⟩ := d
          obtain ⟨t2, x1, x2, rfl, hT2, hk, hm⟩ := hz
          cases hk; cases hm
          refine ⟨t2, _, rfl, st_of hT2, rfl, _, _, rfl, _, _, rfl, rfl, rfl, ?_⟩
          refine ⟨_, rfl, _, rfl, _, _, rfl, rfl, _, rfl, b, _, _, _, rfl, rfl, ex_t e2 hB, hb, _, _, rfl, rfl, _, rfl, iteD (fun c1 => ?_) (fun c1 => ?_)⟩
          · refine ⟨_, rfl, _, rfl, sz2, fun p np => ?_⟩
            generalize hu : upd _ p _ = H3
            obtain ⟨e3, h3⟩ := gnew np hu
            exact q1 (i, j) (if_pos c1) _ _ e3 (i2_of h3 rfl rfl)
          · exact q2 (if_neg c1) _ (Evl.Ex.refl _)
        have ef : U.filterMap (fun p => if g < p.2 - p.1 then some p else none) = (Stp.drop g).law U := by
          show _ = U.filter fun p => decide (g < p.2 - p.1)
          rw [← List.filterMap_eq_filter]
          congr 1
          funext p
          by_cases h : g < p.2 - p.1 <;> simp [Option.guard, h]
        rw [ef] at hY
        refine ⟨D, _, rfl, .inl ⟨sq_of hD, fun p np => ?_⟩⟩
        generalize hu : upd _ p _ = H5
        obtain ⟨e5, h5⟩ := gnew np hu
        exact fin _ _ _ _ _ (e2.trans e5) (iT_of h5 (hY.up (kp e5)))
      | shift g =>
        obtain ⟨b, rfl, hB, hb⟩ := nums0 hy (show [g][0]? = some g from rfl)
        refine ⟨_, rfl, rfl, _, rfl, iteN (kne (a := "shift") (b := "fill") (by decide +kernel)) ?_⟩
        refine ⟨_, rfl, rfl, _, rfl, iteN (kne (a := "shift") (b := "drop") (by decide +kernel)) ?_⟩
        refine ⟨_, rfl, rfl, _, rfl, iteY rfl ?_⟩
        refine ⟨_, rfl, c, rfl, ⟨_, hC⟩, fun D nD => ?_⟩
        refine lcT (R := iPr K) (S := iPr K) (l := U) (fun p => some (p.1 + g, p.2 + g)) hC hU nD (by omega) (fun z d H2 _ e2 hz Q1 N1 q1 q2 => ?_) fun H2 ys e2 hD hY => ?_
        · obtain ⟨t2, x1, x2, rfl, hT2, hk, hm⟩ := hz
          cases hk; cases hm
          refine ⟨t2, _, rfl, st_of hT2, rfl, _, _, rfl, _, _, rfl, rfl, rfl, ?_⟩
          refine ⟨_, rfl, _, rfl, b, _, _, _, rfl, rfl, ex_t e2 hB, hb, _, _, rfl, rfl, _, rfl, _, rfl, b, _, _, _, rfl, rfl, ex_t e2 hB, hb, _, _, rfl, rfl, sz2, fun p np => ?_⟩
          generalize hu : upd _ p _ = H3
          obtain ⟨e3, h3⟩ := gnew np hu
          exact q1 _ rfl _ _ e3 (i2_of h3 rfl rfl)
        rw [List.filterMap_eq_map'] at hY
        refine ⟨D, _, rfl, .inl ⟨sq_of hD, fun p np => ?_⟩⟩
        generalize hu : upd _ p _ = H5
        obtain ⟨e5, h5⟩ := gnew np hu
        exact fin _ _ _ _ _ (e2.trans e5) (iT_of h5 (hY.up (kp e5)))
      | widen g e =>
        obtain ⟨b, rfl, hB, hb⟩ := nums0 hy (show [g, e][0]? = some g from rfl)
        obtain ⟨b', eb, hB', hb'⟩ := nums0 hy (show [g, e][1]? = some e from rfl)
        cases eb
        refine ⟨_, rfl, rfl, _, rfl, iteN (kne (a := "widen") (b := "fill") (by decide +kernel)) ?_⟩
        refine ⟨_, rfl, rfl, _, rfl, iteN (kne (a := "widen") (b := "drop") (by decide +kernel)) ?_⟩
        refine ⟨_, rfl, rfl, _, rfl, iteN (kne (a := "widen") (b := "shift") (by decide +kernel)) ?_⟩
        refine ⟨_, rfl, rfl, _, rfl, iteY rfl ?_⟩
        refine ⟨_, rfl, c, rfl, ⟨_, hC⟩, fun D nD => ?_⟩
        refine lcT (R := iPr K) (S := iPr K) (l := U) (fun p => some (p.1 - g, p.2 + e)) hC hU nD (by omega) (fun z d H2 _ e2 hz Q1 N1 q1 q2 => ?_) fun H2 ys e2 hD hY => ?_
        · obtain ⟨t2, x1, x2, rfl, hT2, hk, hm⟩ := hz
          cases hk; cases hm
          refine ⟨t2, _, rfl, st_of hT2, rfl, _, _, rfl, _, _, rfl, rfl, rfl, ?_⟩
          refine ⟨_, rfl, _, rfl, b, _, _, _, rfl, rfl, ex_t e2 hB, hb, _, _, rfl, rfl, _, rfl, _, rfl, b, _, _, _, rfl, rfl, ex_t e2 hB, hb', _, _, rfl, rfl, sz2, fun p np => ?_⟩
          generalize hu : upd _ p _ = H3
          obtain ⟨e3, h3⟩ := gnew np hu
          exact q1 _ rfl _ _ e3 (i2_of h3 rfl rfl)
        rw [List.filterMap_eq_map'] at hY
        have hpos : Cs.Pos (U.map fun p => (p.1 - g, p.2 + e)) := fun p hp => by
          obtain ⟨p0, h0, rfl⟩ := List.mem_map.mp hp
          have := norm_lt hN h0
          have h1 : 0 ≤ g := hd.1
          have h2 : 0 ≤ e := hd.2
          dsimp only
          omega
        refine ⟨_, _, rfl, iL_of hD hY, ⟨hpos, by rw [List.length_map]; omega⟩, fun z H3 e3 hz => ?_⟩
        exact fin _ _ _ _ _ (e2.trans e3) hz
      | trim g e =>
        obtain ⟨b, rfl, hB, hb⟩ := nums0 hy (show [g, e][0]? = some g from rfl)
        obtain ⟨b', eb, hB', hb'⟩ := nums0 hy (show [g, e][1]? = some e from rfl)
        cases eb
        refine ⟨_, rfl, rfl, _, rfl, iteN (kne (a := "trim") (b := "fill") (by decide +kernel)) ?_⟩
        refine ⟨_, rfl, rfl, _, rfl, iteN (kne (a := "trim") (b := "drop") (by decide +kernel)) ?_⟩
        refine ⟨_, rfl, rfl, _, rfl, iteN (kne (a := "trim") (b := "shift") (by decide +kernel)) ?_⟩
        refine ⟨_, rfl, rfl, _, rfl, iteN (kne (a := "trim") (b := "widen") (by decide +kernel)) ?_⟩
        refine ⟨_, rfl, c, rfl, ⟨_, hC⟩, fun D nD => ?_⟩
        refine lcT (R := iPr K) (S := iPr K) (l := U) (fun p => if g + e < p.2 - p.1 then some (p.1 + g, p.2 - e) else none) hC hU nD (by omega) (fun z d H2 _ e2 hz Q1 N1 q1 q2 => ?_) fun H2 ys e2 hD hY => ?_
        · obtain ⟨i, j⟩ := d
          obtain ⟨t2, x1, x2, rfl, hT2, hk, hm⟩ := hz
          cases hk; cases hm
          refine ⟨t2, _, rfl, st_of hT2, rfl, _, _, rfl, _, _, rfl, rfl, rfl, ?_⟩
          refine ⟨_, rfl, _, rfl, _, _, rfl, rfl, _, rfl, b, _, rfl, ex_t e2 hB, _, _, rfl, rfl, _, rfl, iteD (fun c1 => ?_) (fun c1 => ?_)⟩
          · have c1 : g + (e + 0) < j - i := c1
            refine ⟨_, rfl, _, rfl, b, _, _, _, rfl, rfl, ex_t e2 hB, hb, _, _, rfl, rfl, _, rfl, _, rfl, b, _, _, _, rfl, rfl, ex_t e2 hB, hb', _, _, rfl, rfl, sz2, fun p np => ?_⟩
            generalize hu : upd _ p _ = H3
            obtain ⟨e3, h3⟩ := gnew np hu
            exact q1 _ (if_pos (by show g + e < j - i; omega)) _ _ e3 (i2_of h3 rfl rfl)
          · have c1 : ¬ g + (e + 0) < j - i := c1
            exact q2 (if_neg (by show ¬ g + e < j - i; omega)) _ (Evl.Ex.refl _)
        have ef : U.filterMap (fun p => if g + e < p.2 - p.1 then some (p.1 + g, p.2 - e) else none) = (Stp.trim g e).law U := by
          show _ = (U.filter fun p => decide (g + e < p.2 - p.1)).map fun p => (p.1 + g, p.2 - e)
          clear hU hN hlU hf hlw hll fin hY
          induction U with
          | nil => rfl
          | cons p U ih =>
            rw [List.filterMap_cons, List.filter_cons]
            by_cases h : g + e < p.2 - p.1
            · rw [if_pos h, if_pos (decide_eq_true h), List.map_cons, ← ih]
            · rw [if_neg h, if_neg (by simpa using h), ← ih]
        rw [ef] at hY
        refine ⟨D, _, rfl, .inl ⟨sq_of hD, fun p np => ?_⟩⟩
        generalize hu : upd _ p _ = H5
        obtain ⟨e5, h5⟩ := gnew np hu
        exact fin _ _ _ _ _ (e2.trans e5) (iT_of h5 (hY.up (kp e5)))
    · obtain ⟨v, U, y2, y3, y4, rfl, eH, hv, hN, hlU, hf⟩ := h
      have hf : U = Cs.Line.law l S := hf
      exact ⟨_, rfl, q _ _ eH (hf ▸ hv)⟩
end
end Cw
namespace Cw
open PySem PySem.Spec PyProof.Rows L2
open Evl (Ex ex_l ex_t sq_of st_of sz_of sz_lt fresh_back)
open Cs (Pr Stp Line)
section
variable {P : Program} {w : World} {K : PySem.W.Frag} {mg : Str → Option Value} {base : Heap} (T : Top w K mg)
include T
omit T in
theorem forS {l : List Bool} {g : TG} {tb : TS} {D : Ends} {σ : L2.St} {H : Hp} (Iv : List Bool → L2.St → Hp → Prop) (h0 : Iv l σ H)
    (hs : ∀ d r σ' H', Iv (d :: r) σ' H' → g (.str (spS [d])) σ' H' fun σ2 H2 => tb { D with nx := Iv r, ct := Iv r, bk := D.nx } σ2 H2) (hd : ∀ σ' H', Iv [] σ' H' → D.nx σ' H') :
    ∃ W : Nat → Nat → L2.St → Hp → Prop, (∃ m, W 0 m σ H) ∧ ∀ i m σ H, W i m σ H →
      ((Its (spS l)).stop i H ∧ D.nx σ H) ∨ ((Its (spS l)).go i H ∧ ∃ N : L2.St → Hp → Prop, (∀ σ' H', N σ' H' → ∃ m', m' < m ∧ W (i + 1) m' σ' H') ∧ ∀ x H', (Its (spS l)).yld i H x H' → g x σ H' fun σ2 H2 => tb { D with nx := N, ct := N, bk := D.nx } σ2 H2) := by
  have hz : (spS l).cps.size = l.length := by simp [spS]
  refine ⟨fun i m σ H => m = l.length - i ∧ i ≤ l.length ∧ Iv (l.drop i) σ H, ⟨l.length, by simp, Nat.zero_le _, h0⟩, ?_⟩
  rintro i m σ H ⟨rfl, hi, p⟩
  by_cases hlt : i < l.length
  · have ed : l[i]? = some l[i] := List.getElem?_eq_getElem hlt
    rw [drop_at ed] at p
    refine .inr ⟨(by show i < (spS l).cps.size; rw [hz]; exact hlt), Iv (l.drop (i + 1)), fun σ' H' p' => ⟨l.length - (i + 1), by omega, rfl, hlt, p'⟩, fun x H' y => ?_⟩
    obtain ⟨rfl, c, hc, rfl⟩ := y
    have hc2 : (if l[i] then 102 else 100) = c := by
      have h3 : (spS l).cps[i]? = some (if l[i] then 102 else 100) := by
        unfold spS
        simp [ed]
      rw [h3] at hc
      exact Option.some.inj hc
    have e : (⟨#[c]⟩ : Str) = spS [l[i]] := by rw [← hc2]; rfl
    rw [e]
    exact hs _ _ _ _ p
  · have e : i = l.length := by omega
    subst e
    rw [List.drop_length] at p
    exact .inl ⟨(by show (spS l).cps.size ≤ l.length; rw [hz]; exact Nat.le_refl _), hd σ H p⟩
omit T in
theorem sp_eq (d : Bool) : (V.str (spS [d]) = V.str "f") ↔ d = true := by
  cases d
  · exact ⟨fun h => absurd (V.str.inj h) (by decide +kernel), fun h => by cases h⟩
  · exact ⟨fun _ => rfl, fun _ => congrArg V.str (by decide +kernel)⟩
theorem ok_law_first : FnOk P w K mg base CX0 1 T.law_first.f T.law_first.fd ["_law_spelt", "_law_sign", "_law_number", "_law_most_so"] (fun vs H Q _ => ∃ (l : List Bool) (n m : Int), vs = [.str (spS l), .str "f", .int n, .int m] ∧ Gives iB (Cs.firstLaw l n m) H Q) := by
  refine T.law_first.F.ok sc_law_first (fun vs H Q E h => ?_) (fun cdv A outer s H vs Q E hr h => ?_)
  · obtain ⟨l, n, m, rfl, _⟩ := h; rfl
  · obtain ⟨l, n, m, rfl, q⟩ := h
    refine ⟨_, (pss_cons (ps_asg (pe_tup (pa_cons pe_int (pa_cons pe_int pa_nil))) (pg_tup rfl (pgs_cons (pg_name (i := 4) sc_law_first.nd rfl (Or.inl rfl)) (pgs_cons (pg_name (i := 5) sc_law_first.nd rfl (Or.inl rfl)) pgs_nil))))
  (pss_cons (ps_if (pt_cmpR op_eq (pv 2) pe_int (nomark _)) (pss_one (ps_ret pe_bl)) pss_nil)
  (pss_cons (ps_for PassesOwn.never rfl (pi_str (pv 0)) (pg_name (i := 6) sc_law_first.nd rfl (Or.inl rfl))
  (pss_cons (ps_set (i := 4) sc_law_first.nd rfl (Or.inl rfl) (pe_op op_add (pv 4) (pe_callTy call_int1 (by rfl) T.b_int (by decide +kernel) (pa_cons (pe_cmpR op_eq (pv 6) (pv 1) (nomark _)) pa_nil))))
  (pss_cons (ps_set (i := 5) sc_law_first.nd rfl (Or.inl rfl) (pe_op op_add (pv 5) (pe_callTy call_int1 (by rfl) T.b_int (by decide +kernel) (pa_cons (pe_cmpR op_ne (pv 6) (pv 1) (nomark _)) pa_nil))))
  (pss_one (ps_if (pt_cmpR op_eq (pv 4) (pv 2) (nomark _)) (pss_one (ps_ret (pe_cmpR op_le (pv 5) (pv 3) (nomark _)))) pss_nil)))))
  (pss_one (ps_ret pe_bl))))), ?_⟩
    refine ⟨sz2, fun p0 np0 => ?_⟩
    generalize hu : upd _ p0 _ = H1
    obtain ⟨e1, h1⟩ := gnew np0 hu
    refine ⟨p0, _, rfl, st_of h1, rfl, _, _, rfl, _, _, rfl, rfl, ?_⟩
    refine ⟨_, rfl, rfl, _, rfl, iteD (fun c => ?_) (fun c => ?_)⟩
    · have c : n = 0 := V.int.inj c
      exact q _ _ e1 (by show V.bl _ = _; unfold Cs.firstLaw; rw [if_pos c])
    have c : n ≠ 0 := fun z => c (congrArg V.int z)
    have q' : Gives iB (Cs.firstL n m l 0 0) H Q := by
      unfold Cs.firstLaw at q
      rw [if_neg c] at q
      exact q
    refine ⟨_, rfl, _, rfl, ?_⟩
    refine forS (l := l) (fun r σ' H' => ∃ (i j : Int) (y : Option V), σ' = [some (.str (spS l)), some (.str "f"), some (.int n), some (.int m), some (.int i), some (.int j), y] ∧ H' = H1 ∧ Cs.firstL n m r i j = Cs.firstL n m l 0 0)
      ⟨0, 0, none, rfl, rfl, rfl⟩ (fun d r σ' H' h => ?_) (fun σ' H' h => ?_)
    · obtain ⟨i, j, y, rfl, rfl, hf⟩ := h
      refine ⟨_, rfl, _, rfl, _, rfl, rfl, .inr ⟨_, rfl, ?_⟩⟩
      have ea : (if decide (V.str (spS [d]) = V.str "f") = true then (1 : Int) else 0) = if d = true then 1 else 0 := by
        by_cases h : d = true
        · rw [if_pos h, if_pos (decide_eq_true ((sp_eq d).mpr h))]
        · rw [if_neg h, if_neg (fun z => h ((sp_eq d).mp (of_decide_eq_true z)))]
      have eb : (if (!decide (V.str (spS [d]) = V.str "f")) = true then (1 : Int) else 0) = if d = true then 0 else 1 := by
        by_cases h : d = true
        · rw [if_pos h, decide_eq_true ((sp_eq d).mpr h)]; rfl
        · rw [if_neg h, decide_eq_false (fun z => h ((sp_eq d).mp z))]; rfl
      rw [ea]
      refine ⟨_, _, rfl, rfl, _, rfl, _, rfl, _, rfl, rfl, .inr ⟨_, rfl, ?_⟩⟩
      rw [eb]
      refine ⟨_, _, rfl, rfl, _, rfl, _, rfl, rfl, _, rfl, ?_⟩
      simp only [Cs.firstL] at hf
      refine iteD (fun c2 => ?_) (fun c2 => ?_)
      · have c2 := V.int.inj c2
        rw [if_pos c2] at hf
        exact ⟨_, rfl, _, rfl, _, _, rfl, rfl, q' _ _ e1 (by rw [← hf]; rfl)⟩
      · have c2 := fun z => c2 (congrArg V.int z)
        rw [if_neg c2] at hf
        exact ⟨_, _, _, rfl, rfl, hf⟩
    · obtain ⟨i, j, y, rfl, rfl, hf⟩ := h
      exact q' _ _ e1 (by rw [← hf]; rfl)
/-- a law's line whose numbers are small -/
def Tame (l : Line) : Prop := l.length ≤ 100 ∧ ∀ h ∈ Cs.heights l, -100000 ≤ h ∧ h ≤ 100000
omit T in
theorem spell_small : ∀ (hs : List Int) (hi lo : Int), hi ≤ 100000 → -100000 ≤ lo → (∀ h ∈ hs, -100000 ≤ h ∧ h ≤ 100000) → ((Cs.spell hi lo hs).length : Int) ≤ (100000 - hi) + (lo + 100000)
  | [], hi, lo, h1, h2, _ => by show (0 : Int) ≤ _; omega
  | h :: t, hi, lo, h1, h2, hb => by
    have b := hb h (List.mem_cons_self ..)
    have ih := spell_small t (Cs.pmax hi h) (Cs.pmin lo h) (by rw [Cs.pmax_eq]; omega) (by rw [Cs.pmin_eq]; omega) fun x hx => hb x (List.mem_cons_of_mem _ hx)
    show ((List.replicate (h - hi).toNat true ++ (List.replicate (lo - h).toNat false ++ Cs.spell (Cs.pmax hi h) (Cs.pmin lo h) t)).length : Int) ≤ _
    rw [List.length_append, List.length_append, List.length_replicate, List.length_replicate]
    rw [Cs.pmax_eq, Cs.pmin_eq] at ih ⊢
    omega
omit T in
theorem spelt_small {l : Line} (t : Tame l) : (Cs.spelt l).length ≤ sizeLine := by
  have h := spell_small (Cs.heights l) 0 0 (by omega) (by omega) t.2
  have h2 : (200000 : Nat) ≤ sizeLine := by decide +kernel
  have h3 : ((Cs.spelt l).length : Int) ≤ 200000 := h
  omega
omit T in
theorem dPr2 (p : Pr) : PyData.eqv (dPr p) (dPr (0, 0)) = decide (p = (0, 0)) := dPr_eqv p (0, 0)
omit T in
theorem dPr_shaped (p : Pr) : SeqAt.shaped (dPr p) = true := rfl
theorem ok_law_due : FnOk P w K mg base CX0 7 T.law_due.f T.law_due.fd ["_law_mine", "_law_its"] (sp2 (iLine K) (iLine K) iB (fun p q => Tame p ∧ Tame q) Cs.dueM) := by
  refine T.law_due.F.ok sc_law_due (fun vs H Q E h => ?_) (fun cdv A outer s H vs Q E hr h => ?_)
  · obtain ⟨v, d, w, e, rfl, _⟩ := h; rfl
  · obtain ⟨v, l, w, m, rfl, hv, hw, ⟨tl, tm⟩, q⟩ := h
    refine ⟨_, (pss_cons (ps_par (i := 2) (j := 3) rfl sc_law_due.nd rfl rfl (by decide) rfl rfl (pa_cons (pe_call (ok_law_spell T) (hr.mono (by decide)) (by rfl) T.law_spell.g T.law_spell.F.kp (b_law_spell T) .nil pass0 (pa_cons (pv 0) pa_nil)) (pa_cons (pe_call (ok_law_spell T) (hr.mono (by decide)) (by rfl) T.law_spell.g T.law_spell.F.kp (b_law_spell T) .nil pass0 (pa_cons (pv 1) pa_nil)) pa_nil)) (by rfl))
  (pss_cons (ps_if (PW.pt (pw_or (pt_cmpR op_in_sign pe_str (pv 2) (by rfl)) (pw_or1 (pt_cmpR (op_neD hr.units) (pe_call (ok_law_edges T) (hr.mono (by decide)) (by rfl) T.law_edges.g T.law_edges.F.kp (b_law_edges T) .nil pass0 (pa_cons (pv 0) pa_nil)) (pe_tup (pa_cons pe_int (pa_cons pe_int pa_nil))) (nomark _))))) (pss_one (ps_ret pe_bl)) pss_nil)
  (pss_one (ps_ret (pe_call (ok_law_first T) (hr.mono (by decide)) (by rfl) T.law_first.g T.law_first.F.kp (b_law_first T) .nil pass0 (pa_cons (pv 3) (pa_cons pe_str (pa_cons (pe_callB call_len_str (by rfl) T.b_len (by decide +kernel) (pa_cons (pv 2) pa_nil)) (pa_cons pe_int pa_nil))))))))), ?_⟩
    refine ⟨_, rfl, _, l, rfl, hv, tl, fun z H1 e1 hz => ?_⟩
    cases hz
    refine ⟨_, rfl, _, m, rfl, Mono.up (kp e1) hw, tm, fun z H2 e2 hz => ?_⟩
    cases hz
    refine ⟨_, _, rfl, ?_⟩
    refine ⟨_, rfl, 100, _, rfl, rfl, _, rfl, ?_⟩
    have hc : decide (100 ∈ (spS (Cs.spelt l)).cps.toList) = (Cs.spelt l).contains false := by
      unfold spS
      generalize Cs.spelt l = L
      rw [Bool.eq_iff_iff]
      simp [List.contains_iff_mem]
    rw [hc]
    have hs := (Cs.word_exp l)
    unfold Cs.dueM at q
    refine iteB (fun c => ?_) (fun c => ?_)
    · rw [if_pos c] at q
      exact q _ _ (e1.trans e2) rfl
    · rw [if_neg (by rw [c]; decide)] at q
      refine ⟨_, rfl, _, l, rfl, Mono.up (kp (e1.trans e2)) hv, trivial, fun z H3 e3 hz => ?_⟩
      refine ⟨sz2, fun p np => ?_⟩
      generalize hu : upd _ p _ = H4
      obtain ⟨e4, h4⟩ := gnew np hu
      refine ⟨_, _, dp_pr (Mono.up (R := iPr K) (kp e4) hz), dp_pr (p := (0, 0)) (i2_of h4 rfl rfl), dPr_shaped _, dPr_shaped _, _, rfl, ?_⟩
      rw [dPr2]
      refine iteNB (fun c2 => ?_) (fun c2 => ?_)
      · have c2 : l.starts ≠ 0 ∨ l.ends ≠ 0 := by
          by_cases h1 : l.starts = 0
          · exact .inr fun h2 => c2 (by show (l.starts, l.ends) = (0, 0); rw [h1, h2])
          · exact .inl h1
        rw [if_pos c2] at q
        exact q _ _ (((e1.trans e2).trans e3).trans e4) rfl
      · have c2 : ¬ (l.starts ≠ 0 ∨ l.ends ≠ 0) := by
          have a : l.starts = 0 := congrArg Prod.fst c2
          have b : l.ends = 0 := congrArg Prod.snd c2
          omega
        rw [if_neg c2] at q
        refine ⟨_, rfl, _, rfl, _, rfl, ?_, _, _, _, ?_, fun v H5 e5 hv5 => q v H5 ((((e1.trans e2).trans e3).trans e4).trans e5) hv5⟩
        · rw [spS_len]; exact spelt_small tl
        · rw [spS_len]; rfl
omit T in
theorem catT {H : Hp} {u v : V} {X Y : List Pr} {Q : VK} (hu : iT K (iPr K) u H X) (hv : iT K (iPr K) v H Y) (hl : X.length + Y.length ≤ 100000) (q : Gives (iT K (iPr K)) (X ++ Y) H Q) : rCatA K u v H Q := by
  obtain ⟨a, xs, rfl, hS, hA⟩ := hu
  obtain ⟨b, ys, rfl, hT, hB⟩ := hv
  refine ⟨a, b, xs, ys, rfl, rfl, hS, hT, sz_of (by rw [hA.len, hB.len]; exact hl), fun e0 => ?_, fun e0 e1 => ?_, fun e0 e1 c nc => ?_⟩
  · refine q _ _ (Evl.Ex.refl _) ⟨b, ys, rfl, hT, ?_⟩
    have := hA.len
    rw [e0] at this
    rw [List.length_eq_zero_iff.mp this.symm]
    exact hB
  · refine q _ _ (Evl.Ex.refl _) ⟨a, xs, rfl, hS, ?_⟩
    have := hB.len
    rw [e1] at this
    rw [List.length_eq_zero_iff.mp this.symm, List.append_nil]
    exact hA
  · generalize hu : upd _ c _ = H3
    obtain ⟨e3, h3⟩ := gnew nc hu
    exact q _ _ e3 (iT_of h3 ((hA.app hB).up (kp e3)))
omit T in
theorem pos_app {X Y : List Pr} (h1 : Cs.Pos X) (h2 : Cs.Pos Y) : Cs.Pos (X ++ Y) := fun p hp => by
  rcases List.mem_append.mp hp with z | z
  · exact h1 p z
  · exact h2 p z
theorem ok_law_like : FnOk P w K mg base CX0 10 T.law_like.f T.law_like.fd ["_law_mine", "_law_its", "_law_x_so", "_law_y_so"] (sp4 (iLine K) (iLine K) (iT K (iPr K)) (iT K (iPr K)) iB (fun p q X Y => p.good ∧ q.good ∧ Cs.Norm X ∧ Cs.Norm Y ∧ X.length ≤ 200 ∧ Y.length ≤ 200) fun p q X Y => decide (q.law (Cs.nf (p.law X ++ Y)) = q.law (Cs.nf (X ++ Y)))) := by
  refine T.law_like.F.ok sc_law_like (fun vs H Q E h => ?_) (fun cdv A outer s H vs Q E hr h => ?_)
  · obtain ⟨a, a', b, b', c, c', d, d', rfl, _⟩ := h; rfl
  · obtain ⟨a, p, b, r, c, X, d, Y, rfl, ha, hb, hc, hd, ⟨gp, gq, nX, nY, lX, lY⟩, q⟩ := h
    refine ⟨_, (pss_cons (ps_set (i := 4) sc_law_like.nd rfl (Or.inl rfl) (pe_call (ok_law_made T) (hr.mono (by decide)) (by rfl) T.law_made.g T.law_made.F.kp (b_law_made T) .nil pass0 (pa_cons (pv 1) (pa_cons (pe_call (ok_law_oneT T) (hr.mono (by decide)) (by rfl) T.law_one.g T.law_one.F.kp (b_law_one T) .nil pass0 (pa_cons (pe_op op_catA (pe_call (ok_law_made T) (hr.mono (by decide)) (by rfl) T.law_made.g T.law_made.F.kp (b_law_made T) .nil pass0 (pa_cons (pv 0) (pa_cons (pv 2) pa_nil))) (pv 3)) pa_nil)) pa_nil))))
  (pss_one (ps_ret (pe_cmpR (op_eqD hr.units) (pv 4) (pe_call (ok_law_made T) (hr.mono (by decide)) (by rfl) T.law_made.g T.law_made.F.kp (b_law_made T) .nil pass0 (pa_cons (pv 1) (pa_cons (pe_call (ok_law_oneT T) (hr.mono (by decide)) (by rfl) T.law_one.g T.law_one.F.kp (b_law_one T) .nil pass0 (pa_cons (pe_op op_catA (pv 2) (pv 3)) pa_nil)) pa_nil))) (nomark _))))), ?_⟩
    have lp := Cs.Line.law_ok gp nX
    have ll := Cs.Line.law_len p X
    have po1 : Cs.Pos (p.law X ++ Y) := pos_app lp.1.1 nY.1
    have po2 : Cs.Pos (X ++ Y) := pos_app nX.1 nY.1
    have l1 : (p.law X ++ Y).length ≤ 400 := by rw [List.length_append]; omega
    have l2 : (X ++ Y).length ≤ 400 := by rw [List.length_append]; omega
    have k1 := Cs.nf_len (p.law X ++ Y)
    have k2 := Cs.nf_len (X ++ Y)
    refine ⟨_, rfl, _, rfl, _, rfl, _, p, _, X, rfl, ha, hc, ⟨gp, nX, by omega⟩, fun z H1 e1 hz => ?_⟩
    refine ⟨_, rfl, catT hz (Mono.up (kp e1) hd) (by omega) fun y H2 e2 hy => ?_⟩
    refine ⟨y, _, rfl, hy, ⟨po1, by omega⟩, fun z2 H3 e3 hz2 => ?_⟩
    have e13 := (e1.trans e2).trans e3
    refine ⟨_, r, z2, _, rfl, Mono.up (kp e13) hb, hz2, ⟨gq, (Cs.nf_ok po1).1, by omega⟩, fun z4 H4 e4 hz4 => ?_⟩
    have e14 := e13.trans e4
    refine ⟨_, rfl, _, rfl, _, rfl, _, rfl, catT (Mono.up (kp e14) hc) (Mono.up (kp e14) hd) (by omega) fun y5 H5 e5 hy5 => ?_⟩
    refine ⟨y5, _, rfl, hy5, ⟨po2, by omega⟩, fun z6 H6 e6 hz6 => ?_⟩
    refine ⟨_, r, z6, _, rfl, Mono.up (kp ((e14.trans e5).trans e6)) hb, hz6, ⟨gq, (Cs.nf_ok po2).1, by omega⟩, fun z7 H7 e7 hz7 => ?_⟩
    refine ⟨_, _, dp_prs (Mono.up (kp ((e5.trans e6).trans e7)) hz4), dp_prs hz7, dPs_shaped _, dPs_shaped _, ?_⟩
    rw [dPs_eqv]
    exact q _ _ (((e14.trans e5).trans e6).trans e7) rfl
theorem ok_law_host : FnOk P w K mg base CX0 10 T.law_host.f T.law_host.fd ["_law_line_here"] (sp1 (iLine K) (iPipe K T.Pipeline.C T.Step.C) (fun l => l.good ∧ l.length ≤ 1000) id) := by
  refine T.law_host.F.ok sc_law_host (fun vs H Q E h => ?_) (fun cdv A outer s H vs Q E hr h => ?_)
  · obtain ⟨v, d, rfl, _⟩ := h; rfl
  · obtain ⟨v, l, rfl, ⟨a, xs, rfl, hS, hA⟩, ⟨hg, hl⟩, q⟩ := h
    refine ⟨_, (pss_one (ps_ret (pe_make T.Pipeline_mk (ok_Pipeline_init T) (hr.mono (by decide)) (by rfl) T.Pipeline.g (b_Pipeline_init T) .nil pass0 (pa_cons (pe_lc (own := [("_law_sort_so", 1), ("_law_nums_so", 2)]) (g := (gTup K 2 (gCons (gName 1) (gCons (gName 2) gNil)))) (tt := tYes) rfl sc_law_host.nd (pi_tup (pv 0)) (blkOk_by (own := [("_law_sort_so", 1), ("_law_nums_so", 2)]) (N := ["_law_line_here", "_law_sort_so", "_law_nums_so"]) (sc := defScope s_law_host) (by decide +kernel)) (fun _ _ _ _ _ => (pg_tup rfl (pgs_cons (pg_name (i := 1) sc_law_host.nd rfl (Or.inl rfl)) (pgs_cons (pg_name (i := 2) sc_law_host.nd rfl (Or.inl rfl)) pgs_nil)))) (fun _ _ _ _ _ => pts_nil) (fun _ _ _ _ _ => (pe_make T.Step_mk (ok_Step_init T) (hr.mono (by decide)) (by rfl) T.Step.g (b_Step_init T) .nil pass0 (pa_cons (pv 1) (pa_cons (pv 2) pa_nil))))) pa_nil)))), ?_⟩
    refine ⟨_, rfl, a, rfl, ⟨_, hS⟩, fun D nD => ?_⟩
    refine lcT (R := iSt K) (S := iStep K T.Step.C) (l := l) some hS hA nD (by omega) (fun z d H1 hd e1 hz Q1 N1 q1 q2 => ?_) fun H1 ys e1 hD hY => ?_
    · obtain ⟨t, y, rfl, hT, hy⟩ := st_at hz
      refine ⟨t, _, rfl, st_of hT, rfl, _, _, rfl, _, _, rfl, rfl, rfl, ?_⟩
      refine ⟨_, rfl, _, rfl, ?_⟩
      exact mkStep hy (hg d hd) (q1 d rfl)
    have ef : l.filterMap some = l := by simp
    rw [ef] at hY
    exact mkPipe (iL_of hD hY) fun r H3 e3 h3 => q r H3 (e1.trans e3) h3
omit T in
theorem InsRow {X : Cx} {C : Addr} {v : V} {H : Hp} {l : List Pr} (h : iRow K C v H l) : ∃ a dx fs, v = .ref a ∧ H a = some (.ins C dx fs) := row_ins h
omit T in
theorem twoR {C : Addr} {sp : Sp} {E : XK} {u v : V} {H : Hp} {X Y : List Pr} {Q : VK} (hu : iRow K C u H X) (hv : iRow K C v H Y) (h : sp [u, v] H Q E) : rTwo C sp E u v H Q := by
  obtain ⟨a, dx, fs, rfl, ha⟩ := row_ins hu
  obtain ⟨b, dy, gs, rfl, hb⟩ := row_ins hv
  exact ⟨a, b, dx, fs, dy, gs, rfl, rfl, ha, hb, h⟩
theorem ok_law_host_right : FnOk P w K mg base CX0 13 T.law_host_right.f T.law_host_right.fd ["_law_one_here", "_law_other", "_law_left", "_law_right_here", "_law_goal"] (fun vs H Q _ => ∃ (a b c d : V) (p q : Line) (X Y : List Pr) (g : Bool), vs = [a, b, c, d, .bl g] ∧ iPipe K T.Pipeline.C T.Step.C a H p ∧ iPipe K T.Pipeline.C T.Step.C b H q ∧ iRow K T.Row.C c H X ∧ iRow K T.Row.C d H Y ∧ p.good ∧ q.good ∧ Cs.Norm X ∧ Cs.Norm Y ∧ X.length ≤ 200 ∧ Y.length ≤ 200 ∧
    Gives iB (decide (decide (q.law (Cs.nf (p.law X ++ Y)) = q.law (Cs.nf (X ++ Y))) = g)) H Q) := by
  refine T.law_host_right.F.ok sc_law_host_right (fun vs H Q E h => ?_) (fun cdv A outer s H vs Q E hr h => ?_)
  · obtain ⟨a, b, c, d, p, q, X, Y, g, rfl, _⟩ := h; rfl
  · obtain ⟨a, b, c, d, p, r, X, Y, g, rfl, ha, hb, hc, hd, gp, gq, nX, nY, lX, lY, q⟩ := h
    refine ⟨_, (pss_cons (ps_set (i := 5) sc_law_host_right.nd rfl (Or.inl rfl) (StX.pe_callO (pv 1) T.pipe_co ((ok_Pipeline_call T).raw (b_Pipeline_call T) .nil) (hr.mono (by decide)) pass0 (pa_cons (pe_op (op_two (ok_Row_or T) T.row_first T.Row_or.m.at_ T.Row_or.m.fn (b_Row_or T) pass0 (hr.mono (by decide))) (StX.pe_callO (pv 0) T.pipe_co ((ok_Pipeline_call T).raw (b_Pipeline_call T) .nil) (hr.mono (by decide)) pass0 (pa_cons (pv 2) pa_nil)) (pv 3)) pa_nil)))
  (pss_one (ps_ret (pe_cmpR op_eq (pe_cmpR (op_twoEq (ok_Row_eq T) T.Row_eq.m.at_ T.Row_eq.m.fn (b_Row_eq T) pass0 (hr.mono (by decide))) (pv 5) (StX.pe_callO (pv 1) T.pipe_co ((ok_Pipeline_call T).raw (b_Pipeline_call T) .nil) (hr.mono (by decide)) pass0 (pa_cons (pe_op (op_two (ok_Row_or T) T.row_first T.Row_or.m.at_ T.Row_or.m.fn (b_Row_or T) pass0 (hr.mono (by decide))) (pv 2) (pv 3)) pa_nil)) (nomark _)) (pv 4) (nomark _))))), ?_⟩
    have lp := Cs.Line.law_ok gp nX
    have ll := Cs.Line.law_len p X
    have hh := Cs.Line.host_law gp nX
    have po1 : Cs.Pos (p.law X ++ Y) := pos_app lp.1.1 nY.1
    have po2 : Cs.Pos (X ++ Y) := pos_app nX.1 nY.1
    have l1 : (p.law X ++ Y).length ≤ 400 := by rw [List.length_append]; omega
    have l2 : (X ++ Y).length ≤ 400 := by rw [List.length_append]; omega
    have k1 := Cs.nf_len (p.law X ++ Y)
    have k2 := Cs.nf_len (X ++ Y)
    have hq1 := Cs.Line.host_law gq (Cs.nf_ok po1).1
    have hq2 := Cs.Line.host_law gq (Cs.nf_ok po2).1
    obtain ⟨a0, adx, afs, rfl, ia⟩ := pipe_ins ha
    obtain ⟨b0, bdx, bfs, rfl, ib⟩ := pipe_ins hb
    refine ⟨_, rfl, b0, rfl, _, rfl, a0, rfl, _, rfl, .inr ⟨_, _, ia⟩, _, p, _, X, rfl, ha, hc, ⟨gp, nX, by omega⟩, fun z H1 e1 hz => ?_⟩
    rw [hh] at hz
    refine ⟨_, rfl, twoR hz (Mono.up (kp e1) hd) ⟨z, _, d, Y, rfl, hz, Mono.up (kp e1) hd, ⟨lp.1.1, nY.1, by omega, by omega⟩, fun z2 H2 e2 hz2 => ?_⟩⟩
    have e12 := e1.trans e2
    refine ⟨.inr ⟨_, _, e12 _ _ ib⟩, _, r, z2, _, rfl, Mono.up (kp e12) hb, hz2, ⟨gq, (Cs.nf_ok po1).1, Nat.le_trans k1 (Nat.le_trans l1 (by decide))⟩, fun z3 H3 e3 hz3 => ?_⟩
    have e13 := e12.trans e3
    refine ⟨_, rfl, _, rfl, b0, rfl, _, rfl, _, rfl, twoR (Mono.up (kp e13) hc) (Mono.up (kp e13) hd) ⟨c, X, d, Y, rfl, Mono.up (kp e13) hc, Mono.up (kp e13) hd, ⟨nX.1, nY.1, by omega, by omega⟩, fun z4 H4 e4 hz4 => ?_⟩⟩
    have e14 := e13.trans e4
    refine ⟨.inr ⟨_, _, e14 _ _ ib⟩, _, r, z4, _, rfl, Mono.up (kp e14) hb, hz4, ⟨gq, (Cs.nf_ok po2).1, Nat.le_trans k2 (Nat.le_trans l2 (by decide))⟩, fun z5 H5 e5 hz5 => ?_⟩
    rw [hq1] at hz3
    rw [hq2] at hz5
    have hz3' := Mono.up (R := iRow K T.Row.C) (kp (e4.trans e5)) hz3
    refine twoR hz3' hz5 ⟨z3, _, z5, _, rfl, hz3', hz5, trivial, fun w H6 e6 hw => ?_⟩
    cases hw
    refine ⟨_, rfl, rfl, q _ _ ((e14.trans e5).trans e6) ?_⟩
    show V.bl _ = V.bl _
    congr 1
    exact decide_eq_decide.mpr ⟨fun h => V.bl.inj h, fun h => congrArg V.bl h⟩
end
end Cw
namespace Cw
open PySem PySem.Spec PyProof.Rows L2
open Evl (Ex ex_l ex_t sq_of st_of sz_of sz_lt fresh_back)
open Cs (Pr Stp Line)
section
variable {P : Program} {w : World} {K : PySem.W.Frag} {mg : Str → Option Value} {base : Heap} (T : Top w K mg)
include T
/-- the draws' urn at u, so many draws behind it -/
def Urn (u : Addr) (n : Nat) (H : Hp) : Prop := ∃ a b c : Int, H u = some (.lst [.int a, .int b, .int c]) ∧ 0 ≤ c ∧ c ≤ n
/-- all but the urn stands -/
def Ux (u : Addr) (H H' : Hp) : Prop := ∀ b o, b ≠ u → H b = some o → H' b = some o
omit T in
theorem Ux.refl (u : Addr) (H : Hp) : Ux u H H := fun _ _ _ h => h
omit T in
theorem Ux.trans {u : Addr} {H H1 H2 : Hp} (a : Ux u H H1) (b : Ux u H1 H2) : Ux u H H2 := fun x o hx h => b x o hx (a x o hx h)
omit T in
theorem ux {u : Addr} {H H' : Hp} (e : Ex H H') : Ux u H H' := fun b o _ h => e b o h
omit T in
theorem ux_kp {u : Addr} {n : Nat} {H H' : Hp} (hu : Urn u n H) (e : Ux u H H') : Kp H H' := fun b o h n m => by
  obtain ⟨a, c, d, h2, _⟩ := hu
  by_cases hb : b = u
  · rw [hb, h2] at h
    exact absurd (Option.some.inj h).symm (n _)
  · exact e b o hb h
omit T in
theorem ux_set {u : Addr} {H : Hp} {o : HO} : Ux u H (upd H u o) := fun b x hb h => by rw [upd_ne hb]; exact h
omit T in
theorem Urn.up {u : Addr} {n : Nat} {H H' : Hp} (h : Urn u n H) (e : Ex H H') : Urn u n H' := by
  obtain ⟨a, b, c, h1, h2⟩ := h
  exact ⟨a, b, c, e _ _ h1, h2⟩
omit T in
theorem fmod_lt {a b : Int} (hb : 0 < b) : 0 ≤ a.fmod b ∧ a.fmod b < b := ⟨Int.fmod_nonneg_of_pos a hb, Int.fmod_lt_of_pos a hb⟩
theorem ok_law_take : FnOk P w K mg base CX0 1 T.law_take.f T.law_take.fd ["_law_urn", "_law_low_so"] (fun vs H Q _ => ∃ (u : Addr) (n : Nat) (m : Int), vs = [.ref u, .int m] ∧ Urn u n H ∧ 0 < m ∧ m ≤ 1000 ∧ n ≤ 1000000 ∧ ∀ r H', 0 ≤ r → r < m → Ux u H H' → Urn u (n + 1) H' → Q (.int r) H') := by
  refine T.law_take.F.ok sc_law_take (fun vs H Q E h => ?_) (fun cdv A outer s H vs Q E hr h => ?_)
  · obtain ⟨u, n, m, rfl, _⟩ := h; rfl
  · obtain ⟨u, n, m, rfl, ⟨a, b, c, hU, h0, h1⟩, hm0, hm, hn, q⟩ := h
    refine ⟨_, (pss_cons (ps_if (pt_cmpR op_gt (pe_ix ix_list (pv 0) pe_int (fun _ _ => rfl)) pe_int (nomark _)) (pss_cons (ps_set (i := 2) sc_law_take.nd rfl (Or.inl rfl) (pe_op op_modN (pe_callTy call_int1 (by rfl) T.b_int (by decide +kernel) (pa_cons (pe_ix ix_list (pv 0) pe_int (fun _ _ => rfl)) pa_nil)) (pv 1)))
  (pss_cons (ps_asg (pe_op op_fdivN (pe_ix ix_list (pv 0) pe_int (fun _ _ => rfl)) (pv 1)) (pg_sub (pv 0) pe_int set_list))
  (pss_one (ps_ret (pv 2))))) pss_nil)
  (pss_cons (ps_asg (pe_op op_add (pe_ix ix_list (pv 0) pe_int (fun _ _ => rfl)) pe_int) (pg_sub (pv 0) pe_int set_list))
  (pss_cons (ps_set (i := 3) sc_law_take.nd rfl (Or.inl rfl) (pe_op op_modN (pe_callTy call_int1 (by rfl) T.b_int (by decide +kernel) (pa_cons (pe_op op_mul (pe_op op_add (pe_ix ix_list (pv 0) pe_int (fun _ _ => rfl)) (pe_op op_mul pe_int (pe_ix ix_list (pv 0) pe_int (fun _ _ => rfl)))) (pe_op op_add pe_int (pe_ix ix_list (pv 0) pe_int (fun _ _ => rfl)))) pa_nil)) pe_int))
  (pss_cons (ps_set (i := 4) sc_law_take.nd rfl (Or.inl rfl) (pe_op op_add (pe_op op_modN (pe_callTy call_int1 (by rfl) T.b_int (by decide +kernel) (pa_cons (pv 3) pa_nil)) pe_int) pe_int))
  (pss_cons (ps_set (i := 5) sc_law_take.nd rfl (Or.inl rfl) (pe_op op_modN (pe_callTy call_int1 (by rfl) T.b_int (by decide +kernel) (pa_cons (pe_op op_mul (pe_op op_add (pe_op op_add (pv 3) (pe_ix ix_list (pv 0) pe_int (fun _ _ => rfl))) (pe_op op_fdivN (pe_ix ix_list (pv 0) pe_int (fun _ _ => rfl)) pe_int)) (pv 4)) pa_nil)) pe_int))
  (pss_one (ps_ret (pe_op op_modN (pe_callTy call_int1 (by rfl) T.b_int (by decide +kernel) (pa_cons (pe_op op_fdivN (pe_op op_modN (pe_callTy call_int1 (by rfl) T.b_int (by decide +kernel) (pa_cons (pe_op op_add (pe_op op_mul (pv 5) pe_int) (pv 3)) pa_nil)) pe_int) pe_int) pa_nil)) (pv 1))))))))), ?_⟩
    refine ⟨_, rfl, u, _, 0, .int a, rfl, rfl, sq_of hU, rfl, _, _, rfl, rfl, _, rfl, iteD (fun ca => ?_) (fun ca => ?_)⟩
    · refine ⟨_, rfl, u, _, 0, .int a, rfl, rfl, sq_of hU, rfl, .inl ⟨_, rfl, _, rfl, _, _, rfl, rfl, by omega, ?_⟩⟩
      refine ⟨_, rfl, u, _, 0, .int a, rfl, rfl, sq_of hU, rfl, _, rfl, _, _, rfl, rfl, ⟨by omega, by omega⟩, ?_⟩
      refine ⟨_, rfl, u, _, 0, 0, rfl, rfl, hU, rfl, ?_⟩
      exact ⟨_, rfl, q _ _ (fmod_lt hm0).1 (fmod_lt hm0).2 ux_set ⟨_, b, c, upd_same, h0, by omega⟩⟩
    · refine ⟨_, rfl, u, _, 2, .int c, rfl, rfl, sq_of hU, rfl, _, _, rfl, rfl, ?_⟩
      refine ⟨_, rfl, u, _, 2, 2, rfl, rfl, hU, rfl, ?_⟩
      generalize hu : upd _ u _ = H1
      have x1 : Ux u H H1 := hu ▸ ux_set
      have hU1 : H1 u = some (.lst [.int a, .int b, .int (c + 1)]) := hu ▸ upd_same
      refine ⟨_, rfl, u, _, 1, .int b, rfl, rfl, sq_of hU1, rfl, _, rfl, u, _, 2, .int (c + 1), rfl, rfl, sq_of hU1, rfl, _, _, rfl, rfl, .inl ⟨by omega, by omega⟩, _, _, rfl, rfl, ?_⟩
      refine ⟨_, rfl, u, _, 2, .int (c + 1), rfl, rfl, sq_of hU1, rfl, _, _, rfl, rfl, _, _, rfl, rfl, .inr ⟨by omega, by omega⟩, .inl ⟨_, rfl, _, _, rfl, rfl, by omega, ?_⟩⟩
      refine ⟨_, rfl, .inl ⟨_, rfl, _, _, rfl, rfl, by omega, _, _, rfl, rfl, ?_⟩⟩
      have f1 := fmod_lt (a := ((b + 48271 * (c + 1)) * (39373 + (c + 1))).fmod 2147483647) (b := 40009) (by omega)
      refine ⟨_, rfl, _, rfl, u, _, 2, .int (c + 1), rfl, rfl, sq_of hU1, rfl, _, _, rfl, rfl, _, rfl, u, _, 1, .int b, rfl, rfl, sq_of hU1, rfl, _, _, rfl, rfl, ⟨by omega, by omega⟩, _, _, rfl, rfl, ?_⟩
      refine ⟨_, rfl, _, _, rfl, rfl, .inr ⟨by omega, by omega⟩, .inl ⟨_, rfl, _, _, rfl, rfl, by omega, ?_⟩⟩
      refine ⟨_, rfl, _, _, rfl, rfl, .inr ⟨by omega, by omega⟩, _, rfl, _, _, rfl, rfl, .inl ⟨_, rfl, _, _, rfl, rfl, by omega, _, _, rfl, rfl, ⟨by omega, by omega⟩, .inl ⟨_, rfl, _, rfl, _, _, rfl, rfl, by omega, ?_⟩⟩⟩
      exact q _ _ (fmod_lt hm0).1 (fmod_lt hm0).2 x1 ⟨a, b, c + 1, hU1, by omega, by omega⟩
end
end Cw
namespace Cw
open PySem PySem.Spec PyProof.Rows L2
open Evl (Ex ex_l ex_t sq_of st_of sz_of sz_lt fresh_back)
open Cs (Pr Stp Line)
section
variable {P : Program} {w : World} {K : PySem.W.Frag} {mg : Str → Option Value} {base : Heap} (T : Top w K mg)
include T
theorem ok_law_of : FnOk P w K mg base CX0 4 T.law_of.f T.law_of.fd ["_law_urn", "_law_some_so"] (fun vs H Q _ => ∃ (u p : Addr) (n : Nat) (xs : List V), vs = [.ref u, .ref p] ∧ Urn u n H ∧ H p = some (.lst xs) ∧ p ≠ u ∧ 0 < xs.length ∧ xs.length ≤ 1000 ∧ n ≤ 1000000 ∧ ∀ x H', x ∈ xs → Ux u H H' → Urn u (n + 1) H' → Q x H') := by
  refine T.law_of.F.ok sc_law_of (fun vs H Q E h => ?_) (fun cdv A outer s H vs Q E hr h => ?_)
  · obtain ⟨u, p, n, xs, rfl, _⟩ := h; rfl
  · obtain ⟨u, p, n, xs, rfl, hU, hp, hne, hl0, hl, hn, q⟩ := h
    refine ⟨_, (pss_one (ps_ret (pe_ix ix_list (pv 1) (pe_call (ok_law_take T) (hr.mono (by decide)) (by rfl) T.law_take.g T.law_take.F.kp (b_law_take T) .nil pass0 (pa_cons (pv 0) (pa_cons (pe_callB call_len_seq (by rfl) T.b_len (by decide +kernel) (pa_cons (pv 1) pa_nil)) pa_nil))) (fun _ _ => rfl)))), ?_⟩
    refine ⟨_, rfl, _, rfl, _, rfl, p, xs, rfl, .inl (sq_of hp), u, n, _, rfl, hU, by omega, by omega, hn, fun r H1 h0 h1 x1 hU1 => ?_⟩
    have hp1 := x1 _ _ hne hp
    have hr2 : r.toNat < xs.length := by omega
    have e : r = ((r.toNat : Nat) : Int) := by omega
    rw [e]
    refine ⟨p, xs, _, xs[r.toNat], rfl, rfl, sq_of hp1, atI_nat (List.getElem?_eq_getElem hr2), ?_⟩
    exact q _ _ (List.getElem_mem hr2) x1 hU1
/-- good, few steps, small numbers -/
def Sm (L : Nat) (B : Int) (l : Line) : Prop := l.length ≤ L ∧ ∀ s ∈ l, s.good ∧ ∀ n ∈ s.nums, -B ≤ n ∧ n ≤ B
def StO (u : Addr) (K : PySem.W.Frag) (n : Nat) (B : Int) (H : Hp) (Q : VK) : Prop := ∀ v s H', iSt K v H' s → (s.good ∧ ∀ n ∈ s.nums, -B ≤ n ∧ n ≤ B) → Ux u H H' → Urn u n H' → Q v H'
theorem ok_law_stride : FnOk P w K mg base CX0 7 T.law_stride.f T.law_stride.fd ["_law_urn", "_law_top"] (fun vs H Q _ => ∃ (u : Addr) (n : Nat) (top : Int), vs = [.ref u, .int top] ∧ Urn u n H ∧ 0 ≤ top ∧ top ≤ 100 ∧ n ≤ 100000 ∧ StO u K (n + 3) top H Q) := by
  refine T.law_stride.F.ok sc_law_stride (fun vs H Q E h => ?_) (fun cdv A outer s H vs Q E hr h => ?_)
  · obtain ⟨u, n, m, rfl, _⟩ := h; rfl
  · obtain ⟨u, n, top, rfl, hU, ht0, ht, hn, q⟩ := h
    refine ⟨_, (pss_cons (ps_set (i := 2) sc_law_stride.nd rfl (Or.inl rfl) (pe_call (ok_law_of T) (hr.mono (by decide)) (by rfl) T.law_of.g T.law_of.F.kp (b_law_of T) .nil pass0 (pa_cons (pv 0) (pa_cons (pe_lst (pa_cons pe_str (pa_cons pe_str (pa_cons pe_str (pa_cons pe_str (pa_cons pe_str (pa_cons pe_str (pa_cons pe_str pa_nil)))))))) pa_nil))))
  (pss_cons (ps_par (i := 3) (j := 4) rfl sc_law_stride.nd rfl rfl (by decide) rfl rfl (pa_cons (pe_call (ok_law_take T) (hr.mono (by decide)) (by rfl) T.law_take.g T.law_take.F.kp (b_law_take T) .nil pass0 (pa_cons (pv 0) (pa_cons (pe_op op_add (pv 1) pe_int) pa_nil))) (pa_cons (pe_call (ok_law_take T) (hr.mono (by decide)) (by rfl) T.law_take.g T.law_take.F.kp (b_law_take T) .nil pass0 (pa_cons (pv 0) (pa_cons (pe_op op_add (pv 1) pe_int) pa_nil))) pa_nil)) (by rfl))
  (pss_cons (ps_if (pt_cmpR op_eq (pv 2) pe_str (nomark _)) (pss_one (ps_ret (pe_tup (pa_cons (pv 2) (pa_cons (pe_tup (pa_cons (pe_op op_sub (pv 3) (pv 4)) pa_nil)) pa_nil))))) pss_nil)
  (pss_one (ps_ret (pe_ifExp (pt_cmpR op_in_seq (pv 2) (pe_tup (pa_cons pe_str (pa_cons pe_str pa_nil))) (by rfl)) (pe_tup (pa_cons (pv 2) (pa_cons (pe_tup (pa_cons (pv 3) pa_nil)) pa_nil))) (pe_tup (pa_cons (pv 2) (pa_cons (pe_tup (pa_cons (pv 3) (pa_cons (pv 4) pa_nil))) pa_nil))))))))), ?_⟩
    refine ⟨_, rfl, sz_of (by show 7 ≤ 100000; decide), fun p np => ?_⟩
    generalize hu : upd _ p _ = H1
    obtain ⟨e1, h1⟩ := gnew np hu
    have hpu : p ≠ u := fun z => by
      obtain ⟨_, _, _, h2, _⟩ := hU
      rw [z, h2] at np; cases np
    refine ⟨u, p, n, _, rfl, hU.up e1, h1, hpu, by decide, by decide, by omega, fun x H2 hx x2 hU2 => ?_⟩
    refine ⟨_, rfl, _, rfl, _, _, rfl, rfl, u, n + 1, _, rfl, hU2, by omega, by omega, by omega, fun i H3 i0 i1 x3 hU3 => ?_⟩
    refine ⟨_, rfl, _, rfl, _, _, rfl, rfl, u, n + 2, _, rfl, hU3, by omega, by omega, by omega, fun j H4 j0 j1 x4 hU4 => ?_⟩
    have x14 : Ux u H H4 := (((ux e1).trans x2).trans x3).trans x4
    refine ⟨_, _, rfl, ?_⟩
    -- the ends, by the kind
    have fin : ∀ (s : Stp) (H5 : Hp) (p y : Addr) (zs : List V), Ex H4 H5 → H5 p = some (.tup [.str (Stp.kind s), .ref y]) → H5 y = some (.tup (s.nums.map V.int)) → s.good → (∀ n ∈ s.nums, -top ≤ n ∧ n ≤ top) → Q (.ref p) H5 :=
      fun s H5 p y zs e5 hp hy hg hb => q _ s _ (i2_of hp rfl (iT_of hy (all2_ints _))) ⟨hg, hb⟩ (x14.trans (ux e5)) (hU4.up e5)
    have two : ∀ (k : Str) (s : Stp), Stp.kind s = k → s.nums = [i, j] → k ≠ "shift" → k ≠ "fill" → k ≠ "drop" → s.good → x = .str k → True := fun _ _ _ _ _ _ _ _ _ => trivial
    have hxk : x = .str "fill" ∨ x = .str "drop" ∨ x = .str "widen" ∨ x = .str "trim" ∨ x = .str "shift" := by
      simp only [List.mem_cons, List.not_mem_nil, or_false] at hx
      rcases hx with h | h | h | h | h | h | h
      · exact .inl h
      · exact .inl h
      · exact .inr (.inl h)
      · exact .inr (.inl h)
      · exact .inr (.inr (.inl h))
      · exact .inr (.inr (.inr (.inl h)))
      · exact .inr (.inr (.inr (.inr h)))
    rcases hxk with rfl | rfl | rfl | rfl | rfl
    · refine ⟨_, rfl, rfl, _, rfl, iteN (by decide +kernel) ?_⟩
      refine ⟨_, rfl, sz2, fun p2 np2 => ?_⟩
      generalize hu : upd _ p2 _ = H5
      obtain ⟨e5, h5⟩ := gnew np2 hu
      refine ⟨p2, _, rfl, .inr (st_of h5), rfl, rfl, _, rfl, iteT ?_⟩
      refine ⟨_, rfl, _, rfl, sz1, fun p3 np3 => ?_⟩
      generalize hu : upd _ p3 _ = H6
      obtain ⟨e6, h6⟩ := gnew np3 hu
      refine ⟨sz2, fun p4 np4 => ?_⟩
      generalize hu : upd _ p4 _ = H7
      obtain ⟨e7, h7⟩ := gnew np4 hu
      exact fin (.fill i) H7 p4 p3 [] ((e5.trans e6).trans e7) h7 (e7 _ _ h6) i0 fun n hn => by rw [List.mem_singleton.mp hn]; omega
    · refine ⟨_, rfl, rfl, _, rfl, iteN (by decide +kernel) ?_⟩
      refine ⟨_, rfl, sz2, fun p2 np2 => ?_⟩
      generalize hu : upd _ p2 _ = H5
      obtain ⟨e5, h5⟩ := gnew np2 hu
      refine ⟨p2, _, rfl, .inr (st_of h5), rfl, rfl, _, rfl, iteT ?_⟩
      refine ⟨_, rfl, _, rfl, sz1, fun p3 np3 => ?_⟩
      generalize hu : upd _ p3 _ = H6
      obtain ⟨e6, h6⟩ := gnew np3 hu
      refine ⟨sz2, fun p4 np4 => ?_⟩
      generalize hu : upd _ p4 _ = H7
      obtain ⟨e7, h7⟩ := gnew np4 hu
      exact fin (.drop i) H7 p4 p3 [] ((e5.trans e6).trans e7) h7 (e7 _ _ h6) i0 fun n hn => by rw [List.mem_singleton.mp hn]; omega
    · refine ⟨_, rfl, rfl, _, rfl, iteN (by decide +kernel) ?_⟩
      refine ⟨_, rfl, sz2, fun p2 np2 => ?_⟩
      generalize hu : upd _ p2 _ = H5
      obtain ⟨e5, h5⟩ := gnew np2 hu
      refine ⟨p2, _, rfl, .inr (st_of h5), rfl, rfl, _, rfl, iteF ?_⟩
      refine ⟨_, rfl, _, rfl, _, rfl, sz2, fun p3 np3 => ?_⟩
      generalize hu : upd _ p3 _ = H6
      obtain ⟨e6, h6⟩ := gnew np3 hu
      refine ⟨sz2, fun p4 np4 => ?_⟩
      generalize hu : upd _ p4 _ = H7
      obtain ⟨e7, h7⟩ := gnew np4 hu
      exact fin (.widen i j) H7 p4 p3 [] ((e5.trans e6).trans e7) h7 (e7 _ _ h6) ⟨i0, j0⟩ fun n hn => by
        rcases List.mem_cons.mp hn with h | h
        · rw [h]; omega
        · rw [List.mem_singleton.mp h]; omega
    · refine ⟨_, rfl, rfl, _, rfl, iteN (by decide +kernel) ?_⟩
      refine ⟨_, rfl, sz2, fun p2 np2 => ?_⟩
      generalize hu : upd _ p2 _ = H5
      obtain ⟨e5, h5⟩ := gnew np2 hu
      refine ⟨p2, _, rfl, .inr (st_of h5), rfl, rfl, _, rfl, iteF ?_⟩
      refine ⟨_, rfl, _, rfl, _, rfl, sz2, fun p3 np3 => ?_⟩
      generalize hu : upd _ p3 _ = H6
      obtain ⟨e6, h6⟩ := gnew np3 hu
      refine ⟨sz2, fun p4 np4 => ?_⟩
      generalize hu : upd _ p4 _ = H7
      obtain ⟨e7, h7⟩ := gnew np4 hu
      exact fin (.trim i j) H7 p4 p3 [] ((e5.trans e6).trans e7) h7 (e7 _ _ h6) ⟨i0, j0⟩ fun n hn => by
        rcases List.mem_cons.mp hn with h | h
        · rw [h]; omega
        · rw [List.mem_singleton.mp h]; omega
    · refine ⟨_, rfl, rfl, _, rfl, iteY rfl ?_⟩
      refine ⟨_, rfl, _, rfl, _, rfl, _, _, rfl, rfl, sz1, fun p3 np3 => ?_⟩
      generalize hu : upd _ p3 _ = H6
      obtain ⟨e6, h6⟩ := gnew np3 hu
      refine ⟨sz2, fun p4 np4 => ?_⟩
      generalize hu : upd _ p4 _ = H7
      obtain ⟨e7, h7⟩ := gnew np4 hu
      exact fin (.shift (i - j)) H7 p4 p3 [] (e6.trans e7) h7 (e7 _ _ h6) trivial fun n hn => by rw [List.mem_singleton.mp hn]; omega
end
end Cw
namespace Cw
open PySem PySem.Spec PyProof.Rows L2
open Evl (Ex ex_l ex_t sq_of st_of sz_of sz_lt fresh_back)
open Cs (Pr Stp Line)
section
variable {P : Program} {w : World} {K : PySem.W.Frag} {mg : Str → Option Value} {base : Heap} (T : Top w K mg)
include T
omit T in
theorem Urn.off {u : Addr} {n : Nat} {H : Hp} {p : Addr} {o : HO} (h : Urn u n H) (hp : p ≠ u) : Urn u n (upd H p o) := by
  obtain ⟨a, b, c, h1, h2⟩ := h
  exact ⟨a, b, c, by rw [upd_ne hp.symm]; exact h1, h2⟩
omit T in
theorem ux_off {u : Addr} {H0 H : Hp} {p : Addr} {o : HO} (x : Ux u H0 H) (hp : H0 p = none) : Ux u H0 (upd H p o) := fun b w hb h => by
  rw [upd_ne (ne_of_none h hp)]
  exact x b w hb h
omit T in
theorem ux_none {u : Addr} {H0 H : Hp} {p : Addr} (x : Ux u H0 H) (hp : H p = none) (hne : p ≠ u) : H0 p = none := by
  cases e : H0 p with
  | none => rfl
  | some o =>
    rw [x _ _ hne e] at hp
    cases hp
omit T in
theorem Urn.ne {u : Addr} {n : Nat} {H : Hp} {p : Addr} (h : Urn u n H) (hp : H p = none) : p ≠ u := fun z => by
  obtain ⟨_, _, _, h2, _⟩ := h
  rw [z, h2] at hp; cases hp
/-- a line comes back -/
def LnO (u : Addr) (K : PySem.W.Frag) (n : Nat) (L : Nat) (B : Int) (H : Hp) (Q : VK) : Prop := ∀ v l H', iLine K v H' l → Sm L B l → Ux u H H' → Urn u n H' → Q v H'
theorem ok_law_line : FnOk P w K mg base CX0 10 T.law_line.f T.law_line.fd ["_law_urn", "_law_most_so", "_law_top"] (fun vs H Q _ => ∃ (u : Addr) (n : Nat) (most : Nat) (top : Int), vs = [.ref u, .int most, .int top] ∧ Urn u n H ∧ most ≤ 10 ∧ 0 ≤ top ∧ top ≤ 100 ∧ n ≤ 90000 ∧ LnO u K (n + 31) most top H Q) := by
  refine T.law_line.F.ok sc_law_line (fun vs H Q E h => ?_) (fun cdv A outer s H vs Q E hr h => ?_)
  · obtain ⟨u, n, m, t, rfl, _⟩ := h; rfl
  · obtain ⟨u, n, most, top, rfl, hU, hm, ht0, ht, hn, q⟩ := h
    refine ⟨_, (pss_one (ps_ret (pe_callTy call_tuple_of (by rfl) T.b_tuple (by decide +kernel) (pa_cons (pe_lc (own := [("_law_turn", 3)]) (g := (gName 3)) (tt := tYes) rfl sc_law_line.nd (pi_range1 (by rfl) T.b_range (pa_cons (pe_call (ok_law_take T) (hr.mono (by decide)) (by rfl) T.law_take.g T.law_take.F.kp (b_law_take T) .nil pass0 (pa_cons (pv 0) (pa_cons (pe_op op_add (pv 1) pe_int) pa_nil))) pa_nil)) (blkOk_by (own := [("_law_turn", 3)]) (N := ["_law_urn", "_law_most_so", "_law_top", "_law_turn"]) (sc := defScope s_law_line) (by decide +kernel)) (fun _ _ _ _ _ => (pg_name (i := 3) sc_law_line.nd rfl (Or.inl rfl))) (fun _ _ _ _ _ => pts_nil) (fun _ _ _ _ _ => (pe_call (ok_law_stride T) (hr.mono (by decide)) (by rfl) T.law_stride.g T.law_stride.F.kp (b_law_stride T) .nil pass0 (pa_cons (pv 0) (pa_cons (pv 2) pa_nil))))) pa_nil)))), ?_⟩
    refine ⟨_, rfl, _, rfl, _, _, rfl, rfl, u, n, _, rfl, hU, by omega, by omega, by omega, fun r H1 r0 r1 x1 hU1 => ?_⟩
    refine ⟨r, rfl, by omega, by omega, fun D nD => ?_⟩
    have hDu := hU1.ne nD
    have h0D := ux_none x1 nD hDu
    refine lc_range (fun i H' => ∃ ys l, H' D = some (.lst ys) ∧ All2 (iSt K) H' ys l ∧ l.length = i ∧ (∀ s ∈ l, s.good ∧ ∀ n ∈ s.nums, -top ≤ n ∧ n ≤ top) ∧ Ux u H H' ∧ Urn u (n + 1 + 3 * i) H' ∧ i ≤ r.toNat)
      ⟨[], [], upd_same, trivial, rfl, fun s hs => (by cases hs), ux_off x1 h0D, hU1.off hDu, Nat.zero_le _⟩ (fun i H' hi h => ?_) (fun H' h => ?_)
    · obtain ⟨ys, l, hy, hA, hl, hg, x2, hU2, _⟩ := h
      refine ⟨rfl, _, rfl, _, rfl, u, _, top, rfl, hU2, ht0, ht, by omega, fun v s H3 hv hs x3 hU3 => ?_⟩
      have hy3 := x3 _ _ hDu hy
      refine ⟨ys, hy3, sz_lt (by rw [hA.len]; omega), _, l ++ [s], upd_same, ?_, by simp [hl], fun z hz => ?_, ux_off (x2.trans x3) h0D, ?_, hi⟩
      · have k := Kp.set (ys := ys ++ [v]) hy3
        exact ((hA.up (ux_kp hU2 x3)).up k).snoc (Mono.up (R := iSt K) k hv)
      · rcases List.mem_append.mp hz with h | h
        · exact hg z h
        · rw [List.mem_singleton.mp h]; exact hs
      · have := hU3.off (o := .lst (ys ++ [v])) hDu
        rw [show n + 1 + 3 * (i + 1) = n + 1 + 3 * i + 3 by omega]
        exact this
    · obtain ⟨ys, l, hy, hA, hl, hg, x2, hU2, _⟩ := h
      refine ⟨D, _, rfl, .inl ⟨sq_of hy, fun p np => ?_⟩⟩
      generalize hu : upd _ p _ = H3
      obtain ⟨e3, h3⟩ := gnew np hu
      refine q _ l _ (iT_of h3 (hA.up (kp e3))) ⟨by omega, hg⟩ (x2.trans (ux e3)) ?_
      obtain ⟨a, b, c, u1, u2, u3⟩ := hU2.up e3
      exact ⟨a, b, c, u1, u2, by omega⟩
omit T in
theorem Sm.good {L : Nat} {B : Int} {l : Line} (h : Sm L B l) : l.good := fun s hs => (h.2 s hs).1
omit T in
theorem Sm.mono {L L' : Nat} {B B' : Int} {l : Line} (h : Sm L B l) (h1 : L ≤ L') (h2 : B ≤ B') : Sm L' B' l := ⟨Nat.le_trans h.1 h1, fun s hs => ⟨(h.2 s hs).1, fun n hn => by have := (h.2 s hs).2 n hn; omega⟩⟩
omit T in
theorem ends_small {B : Int} : ∀ {l : Line}, (∀ s ∈ l, s.good ∧ ∀ n ∈ s.nums, -B ≤ n ∧ n ≤ B) → 0 ≤ B → -(l.length * B) ≤ l.starts ∧ l.starts ≤ l.length * B ∧ -(l.length * B) ≤ l.ends ∧ l.ends ≤ l.length * B
  | [], _, _ => by
    show -(((0 : Nat) : Int) * B) ≤ 0 ∧ 0 ≤ ((0 : Nat) : Int) * B ∧ -(((0 : Nat) : Int) * B) ≤ 0 ∧ 0 ≤ ((0 : Nat) : Int) * B
    simp
  | s :: l, h, hB => by
    have ih := ends_small (l := l) (fun z hz => h z (List.mem_cons_of_mem _ hz)) hB
    have hs := (h s (List.mem_cons_self ..)).2
    have e : (((s :: l).length : Nat) : Int) * B = (l.length : Int) * B + B := by rw [List.length_cons]; push_cast; rw [Int.add_mul]; simp
    rw [Cs.Line.starts_cons, Cs.Line.ends_cons, e]
    have hb : -B ≤ s.edges.1 ∧ s.edges.1 ≤ B ∧ -B ≤ s.edges.2 ∧ s.edges.2 ≤ B := by
      cases s with
      | fill g => exact ⟨by show -B ≤ 0; omega, by show 0 ≤ B; omega, by show -B ≤ 0; omega, by show 0 ≤ B; omega⟩
      | drop g => exact ⟨by show -B ≤ 0; omega, by show 0 ≤ B; omega, by show -B ≤ 0; omega, by show 0 ≤ B; omega⟩
      | widen a b =>
        have h1 := hs a (by simp [Cs.Stp.nums])
        have h2 := hs b (by simp [Cs.Stp.nums])
        exact ⟨by show -B ≤ -a; omega, by show -a ≤ B; omega, h2.1, h2.2⟩
      | trim a b =>
        have h1 := hs a (by simp [Cs.Stp.nums])
        have h2 := hs b (by simp [Cs.Stp.nums])
        exact ⟨h1.1, h1.2, by show -B ≤ -b; omega, by show -b ≤ B; omega⟩
      | shift n =>
        have h1 := hs n (by simp [Cs.Stp.nums])
        exact ⟨h1.1, h1.2, h1.1, h1.2⟩
    omega
omit T in
theorem catL {α : Type} {R : Rp α} [Mono R] {H : Hp} {u v : V} {X Y : List α} {Q : VK} (hu : iT K R u H X) (hv : iT K R v H Y) (hl : X.length + Y.length ≤ 100000) (q : Gives (iT K R) (X ++ Y) H Q) : rCatA K u v H Q := by
  obtain ⟨a, xs, rfl, hS, hA⟩ := hu
  obtain ⟨b, ys, rfl, hT, hB⟩ := hv
  refine ⟨a, b, xs, ys, rfl, rfl, hS, hT, sz_of (by rw [hA.len, hB.len]; exact hl), fun e0 => ?_, fun e0 e1 => ?_, fun e0 e1 c nc => ?_⟩
  · refine q _ _ (Evl.Ex.refl _) ⟨b, ys, rfl, hT, ?_⟩
    have := hA.len
    rw [e0] at this
    rw [List.length_eq_zero_iff.mp this.symm]
    exact hB
  · refine q _ _ (Evl.Ex.refl _) ⟨a, xs, rfl, hS, ?_⟩
    have := hB.len
    rw [e1] at this
    rw [List.length_eq_zero_iff.mp this.symm, List.append_nil]
    exact hA
  · generalize hu : upd _ c _ = H3
    obtain ⟨e3, h3⟩ := gnew nc hu
    exact q _ _ e3 (iT_of h3 ((hA.app hB).up (kp e3)))
theorem ok_law_still : FnOk P w K mg base CX0 13 T.law_still.f T.law_still.fd ["_law_urn", "_law_most_so", "_law_top"] (fun vs H Q _ => ∃ (u : Addr) (n : Nat), vs = [.ref u, .int 2, .int 3] ∧ Urn u n H ∧ n ≤ 90000 ∧ LnO u K (n + 31) 4 12 H Q) := by
  refine T.law_still.F.ok sc_law_still (fun vs H Q E h => ?_) (fun cdv A outer s H vs Q E hr h => ?_)
  · obtain ⟨u, n, rfl, _⟩ := h; rfl
  · obtain ⟨u, n, rfl, hU, hn, q⟩ := h
    refine ⟨_, (pss_cons (ps_set (i := 3) sc_law_still.nd rfl (Or.inl rfl) (pe_call (ok_law_line T) (hr.mono (by decide)) (by rfl) T.law_line.g T.law_line.F.kp (b_law_line T) .nil pass0 (pa_cons (pv 0) (pa_cons (pv 1) (pa_cons (pv 2) pa_nil)))))
  (pss_cons (ps_asg (pe_call (ok_law_edges T) (hr.mono (by decide)) (by rfl) T.law_edges.g T.law_edges.F.kp (b_law_edges T) .nil pass0 (pa_cons (pv 3) pa_nil)) (pg_tup rfl (pgs_cons (pg_name (i := 4) sc_law_still.nd rfl (Or.inl rfl)) (pgs_cons (pg_name (i := 5) sc_law_still.nd rfl (Or.inl rfl)) pgs_nil))))
  (pss_cons (ps_set (i := 6) sc_law_still.nd rfl (Or.inl rfl) (pe_op op_sub (pv 5) (pv 4)))
  (pss_cons (ps_set (i := 7) sc_law_still.nd rfl (Or.inl rfl) (pe_ifExp (pt_cmpR op_ge (pv 6) pe_int (nomark _)) (pe_tup (pa_cons pe_str (pa_cons (pe_tup (pa_cons pe_int (pa_cons (pv 6) pa_nil))) pa_nil))) (pe_tup (pa_cons pe_str (pa_cons (pe_tup (pa_cons pe_int (pa_cons (pe_op op_sub pe_int (pv 6)) pa_nil))) pa_nil)))))
  (pss_one (ps_ret (pe_op op_catA (pv 3) (pe_tup (pa_cons (pe_tup (pa_cons pe_str (pa_cons (pe_tup (pa_cons (pe_op op_sub pe_int (pv 4)) pa_nil)) pa_nil))) (pa_cons (pv 7) pa_nil)))))))))), ?_⟩
    refine ⟨_, rfl, _, rfl, _, rfl, u, n, 2, 3, rfl, hU, by omega, by omega, by omega, hn, fun v l H1 hv hs x1 hU1 => ?_⟩
    have hb := ends_small hs.2 (by omega)
    have h2 : (l.length : Int) ≤ 2 := by have := hs.1; omega
    have hb2 : -6 ≤ l.starts ∧ l.starts ≤ 6 ∧ -6 ≤ l.ends ∧ l.ends ≤ 6 := by omega
    refine ⟨_, rfl, _, l, rfl, hv, trivial, fun z H2 e2 ⟨p, a, b, ez, hT, ha, hb⟩ => ?_⟩
    subst ez
    cases ha; cases hb
    refine ⟨p, _, rfl, st_of hT, rfl, _, _, rfl, _, _, rfl, rfl, ?_⟩
    refine ⟨_, rfl, _, rfl, _, _, rfl, rfl, ?_⟩
    refine ⟨_, rfl, _, _, rfl, rfl, _, rfl, ?_⟩
    have fin : ∀ (s : Stp) (z : V) (H3 : Hp), Ex H2 H3 → iSt K z H3 s → s.good → (∀ n ∈ s.nums, -12 ≤ n ∧ n ≤ 12) → ∀ (H4 H5 : Hp) (c d : Addr), Ex H3 H4 → Ex H4 H5 → True := fun _ _ _ _ _ _ _ _ _ _ _ _ _ => trivial
    refine iteD (fun c => ?_) (fun c => ?_)
    · have c : (0 : Int) ≤ l.ends - l.starts := c
      refine ⟨_, rfl, sz2, fun p3 np3 => ?_⟩
      generalize hu : upd _ p3 _ = H3
      obtain ⟨e3, h3⟩ := gnew np3 hu
      refine ⟨sz2, fun p4 np4 => ?_⟩
      generalize hu : upd _ p4 _ = H4
      obtain ⟨e4, h4⟩ := gnew np4 hu
      refine ⟨_, rfl, _, rfl, _, _, rfl, rfl, sz1, fun p5 np5 => ?_⟩
      generalize hu : upd _ p5 _ = H5
      obtain ⟨e5, h5⟩ := gnew np5 hu
      refine ⟨sz2, fun p6 np6 => ?_⟩
      generalize hu : upd _ p6 _ = H6
      obtain ⟨e6, h6⟩ := gnew np6 hu
      refine ⟨_, rfl, sz2, fun p7 np7 => ?_⟩
      generalize hu : upd _ p7 _ = H7
      obtain ⟨e7, h7⟩ := gnew np7 hu
      have y1 : iSt K (.ref p6) H7 (.shift (0 - l.starts)) := i2_of (e7 _ _ h6) rfl (iT_of (e7 _ _ (e6 _ _ h5)) (all2_ints [0 - l.starts]))
      have y2 : iSt K (.ref p4) H7 (.trim 0 (l.ends - l.starts)) := i2_of (e7 _ _ (e6 _ _ (e5 _ _ h4))) rfl (iT_of (e7 _ _ (e6 _ _ (e5 _ _ (e4 _ _ h3)))) (all2_ints [0, l.ends - l.starts]))
      have e27 := ((((e2.trans e3).trans e4).trans e5).trans e6).trans e7
      have y3 : iLine K (.ref p7) H7 [.shift (0 - l.starts), .trim 0 (l.ends - l.starts)] := iT_of h7 ⟨y1, y2, trivial⟩
      refine catL (R := iSt K) (Mono.up (kp e27) hv) y3 (by have := hs.1; simp; omega) fun v8 H8 e8 h8 => ?_
      refine q v8 _ H8 h8 ⟨by have := hs.1; simp; omega, fun s hs' => ?_⟩ (x1.trans (ux (e27.trans e8))) ?_
      · rcases List.mem_append.mp hs' with h | h
        · have := hs.2 s h
          exact ⟨this.1, fun n hn => by have := this.2 n hn; omega⟩
        · rcases List.mem_cons.mp h with h | h
          · rw [h]; exact ⟨trivial, fun n hn => by rw [List.mem_singleton.mp hn]; omega⟩
          · rw [List.mem_singleton.mp h]
            refine ⟨⟨by omega, c⟩, fun n hn => ?_⟩
            rcases List.mem_cons.mp hn with h | h
            · rw [h]; omega
            · rw [List.mem_singleton.mp h]; omega
      · exact hU1.up (e27.trans e8)
    · have c : ¬ (0 : Int) ≤ l.ends - l.starts := c
      refine ⟨_, rfl, _, _, rfl, rfl, sz2, fun p3 np3 => ?_⟩
      generalize hu : upd _ p3 _ = H3
      obtain ⟨e3, h3⟩ := gnew np3 hu
      refine ⟨sz2, fun p4 np4 => ?_⟩
      generalize hu : upd _ p4 _ = H4
      obtain ⟨e4, h4⟩ := gnew np4 hu
      refine ⟨_, rfl, _, rfl, _, _, rfl, rfl, sz1, fun p5 np5 => ?_⟩
      generalize hu : upd _ p5 _ = H5
      obtain ⟨e5, h5⟩ := gnew np5 hu
      refine ⟨sz2, fun p6 np6 => ?_⟩
      generalize hu : upd _ p6 _ = H6
      obtain ⟨e6, h6⟩ := gnew np6 hu
      refine ⟨_, rfl, sz2, fun p7 np7 => ?_⟩
      generalize hu : upd _ p7 _ = H7
      obtain ⟨e7, h7⟩ := gnew np7 hu
      have y1 : iSt K (.ref p6) H7 (.shift (0 - l.starts)) := i2_of (e7 _ _ h6) rfl (iT_of (e7 _ _ (e6 _ _ h5)) (all2_ints [0 - l.starts]))
      have y2 : iSt K (.ref p4) H7 (.widen 0 (0 - (l.ends - l.starts))) := i2_of (e7 _ _ (e6 _ _ (e5 _ _ h4))) rfl (iT_of (e7 _ _ (e6 _ _ (e5 _ _ (e4 _ _ h3)))) (all2_ints [0, 0 - (l.ends - l.starts)]))
      have e27 := ((((e2.trans e3).trans e4).trans e5).trans e6).trans e7
      have y3 : iLine K (.ref p7) H7 [.shift (0 - l.starts), .widen 0 (0 - (l.ends - l.starts))] := iT_of h7 ⟨y1, y2, trivial⟩
      refine catL (R := iSt K) (Mono.up (kp e27) hv) y3 (by have := hs.1; simp; omega) fun v8 H8 e8 h8 => ?_
      refine q v8 _ H8 h8 ⟨by have := hs.1; simp; omega, fun s hs' => ?_⟩ (x1.trans (ux (e27.trans e8))) ?_
      · rcases List.mem_append.mp hs' with h | h
        · have := hs.2 s h
          exact ⟨this.1, fun n hn => by have := this.2 n hn; omega⟩
        · rcases List.mem_cons.mp h with h | h
          · rw [h]; exact ⟨trivial, fun n hn => by rw [List.mem_singleton.mp hn]; omega⟩
          · rw [List.mem_singleton.mp h]
            refine ⟨⟨by omega, by omega⟩, fun n hn => ?_⟩
            rcases List.mem_cons.mp hn with h | h
            · rw [h]; omega
            · rw [List.mem_singleton.mp h]; omega
      · exact hU1.up (e27.trans e8)
end
end Cw
namespace Cw
open PySem PySem.Spec PyProof.Rows L2
open Evl (Ex ex_l ex_t sq_of st_of sz_of sz_lt fresh_back)
open Cs (Pr Stp Line)
section
variable {P : Program} {w : World} {K : PySem.W.Frag} {mg : Str → Option Value} {base : Heap} (T : Top w K mg)
include T
/-- a row's pairs come back -/
def TrO (u : Addr) (K : PySem.W.Frag) (n : Nat) (H : Hp) (Q : VK) : Prop := ∀ v l H', iT K (iPr K) v H' l → Cs.Norm l → l.length ≤ 10 → Ux u H H' → Urn u n H' → Q v H'
theorem ok_law_track : FnOk P w K mg base CX0 4 T.law_track.f T.law_track.fd ["_law_urn", "_law_most_so", "_law_wide_so", "_law_hole_so"] (fun vs H Q _ => ∃ (u : Addr) (n : Nat) (most wide hole : Nat), vs = [.ref u, .int most, .int wide, .int hole] ∧ Urn u n H ∧ most ≤ 10 ∧ 0 < wide ∧ wide ≤ 100 ∧ 0 < hole ∧ hole ≤ 100 ∧ n ≤ 90000 ∧ TrO u K (n + 22) H Q) := by
  refine T.law_track.F.ok sc_law_track (fun vs H Q E h => ?_) (fun cdv A outer s H vs Q E hr h => ?_)
  · obtain ⟨u, n, a, b, c, rfl, _⟩ := h; rfl
  · obtain ⟨u, n, most, wide, hole, rfl, hU, hm, w0, w1, k0, k1, hn, q⟩ := h
    refine ⟨_, (pss_cons (ps_par (i := 4) (j := 5) rfl sc_law_track.nd rfl rfl (by decide) rfl rfl (pa_cons (pe_lst pa_nil) (pa_cons (pe_op op_sub (pe_call (ok_law_take T) (hr.mono (by decide)) (by rfl) T.law_take.g T.law_take.F.kp (b_law_take T) .nil pass0 (pa_cons (pv 0) (pa_cons pe_int pa_nil))) pe_int) pa_nil)) (by rfl))
  (pss_cons (ps_for PassesOwn.never rfl (pi_range1 (by rfl) T.b_range (pa_cons (pe_call (ok_law_take T) (hr.mono (by decide)) (by rfl) T.law_take.g T.law_take.F.kp (b_law_take T) .nil pass0 (pa_cons (pv 0) (pa_cons (pe_op op_add (pv 1) pe_int) pa_nil))) pa_nil)) (pg_name (i := 6) sc_law_track.nd rfl (Or.inl rfl))
  (pss_cons (ps_set (i := 7) sc_law_track.nd rfl (Or.inl rfl) (pe_op op_add (pe_op op_add (pv 5) pe_int) (pe_call (ok_law_take T) (hr.mono (by decide)) (by rfl) T.law_take.g T.law_take.F.kp (b_law_take T) .nil pass0 (pa_cons (pv 0) (pa_cons (pv 2) pa_nil)))))
  (pss_cons (ps_expr (pe_bm PySem.F.plainAttrs_list PySem.F.slot_list_append PySem.F.type_list_append mt_append (pv 4) (pa_cons (pe_tup (pa_cons (pv 5) (pa_cons (pv 7) pa_nil))) pa_nil)))
  (pss_one (ps_set (i := 5) sc_law_track.nd rfl (Or.inl rfl) (pe_op op_add (pe_op op_add (pv 7) pe_int) (pe_call (ok_law_take T) (hr.mono (by decide)) (by rfl) T.law_take.g T.law_take.F.kp (b_law_take T) .nil pass0 (pa_cons (pv 0) (pa_cons (pv 3) pa_nil)))))))))
  (pss_one (ps_ret (pe_callTy call_tuple_of (by rfl) T.b_tuple (by decide +kernel) (pa_cons (pv 4) pa_nil)))))), ?_⟩
    refine ⟨sz0, fun o no => ?_⟩
    generalize hu : upd _ o _ = H1
    obtain ⟨e1, h1⟩ := gnew no hu
    have hou := hU.ne no
    refine ⟨_, rfl, u, n, 7, rfl, hU.up e1, by omega, by omega, by omega, fun r H2 r0 r1 x2 hU2 => ?_⟩
    refine ⟨_, _, rfl, rfl, _, _, rfl, ?_⟩
    refine ⟨_, rfl, _, rfl, _, _, rfl, rfl, u, n + 1, _, rfl, hU2, by omega, by omega, by omega, fun k H3 j0 j1 x3 hU3 => ?_⟩
    have ho3 := x3 _ _ hou (x2 _ _ hou h1)
    have x03 : Ux u H H3 := ((ux e1).trans x2).trans x3
    refine ⟨k, rfl, by omega, by omega, ?_⟩
    refine for_range (lo := 0) (n := k.toNat) (fun i σ' H' => ∃ (F : List Pr) (ys : List V) (here : Int) (y6 y7 : Option V), σ' = [some (.ref u), some (.int most), some (.int wide), some (.int hole), some (.ref o), some (.int here), y6, y7] ∧ H' o = some (.lst ys) ∧ All2 (iPr K) H' ys F ∧ F.length = i ∧ Cs.Norm F ∧ (∀ p ∈ F, p.2 < here) ∧ Ux u H H' ∧ Urn u (n + 2 + 2 * i) H' ∧ i ≤ k.toNat)
      ⟨[], [], r - 3, none, none, rfl, ho3, trivial, rfl, Cs.norm_nil, fun p hp => (by cases hp), x03, hU3, Nat.zero_le _⟩ (fun i σ' H' hi h => ?_) (fun σ' H' h => ?_)
    · obtain ⟨F, ys, here, y6, y7, rfl, hy, hA, hl, hN, hb, x4, hU4, _⟩ := h
      refine ⟨_, rfl, _, _, rfl, rfl, _, rfl, _, rfl, u, _, wide, rfl, hU4, by omega, by omega, by omega, fun a H5 a0 a1 x5 hU5 => ?_⟩
      refine ⟨_, _, rfl, rfl, ?_⟩
      have hy5 := x5 _ _ hou hy
      refine ⟨_, rfl, .inl ⟨rfl, _, sq_of hy5⟩, _, rfl, _, rfl, sz2, fun p np => ?_⟩
      generalize hu : upd _ p _ = H6
      obtain ⟨e6, h6⟩ := gnew np hu
      refine ⟨o, _, _, rfl, rfl, e6 _ _ hy5, sz_lt (by rw [hA.len]; omega), ?_⟩
      generalize hu : upd _ o _ = H7
      have hU7 : Urn u (n + 2 + 2 * i + 1) H7 := hu ▸ (hU5.up e6).off hou
      have x7 : Ux u H H7 := hu ▸ ux_off ((x4.trans x5).trans (ux e6)) no
      have k7 : Kp H6 H7 := hu ▸ Kp.set (e6 _ _ hy5)
      have h7 : H7 o = some (.lst (ys ++ [.ref p])) := hu ▸ upd_same
      have hA7 := (((hA.up (ux_kp hU4 x5)).up (kp e6)).up k7).snoc (Mono.up (R := iPr K) k7 (i2_of (d := here) (e := here + 1 + a) h6 rfl rfl))
      refine ⟨_, rfl, _, _, rfl, rfl, _, rfl, _, rfl, u, _, hole, rfl, hU7, by omega, by omega, by omega, fun b H8 b0 b1 x8 hU8 => ?_⟩
      refine ⟨_, _, rfl, rfl, ?_⟩
      refine ⟨F ++ [(here, here + 1 + a)], _, here + 1 + a + 1 + b, _, _, rfl, x8 _ _ hou h7, hA7.up (ux_kp hU7 x8), by simp [hl], Cs.norm_snoc.mpr ⟨hN, by dsimp only; omega, hb⟩, fun p hp => ?_, x7.trans x8, ?_, hi⟩
      · rcases List.mem_append.mp hp with h | h
        · have := hb p h; omega
        · rw [List.mem_singleton.mp h]; dsimp only; omega
      · rw [show n + 2 + 2 * (i + 1) = n + 2 + 2 * i + 1 + 1 by omega]
        exact hU8
    · obtain ⟨F, ys, here, y6, y7, rfl, hy, hA, hl, hN, hb, x4, hU4, _⟩ := h
      refine ⟨_, rfl, o, _, rfl, .inl ⟨sq_of hy, fun p np => ?_⟩⟩
      generalize hu : upd _ p _ = H6
      obtain ⟨e6, h6⟩ := gnew np hu
      refine q _ F _ (iT_of h6 (hA.up (kp e6))) hN (by omega) (x4.trans (ux e6)) ?_
      obtain ⟨a, b, c, u1, u2, u3⟩ := hU4.up e6
      exact ⟨a, b, c, u1, u2, by omega⟩
theorem ok_law_soft : FnOk P w K mg base CX0 16 T.law_soft.f T.law_soft.fd ["_law_urn"] (fun vs H Q _ => ∃ (u : Addr) (n : Nat), vs = [.ref u] ∧ Urn u n H ∧ n ≤ 80000 ∧ LnO u K (n + 33) 4 12 H Q) := by
  refine T.law_soft.F.ok sc_law_soft (fun vs H Q E h => ?_) (fun cdv A outer s H vs Q E hr h => ?_)
  · obtain ⟨u, n, rfl, _⟩ := h; rfl
  · obtain ⟨u, n, rfl, hU, hn, q⟩ := h
    refine ⟨_, (pss_cons (ps_par (i := 1) (j := 2) rfl sc_law_soft.nd rfl rfl (by decide) rfl rfl (pa_cons (pe_call (ok_law_take T) (hr.mono (by decide)) (by rfl) T.law_take.g T.law_take.F.kp (b_law_take T) .nil pass0 (pa_cons (pv 0) (pa_cons pe_int pa_nil))) (pa_cons (pe_call (ok_law_take T) (hr.mono (by decide)) (by rfl) T.law_take.g T.law_take.F.kp (b_law_take T) .nil pass0 (pa_cons (pv 0) (pa_cons pe_int pa_nil))) pa_nil)) (by rfl))
  (pss_cons (ps_if (pt_cmpR op_eq (pv 1) pe_int (nomark _)) (pss_one (ps_ret (pe_tup (pa_cons (pe_tup (pa_cons pe_str (pa_cons (pe_tup (pa_cons (pv 2) pa_nil)) pa_nil))) pa_nil)))) pss_nil)
  (pss_cons (ps_if (pt_cmpR op_eq (pv 1) pe_int (nomark _)) (pss_one (ps_ret (pe_tup (pa_cons (pe_tup (pa_cons pe_str (pa_cons (pe_tup (pa_cons (pv 2) (pa_cons pe_int pa_nil))) pa_nil))) (pa_cons (pe_tup (pa_cons pe_str (pa_cons (pe_tup (pa_cons pe_int pa_nil)) pa_nil))) (pa_cons (pe_tup (pa_cons pe_str (pa_cons (pe_tup (pa_cons (pv 2) (pa_cons pe_int pa_nil))) pa_nil))) pa_nil)))))) pss_nil)
  (pss_one (ps_ret (pe_ifExp (pt_cmpR op_eq (pv 1) pe_int (nomark _)) (pe_call (ok_law_still T) (hr.mono (by decide)) (by rfl) T.law_still.g T.law_still.F.kp (b_law_still T) .nil pass0 (pa_cons (pv 0) (pa_cons pe_int (pa_cons pe_int pa_nil)))) (pe_call (ok_law_line T) (hr.mono (by decide)) (by rfl) T.law_line.g T.law_line.F.kp (b_law_line T) .nil pass0 (pa_cons (pv 0) (pa_cons pe_int (pa_cons pe_int pa_nil)))))))))), ?_⟩
    refine ⟨_, rfl, u, n, 4, rfl, hU, by omega, by omega, by omega, fun r H1 r0 r1 x1 hU1 => ?_⟩
    refine ⟨_, rfl, u, n + 1, 5, rfl, hU1, by omega, by omega, by omega, fun g H2 g0 g1 x2 hU2 => ?_⟩
    have x02 := x1.trans x2
    have up : ∀ {H3 : Hp} {m : Nat}, Urn u m H3 → m ≤ n + 33 → Urn u (n + 33) H3 := fun ⟨a, b, c, u1, u2, u3⟩ hm => ⟨a, b, c, u1, u2, by omega⟩
    refine ⟨_, _, rfl, ?_⟩
    refine ⟨_, rfl, rfl, _, rfl, iteD (fun c => ?_) (fun c => ?_)⟩
    · refine ⟨_, rfl, sz1, fun p3 np3 => ?_⟩
      generalize hu : upd _ p3 _ = H3
      obtain ⟨e3, h3⟩ := gnew np3 hu
      refine ⟨sz2, fun p4 np4 => ?_⟩
      generalize hu : upd _ p4 _ = H4
      obtain ⟨e4, h4⟩ := gnew np4 hu
      refine ⟨sz1, fun p5 np5 => ?_⟩
      generalize hu : upd _ p5 _ = H5
      obtain ⟨e5, h5⟩ := gnew np5 hu
      have y1 : iSt K (.ref p4) H5 (.fill g) := i2_of (e5 _ _ h4) rfl (iT_of (e5 _ _ (e4 _ _ h3)) (all2_ints [g]))
      refine q _ [.fill g] _ (iT_of h5 ⟨y1, trivial⟩) ⟨by simp, fun s hs => ?_⟩ (x02.trans (ux ((e3.trans e4).trans e5))) (up (hU2.up ((e3.trans e4).trans e5)) (by omega))
      rw [List.mem_singleton.mp hs]
      exact ⟨g0, fun n hn => by rw [List.mem_singleton.mp hn]; omega⟩
    · refine ⟨_, rfl, rfl, _, rfl, iteD (fun c => ?_) (fun c => ?_)⟩
      · refine ⟨_, rfl, sz2, fun p3 np3 => ?_⟩
        generalize hu : upd _ p3 _ = H3
        obtain ⟨e3, h3⟩ := gnew np3 hu
        refine ⟨sz2, fun p4 np4 => ?_⟩
        generalize hu : upd _ p4 _ = H4
        obtain ⟨e4, h4⟩ := gnew np4 hu
        refine ⟨sz1, fun p5 np5 => ?_⟩
        generalize hu : upd _ p5 _ = H5
        obtain ⟨e5, h5⟩ := gnew np5 hu
        refine ⟨sz2, fun p6 np6 => ?_⟩
        generalize hu : upd _ p6 _ = H6
        obtain ⟨e6, h6⟩ := gnew np6 hu
        refine ⟨_, rfl, sz2, fun p7 np7 => ?_⟩
        generalize hu : upd _ p7 _ = H7
        obtain ⟨e7, h7⟩ := gnew np7 hu
        refine ⟨sz2, fun p8 np8 => ?_⟩
        generalize hu : upd _ p8 _ = H8
        obtain ⟨e8, h8⟩ := gnew np8 hu
        refine ⟨sz3, fun p9 np9 => ?_⟩
        generalize hu : upd _ p9 _ = H9
        obtain ⟨e9, h9⟩ := gnew np9 hu
        have y1 : iSt K (.ref p4) H4 (.widen g 1) := i2_of h4 rfl (iT_of (e4 _ _ h3) (all2_ints [g, 1]))
        have y2 : iSt K (.ref p6) H6 (.fill 2) := i2_of h6 rfl (iT_of (e6 _ _ h5) (all2_ints [2]))
        have y3 : iSt K (.ref p8) H8 (.trim g 1) := i2_of h8 rfl (iT_of (e8 _ _ h7) (all2_ints [g, 1]))
        have e29 := ((((((e3.trans e4).trans e5).trans e6).trans e7).trans e8).trans e9)
        refine q _ [.widen g 1, .fill 2, .trim g 1] _ (iT_of h9 ⟨Mono.up (kp ((((e5.trans e6).trans e7).trans e8).trans e9)) y1, Mono.up (kp ((e7.trans e8).trans e9)) y2, Mono.up (kp e9) y3, trivial⟩) ⟨by simp, fun s hs => ?_⟩ (x02.trans (ux e29)) (up (hU2.up e29) (by omega))
        rcases List.mem_cons.mp hs with h | h
        · rw [h]
          refine ⟨⟨g0, by omega⟩, fun n hn => ?_⟩
          rcases List.mem_cons.mp hn with h | h
          · rw [h]; omega
          · rw [List.mem_singleton.mp h]; omega
        · rcases List.mem_cons.mp h with h | h
          · rw [h]
            exact ⟨by show (0 : Int) ≤ 2; omega, fun n hn => by rw [List.mem_singleton.mp hn]; omega⟩
          · rw [List.mem_singleton.mp h]
            refine ⟨⟨g0, by omega⟩, fun n hn => ?_⟩
            rcases List.mem_cons.mp hn with h | h
            · rw [h]; omega
            · rw [List.mem_singleton.mp h]; omega
      · refine ⟨_, rfl, rfl, _, rfl, iteD (fun c => ?_) (fun c => ?_)⟩
        · refine ⟨_, rfl, u, n + 2, rfl, hU2, by omega, fun v l H3 hv hs x3 hU3 => ?_⟩
          exact q v l H3 hv hs (x02.trans x3) (up hU3 (by omega))
        · refine ⟨_, rfl, u, n + 2, 2, 2, rfl, hU2, by omega, by omega, by omega, by omega, fun v l H3 hv hs x3 hU3 => ?_⟩
          exact q v l H3 hv (hs.mono (by decide) (by decide)) (x02.trans x3) (up hU3 (by omega))
end
end Cw
namespace Cw
open PySem PySem.W PySem.Calls PyProof.Rows
open Builtin.ObjectAttr (storeInDict)
abbrev lkTail : List Value := [.type "LookupError", .type "Exception", .type "BaseException", .type "object"]
/-- what the top leaves of NoLetter, at C, and of its __init__, at fI -/
structure NlTxt (prog : Program) (K : Frag) (mg : Str → Option Value) (C fI : Addr) : Prop where
  gC : mg "NoLetter" = some (.ref C)
  cls : ∃ nm q N bs sn sub ab col dd k0 k1 k2 k3 k5, K.lookup C = some (excClassObj nm q C N bs lkTail true sn sub ab col dd k0 k1 k2 k3 k5 "LookupError.__new__")
  sa : findIn K (.ref C) "__setattr__" = some (some (.builtin "object.__setattr__"))
  noN : findIn K (.ref C) "asked" = some none
  iC : findIn K (.ref C) "__init__" = some (some (.ref fI))
  tC : typeIn K (.ref fI) = some (.type "function")
  kC : keepIn K (.ref C) = true
  exC : subIn K (.ref C) (.type "BaseException") = some true
  lkC : subIn K (.ref C) (.type "LookupError") = some true
  tyC : typeIn K (.ref C) = some (.type "type")
  thr : nsIn K cStatics "thirdparty.any" = some none
  sup : mg "super" = none
  te : exmOne K (.ref C) (.ref C) = some true
  fn : ∃ (oc : Value) (od : Option Addr) (doc pm : Value) (an : Option Addr) (cda : Addr) (ct : Value) (osl : Array (Option Value)) (cc : Addr) (cl ccl : Value) (cld cdd : Option Addr) (csl ccs : Array (Option Value)) (vs : Array Value) (tf : Tok),
    K.lookup fI = some ⟨oc, od, .func (ksFn "__init__" "NoLetter.__init__" (L2.defArgs s_NoLetter_init) (L2.defBody s_NoLetter_init) (L2.defScope s_NoLetter_init) .none .none doc pm an (.ref cda) ct cc), osl⟩ ∧ codeIn K (.ref cda) "NoLetter.__init__" = true ∧
    K.lookup cc = some ⟨cl, cld, .cell (some (.ref C)), csl⟩ ∧ K.lookup cda = some ⟨ccl, cdd, .fields vs, ccs⟩ ∧ vs[2]? = some (.str prog.main.file tf)
  top : (prog.main.scope.names.lookup ("super" : Str)).isSome = false
theorem nl_one (v : Value) : [v].length ≤ sizeLine := by rw [sizeLine_eq]; exact Nat.le_of_ble_eq_true rfl
section
variable {prog : Program} {w : World} {A : Around} {E : Value → Shared → Prop} {R : Result → Shared → Prop} {s : Shared} {K : Frag} {mg : Str → Option Value} {C fI : Addr}
/-- the call of the bound built-in __init__: the args are laid anew -/
theorem nl_bound (T : NlTxt prog K mg C fI) {u x t0 : Addr} {v : Value} {Q : Value → Shared → Prop} (X : K.In s.heap) (hu : s.heap.get? u = some (kxs_mw "LookupError.__init__" x)) (hx : s.heap.get? x = some (HandSPX.excO C t0))
    (hq : ∀ h' t1, (∀ b o, b ≠ x → s.heap.get? b = some o → h'.get? b = some o) → h'.get? x = some (HandSPX.excO C t1) → Q .none { s with heap := h' }) : wpAny (model prog w) A (call (.ref u) [v]) Q E s := by
  obtain ⟨nm, q, N, bs, sn, sub, ab, col, dd, k0, k1, k2, k3, k5, hC⟩ := T.cls
  have hC := X _ _ hC
  obtain ⟨hp, g, d, tk, os⟩ := s
  refine wpAny_call (codeAny_of_tree ?_)
  show wpAny _ A.in1 (callAny (.ref u) ⟨[v], []⟩) _ _ _
  simp only [callAny]
  refine wpAny_bind (wpAny_load hu ?_)
  have m1 : (Value.type "method-wrapper" == Value.type "method" || Value.type "method-wrapper" == Value.type "builtin_function_or_method" || Value.type "method-wrapper" == Value.type "method-wrapper") = true := by decide
  simp only [kxs_mw, m1, if_true]
  refine KFB.if_so (by decide) ?_
  refine wpAny_bind (check_bound_init F.excBase_LookupError.toExcCallFacts hC hx rfl ?_)
  refine wpAny_bind (wpAny_pure (wpAny_pure ?_))
  refine ⟨plainId_quiet F.excBase_LookupError.init.plain _, codeAny_builtin F.excBase_LookupError.initEntry ?_⟩
  exact exc_init_tree (cls := .ref C) (t0 := t0) (dv := none) (c2 := .none) (c3 := .none) (b4 := .bool false) hx (nl_one v) fun h' kp hx' _ => hq h' _ kp hx'
/-- self.asked = v, the first store into it -/
theorem nl_store (T : NlTxt prog K mg C fI) {x t0 : Addr} {v : Value} {Q : Unit → Shared → Prop} (X : K.In s.heap) (hx : s.heap.get? x = some (HandSPX.excO C t0))
    (hq : ∀ h' tk dx, (∀ b o, b ≠ x → s.heap.get? b = some o → h'.get? b = some o) → s.heap.objs.size ≤ dx → dx ≠ x → h'.get? x = some { cls := .ref C, dict := some dx, data := .fields #[.ref t0, .none, .none, .none, .bool false, .none] } →
      h'.Ns1 dx (fun y => if y = "asked" then some v else none) → Q () { s with heap := h', toks := tk }) : wpAny (model prog w) A (setAttr (.ref x) "asked" v) Q E s := by
  obtain ⟨nm, q, N, bs, sn, sub, ab, col, dd, k0, k1, k2, k3, k5, hC⟩ := T.cls
  have hcl : clsIn K C = some { name := nm, bases := bs, mro := .ref C :: lkTail, ns := N, qualname := q, hasDict := true, slotNames := sn, subclasses := sub, abstract := ab, collection := col, hasDel := false } := by unfold clsIn; rw [hC] <;> rfl
  have hov : excOver K C lkTail = true := by
    unfold excOver
    rw [hcl]
    show ((C == C) && excTail lkTail lkTail) = true
    rw [beq_self_eq_true]
    decide
  have htk : takerIn K C "asked" = some none := by
    unfold takerIn
    rw [T.noN]
    rfl
  have hxs : x ≠ s.heap.objs.size := Nat.ne_of_lt (Heap.lt_size hx)
  refine set_plain (od := none) X ⟨hx, rfl, rfl, trivial⟩ T.sa ?_
  refine osa_openX (od := none) F.store_LookupError X ⟨hx, rfl, rfl, trivial⟩ hov htk fun b => ?_
  refine wpAny_bind (wpAny_pure (wpAny_bind (instanceDict_exc (t := t0) (c2 := .none) hx (looks_clsIn X hcl) rfl ?_)))
  show wpAny _ _ (storeInDict s.heap.objs.size _ _ v) _ _ _
  have hx1 : (s.heap.push (dictOf [] 0)).get? x = some (HandSPX.excO C t0) := Heap.get?_push_of_some _ hx
  refine HandSPX.store_in_new ?_ fun h' tk' hn' hs => ?_
  · exact ⟨_, #[], _, (Heap.get?_update_ne _ _ _ _ hxs.symm).trans (Heap.get?_push_at rfl rfl), rfl, fun e he => absurd he (by simp), fun _ => rfl⟩
  · refine hq h' tk' s.heap.objs.size (fun b o hb ho => ?_) (Nat.le_refl _) hxs.symm ?_ hn'
    · exact (hs.2 b (Nat.ne_of_lt (Heap.lt_size ho))).trans ((Heap.get?_update_ne _ _ _ _ hb).trans (Heap.get?_push_of_some _ ho))
    · exact (hs.2 x hxs).trans (Heap.get?_update_self _ hx1 rfl)
/-- what __init__ leaves of a fresh one at x -/
structure NlEnd (h h' : Heap) (x C dx t1 : Addr) (v : Value) : Prop where
  keep : ∀ b o, b ≠ x → h.get? b = some o → h'.get? b = some o
  obj : h'.get? x = some { cls := .ref C, dict := some dx, data := .fields #[.ref t1, .none, .none, .none, .bool false, .none] }
  dbig : h.objs.size ≤ dx
  dne : dx ≠ x
  ns : h'.Ns1 dx (fun y => if y = "asked" then some v else none)
theorem nl_init (T : NlTxt prog K mg C fI) {mb : Str → Option Value} {x t0 : Addr} {v : Value} (X : K.In s.heap) (G : s.heap.Ns mainGlobals mg) (Bl : s.heap.Ns builtinsNs mb) (hb : mb "super" = some (.type "super")) (hlim : s.heap.NoLimit) (hx : s.heap.get? x = some (HandSPX.excO C t0)) (hnx : K.lookup x = none)
    (hroom : A.depth < recursionLimit) (hq : ∀ h' tk dx t1, NlEnd s.heap h' x C dx t1 v → R (.ok (.ret .none)) { s with heap := h', toks := tk }) :
    codeAny (model prog w) A (.call (.ref fI) ⟨[.ref x, v], []⟩) R s := by
  obtain ⟨nm, q, N, bs, sn, sub, ab, col, dd, k0, k1, k2, k3, k5, hC⟩ := T.cls
  have hcl : clsIn K C = some { name := nm, bases := bs, mro := .ref C :: lkTail, ns := N, qualname := q, hasDict := true, slotNames := sn, subclasses := sub, abstract := ab, collection := col, hasDel := false } := by unfold clsIn; rw [hC] <;> rfl
  obtain ⟨oc, od, doc, pm, an, cda, ct, osl, cc, cl, ccl, cld, cdd, csl, ccs, vs, tf, ho, hcd, hcc, hcda, hvs⟩ := T.fn
  refine ks_codeAny_call_defAt (fd := ksFn "__init__" "NoLetter.__init__" (L2.defArgs s_NoLetter_init) (L2.defBody s_NoLetter_init) (L2.defScope s_NoLetter_init) .none .none doc pm an (.ref cda) ct cc) (body := L2.defBody s_NoLetter_init)
    (binds := [("self", .ref x), ("asked", v)]) hroom (X _ _ ho) rfl hlim (codeRec_of X hcd) rfl (BindsTo.of_eq rfl) (show ∀ x ∈ (L2.defScope s_NoLetter_init).names, x.2 ≠ .cell by decide +kernel) (fun y hy => ?_) (fun h₁ hns k => ?_) rfl rfl rfl
  · rcases List.mem_cons.mp hy with rfl | hy
    · rfl
    · rw [List.mem_singleton.mp hy]
      rfl
  show _root_.PySem.wpAt _ _ (.func (L2.defBody s_NoLetter_init) (ksEnv "NoLetter.__init__" (L2.defScope s_NoLetter_init) s.heap.objs.size fI (.ref cda) cc)) (execs (_ :: _) (ksEnv "NoLetter.__init__" (L2.defScope s_NoLetter_init) s.heap.objs.size fI (.ref cda) cc)) _ _ _
  have X1 : K.In h₁ := X.keeps k
  have hx1 := k _ _ hx
  have hC1 := X1 _ _ hC
  refine ks_wpAt_execs_cons (ks_wpAt_Expr_any (ks_wpAt_MethodCall ?_))
  have hD : ∃ oD, h₁.get? C = some oD ∧ ∃ cd, oD.data = .cls cd := ⟨_, hC1, _, rfl⟩
  refine ks_wpAt_super_base (fd := ksFn "__init__" "NoLetter.__init__" (L2.defArgs s_NoLetter_init) (L2.defBody s_NoLetter_init) (L2.defScope s_NoLetter_init) .none .none doc pm an (.ref cda) ct cc) rfl rfl (by decide) rfl (X1 _ _ ho) rfl rfl rfl (X1 _ _ hcda) rfl hvs (beq_self_eq_true _) T.top ?_
  refine ks_loadName_global rfl rfl (loadGlobal_builtin (G.keeps k) T.sup (Bl.keeps k) hb ⟨rfl, ?_⟩)
  refine wpAny_loadName_free rfl rfl rfl ⟨_, X1 _ _ hcc, rfl⟩ ?_
  refine wpAny_loadName_local rfl rfl hns (show _ = some (.ref x) from rfl) ?_
  refine ks_wpAny_isType_cls hC1 rfl ⟨rfl, ?_⟩
  refine ks_wpAny_call_super hC1 rfl hx1 rfl (fun c z => nomatch z) ?_ (fun h2 hso k2 => ?_)
  · exact looks_mroIn X1 (by unfold mroIn; rw [hcl]; simp)
  have X2 : K.In h2 := X1.keeps k2
  have hx2 := k2 _ _ hx1
  have I2 : InstAt h2 x (HandSPX.excO C t0) C none := ⟨hx2, rfl, rfl, trivial⟩
  refine kxs_getMethod kxs_LookupError (l₀ := .ref C :: lkTail) (l := lkTail) hso (looks_opaque X2 T.thr) ?_ ?_ X2 ?_ (I2.type.andThen (looks_subIn X2 T.lkC)) (ks_ne X2 I2 hcl) (by decide) ?_
  · exact (looks_clsIn X2 hcl).andThen .now
  · simp [List.dropWhile_cons]
  · kernel_rfl
  have h3 : ∀ b o, h2.get? b = some o → (h2.push (kxs_mw "LookupError.__init__" x)).get? b = some o := fun b o e => Heap.get?_push_of_some _ e
  have X3 := X2.keeps h3
  have hu3 : (h2.push (kxs_mw "LookupError.__init__" x)).get? h2.objs.size = some (kxs_mw "LookupError.__init__" x) := Heap.get?_push_at rfl rfl
  have hxL : s.heap.objs.size ≠ x := Nat.ne_of_gt (Heap.lt_size hx)
  have kk : ∀ b o, s.heap.get? b = some o → (h2.push (kxs_mw "LookupError.__init__" x)).get? b = some o := fun b o e => h3 b o (k2 b o (k b o e))
  obtain ⟨oL, es, ep, hL, hr⟩ := hns
  have hns3 : (h2.push (kxs_mw "LookupError.__init__" x)).Ns s.heap.objs.size (fun y => ([("self", Value.ref x), ("asked", v)] : List (Str × Value)).reverse.lookup y) := ⟨oL, es, ep, h3 _ _ (k2 _ _ hL), hr⟩
  show wpAny _ _ (callWith _ _ _ ((false, eval _ _) :: []) []) _ _ _
  refine kxs_callWith (i := "LookupError.__init__") (x := x) rfl (evalArgs_plain (spliced_cons ?_))
  refine wpAny_Name (wpAny_loadName_local rfl rfl hns3 (show _ = some v from rfl) ?_) (by decide)
  refine spliced_nil ⟨hu3, ?_⟩
  refine nl_bound T X3 hu3 (h3 _ _ hx2) fun h4 t1 k4 hx4 => ?_
  have ns4 : h4.Ns s.heap.objs.size (fun y => ([("self", Value.ref x), ("asked", v)] : List (Str × Value)).reverse.lookup y) := ⟨oL, es, ep, k4 _ _ hxL (h3 _ _ (k2 _ _ hL)), hr⟩
  have kq : ∀ b o, b ≠ x → s.heap.get? b = some o → h4.get? b = some o := fun b o hb e => k4 b o hb (kk b o e)
  have z4 : s.heap.objs.size < h4.objs.size := ns4.lt
  refine wpAt_of_wpAny (wpAny_execs_cons (plainObj_wpAny_Assign_Attribute ?_))
  refine wpAny_Name (wpAny_loadName_local rfl rfl ns4 (show _ = some v from rfl) ?_) (by decide)
  refine wpAny_Name (wpAny_loadName_local rfl rfl ns4 (show _ = some (.ref x) from rfl) ?_) (by decide)
  refine nl_store T (t0 := t1) (K := K) ?_ hx4 fun h5 tk5 dx k5 dn dne hx5 hn5 => ?_
  · intro b o e
    exact kq b o (fun z => by rw [z, hnx] at e; cases e) (X _ _ e)
  show wpAny _ _ (execs [] _) _ _ _
  exact wpAny_execs_nil (hq h5 tk5 dx t1 ⟨fun b o hb e => k5 b o hb (kq b o hb e), hx5, Nat.le_of_lt (Nat.lt_of_lt_of_le z4 dn), dne, hn5⟩)
/-- a made one -/
structure NlMade (h h' : Heap) (e C d : Addr) (v : Value) : Prop where
  keep : ∀ b o, h.get? b = some o → h'.get? b = some o
  new : h.objs.size ≤ e
  obj : ∃ oe vs, h'.get? e = some oe ∧ oe.cls = .ref C ∧ oe.dict = some d ∧ oe.data = .fields vs ∧ vs[1]? = some .none
  dbig : h.objs.size ≤ d
  dne : d ≠ e
  ns : h'.Ns1 d (fun y => if y = "asked" then some v else none)
theorem nl_made (T : NlTxt prog K mg C fI) {mb : Str → Option Value} {v : Value} (X : K.In s.heap) (G : s.heap.Ns mainGlobals mg) (Bl : s.heap.Ns builtinsNs mb) (hb : mb "super" = some (.type "super")) (hlim : s.heap.NoLimit) (hroom : A.depth + 1 < recursionLimit)
    (hq : ∀ h' tk e d, NlMade s.heap h' e C d v → R (.ok (.ret (.ref e))) { s with heap := h', toks := tk }) : codeAny (model prog w) A (.call (.ref C) ⟨[v], []⟩) R s := by
  obtain ⟨nm, q, N, bs, sn, sub, ab, col, dd, k0, k1, k2, k3, k5, hC⟩ := T.cls
  obtain ⟨hp, g, dr, tk, os⟩ := s
  have k : ∀ b o, hp.get? b = some o → ((hp.push (kdv_tup [v])).push (HandSPX.excO C hp.objs.size)).get? b = some o := fun b o e => Heap.get?_push_of_some _ (Heap.get?_push_of_some _ e)
  have hget : ((hp.push (kdv_tup [v])).push (HandSPX.excO C hp.objs.size)).get? (hp.objs.size + 1) = some (HandSPX.excO C hp.objs.size) := by heap_get
  have hnx : K.lookup (hp.objs.size + 1) = none := by
    cases e : K.lookup (hp.objs.size + 1) with
    | none => rfl
    | some o => exact absurd (Nat.lt_of_succ_lt (Heap.lt_size (X _ _ e))) (Nat.lt_irrefl _)
  refine HandSPX.call_own F.excBase_LookupError (fun _ => rfl) (X _ _ hC) (looks_findIn X T.iC) (fun self => PySem.W.bind_fn X self T.tC) (nl_one v) ?_
  refine nl_init (s := ⟨(hp.push (kdv_tup [v])).push (HandSPX.excO C hp.objs.size), g, dr, tk, os⟩) T (X.keeps k) (G.keeps k) (Bl.keeps k) hb (hlim.keeps k) hget hnx hroom fun h' tk' dx t1 ⟨k', hx, dn, dne, hns⟩ => ?_
  have z : hp.objs.size + 1 + 1 ≤ dx := by
    have y := dn
    rw [Heap.size_push, Heap.size_push] at y
    exact y
  exact ⟨rfl, hq h' tk' (hp.objs.size + 1) dx ⟨fun b o e => k' b o (Nat.ne_of_lt (Nat.lt_succ_of_lt (Heap.lt_size e))) (k b o e), Nat.le_succ _, ⟨_, _, hx, rfl, rfl, rfl, rfl⟩, Nat.le_trans (Nat.le_trans (Nat.le_succ _) (Nat.le_succ _)) z, dne, hns⟩⟩
end
end Cw
namespace Cw
open PySem PySem.Spec PyProof.Rows L2
section
variable {X : Cx} {C fI : Addr}
theorem relO_asked {v : V} {u : Value} (r : RelV v u) (f : Str) : RelO (List.lookup f [(("asked" : Str), v)]) (if f = "asked" then some u else none) := by
  by_cases h : f = "asked"
  · subst h
    rw [if_pos rfl, show List.lookup ("asked" : Str) [(("asked" : Str), v)] = some v by simp [List.lookup]]
    exact r
  · rw [if_neg h, show List.lookup f [(("asked" : Str), v)] = none by
      have h2 : (f == ("asked" : Str)) = false := by simpa using h
      simp [List.lookup, h2]]
    trivial
/-- NoLetter(e) -/
def tMkNl (C : Addr) (ta : TA) : L2.St → Hp → XK → Prop := fun σ H Q => ta σ H fun vs H1 => ∃ v, vs = [v] ∧ ∀ d, H1 d = none → Q (.ref C) (some d) (upd H1 d (.xd [(("asked" : Str), v)]))
theorem pmk_nl {a : Expr} {ta : TA} {p pos : Pos} {k : Nat} (T : NlTxt X.prog X.K X.mg C fI) (hr : Room k X.A) (ha : PA X [a] ta) (hg : Gl X "NoLetter" := by rfl)
    (he : starEach (a :: []) X.env = (false, eval a X.env) :: starEach [] X.env := by rfl) (hpl : (backTo pos (starEach [] X.env)).any (·.1) = false := by rfl) :
    PMk X (.Call (.Name "NoLetter" p) [a] [] pos) (tMkNl C ta) := by
  intro pins s σ H Q I h
  refine PySem.wpAny_Call_Name_kw (ld_glob I hg T.gC ?_)
  refine PySem.W.callWith_K (h₀ := X.base) I.ok.mod.kin T.kC (thn (ha.run pos pins s σ H _ I h) fun us s1 hh => ?_) he hpl
  obtain ⟨vs, H1, I1, r1, v, ev, q1⟩ := hh
  subst ev
  refine ⟨I1.kIn, ?_⟩
  obtain ⟨v', rfl, rv⟩ := vals1 r1
  show wpAny _ _ (call (.ref C) [v']) _ _ _
  have hlim := I1.nolimit
  obtain ⟨mb, b1, b2⟩ := I1.mod.blt
  have G := I1.mod.glob.keeps I1.bk
  have B := b1.keeps I1.bk
  obtain ⟨hp, g, dr, tk, os⟩ := s1
  refine wpAny_call (nl_made T I1.kIn G B ((b2 "super" (by decide +kernel)).trans (by decide +kernel)) hlim (by have := hr.dp; omega) fun h' tk' e d M => ?_)
  show MkP X pins σ Q (.ref e) ⟨h', g, dr, tk', os⟩
  obtain ⟨oe, fv, hoe, hc, hd, hdat, h1⟩ := M.obj
  have hns := M.ns
  obtain ⟨G', g1, g2⟩ := restrict h' fun b => decide (b ≠ e)
  have gk : ∀ b, b ≠ e → G'.get? b = h'.get? b := fun b hb => g1 b (decide_eq_true hb)
  have ge : G'.get? e = none := g2 e (by simp)
  have old : ∀ b o, hp.get? b = some o → G'.get? b = some o := fun b o q => (gk b (Nat.ne_of_lt (Nat.lt_of_lt_of_le (Heap.lt_size q) M.new))).trans (M.keep b o q)
  have ob : ObjOk X.prog X.w (upd H1 d (.xd [(("asked" : Str), v)])) G' d (.xd [(("asked" : Str), v)]) := ⟨_, hns.at (fun o q => (gk d M.dne).trans q), fun f => relO_asked rv f⟩
  have J : Inv X pins σ (upd H1 d (.xd [(("asked" : Str), v)])) ⟨G', g, dr, tk', os⟩ := I1.laid (t' := tk') old M.dbig ob
  refine ⟨e, oe, fv, ⟨G', g, dr, tk', os⟩, _, .ref C, some d, rfl, J, fun b o q => ?_, ge, hoe, ⟨hc, hd⟩, hdat, h1, ?_, rfl, I1.bare, raises_own T.exC T.tyC, q1 d (I1.hok.fresh M.dbig)⟩
  · by_cases hb : b = e
    · have q' : G'.get? b = some o := q
      rw [hb, ge] at q'; cases q'
    · exact (gk b hb).symm.trans q
  · rw [upd_ne (Ne.symm M.dne)]
    exact I1.hok.fresh M.new
end
end Cw
namespace Cw
open PySem PySem.Spec PyProof.Rows L2
open Evl (Ex ex_l ex_t sq_of st_of sz_of sz_lt fresh_back)
open Cs (Pr Stp Line)
section
variable {P : Program} {w : World} {K : PySem.W.Frag} {mg : Str → Option Value} {base : Heap} (T : Top w K mg)
include T
variable {nC nF : Addr} (nl : NlTxt P K mg nC nF)
include nl
/-- ahead: so many, or NoLetter -/
def spAhead (K : PySem.W.Frag) (C : Addr) : Sp := fun vs H Q E => ∃ (v : V) (W : List Run) (k : Bool) (n : Int), vs = [v, .str (kindS k), .int n] ∧ iT K (iRun K) v H W ∧ (∀ o, Cs.aheadM k W n 0 = some o → Gives iI o H Q) ∧ (Cs.aheadM k W n 0 = none → ∀ d H', Ex H H' → E (.ref C) (some d) H')
theorem ok_ahead : FnOk P w K mg base (L2.CX P w) 1 T.ahead.f T.ahead.fd ["word", "kind", "number"] (spAhead K nC) := by
  refine T.ahead.F.okX sc_ahead (fun vs H Q E h => ?_) (fun cdv A outer s H vs Q E hr h => ?_)
  · obtain ⟨v, W, k, n, rfl, _⟩ := h; rfl
  · obtain ⟨v, l, k, n, rfl, ⟨a, xs, rfl, hS, hA⟩, q1, q2⟩ := h
    refine ⟨_, (pss_cons (ps_par (i := 3) (j := 4) rfl sc_ahead.nd rfl rfl (by decide) rfl rfl (pa_cons (pv 2) (pa_cons pe_int pa_nil)) (by rfl))
  (pss_cons (ps_for (passes_of rfl) rfl (pi_tup (pv 0)) (pg_tup rfl (pgs_cons (pg_name (i := 5) sc_ahead.nd rfl (Or.inl rfl)) (pgs_cons (pg_name (i := 6) sc_ahead.nd rfl (Or.inl rfl)) pgs_nil)))
  (pss_one (ps_if (pt_cmpR op_ne (pv 5) (pv 1) (nomark _)) (pss_one (ps_set (i := 4) sc_ahead.nd rfl (Or.inl rfl) (pe_op op_add (pv 4) (pv 6)))) (pss_one (ps_if (pt_chain op_lt op_le pe_int (pv 3) (pv 6)) (pss_one (ps_ret (pv 4))) (pss_one (ps_set (i := 3) sc_ahead.nd rfl (Or.inl rfl) (pe_op op_sub (pv 3) (pv 6)))))))))
  (pss_one (ps_raise rfl (takes_of rfl rfl rfl rfl) (pmk_nl nl hr (pa_cons (pv 2) pa_nil)))))), ?_⟩
    refine ⟨_, rfl, _, _, rfl, ?_⟩
    refine ⟨_, rfl, a, rfl, ⟨_, hS⟩, ?_⟩
    refine forT (R := iRun K) (l := l) (xs := xs) (fun r σ' H' => ∃ (i j : Int) (y5 y6 : Option V), σ' = [some (.ref a), some (.str (kindS k)), some (.int n), some (.int i), some (.int j), y5, y6] ∧ H' = H ∧ Cs.aheadM k r i j = Cs.aheadM k l n 0)
      hS hA ⟨n, 0, none, none, rfl, rfl, rfl⟩ (fun r σ' H' h => ?_) (fun pre d r x σ' H' el hx h => ?_) (fun σ' H' h => ?_)
    · obtain ⟨i, j, y5, y6, rfl, rfl, _⟩ := h
      exact Kp.refl _
    · obtain ⟨i, j, y5, y6, rfl, rfl, hf⟩ := h
      obtain ⟨own, m⟩ := d
      obtain ⟨t, x1, x2, rfl, hT, hk, hm⟩ := hx
      cases hk; cases hm
      simp only [Cs.aheadM] at hf
      refine ⟨t, _, rfl, st_of hT, rfl, _, _, rfl, _, _, rfl, rfl, ?_⟩
      refine ⟨_, rfl, _, rfl, rfl, _, rfl, iteNB (fun c => ?_) (fun c => ?_)⟩
      · have c : own ≠ k := fun z => c (kind_inj.mpr z)
        rw [if_pos c] at hf
        exact ⟨_, rfl, _, rfl, _, _, rfl, rfl, _, _, _, _, rfl, rfl, hf⟩
      · have c : own = k := kind_inj.mp c
        rw [if_neg (fun z => z c)] at hf
        refine ⟨_, rfl, _, _, rfl, rfl, _, rfl, iteD (fun c1 => ?_) (fun c1 => ?_)⟩
        · refine ⟨_, rfl, _, _, rfl, rfl, _, rfl, iteD (fun c2 => ?_) (fun c2 => ?_)⟩
          · rw [if_pos ⟨c1, c2⟩] at hf
            exact ⟨_, rfl, q1 j hf.symm _ _ (Evl.Ex.refl _) rfl⟩
          · rw [if_neg (fun z => c2 z.2)] at hf
            exact ⟨_, rfl, _, rfl, _, _, rfl, rfl, _, _, _, _, rfl, rfl, hf⟩
        · refine ⟨_, rfl, iteF ?_⟩
          rw [if_neg (fun z => c1 z.1)] at hf
          exact ⟨_, rfl, _, rfl, _, _, rfl, rfl, _, _, _, _, rfl, rfl, hf⟩
    · obtain ⟨i, j, y5, y6, rfl, rfl, hf⟩ := h
      exact ⟨_, rfl, _, rfl, fun d hd => q2 hf.symm d _ (Evl.Ex.new hd)⟩
def spDrops (K : PySem.W.Frag) (C : Addr) : Sp := fun vs H Q E => ∃ (v : V) (W : List Run) (n : Int), vs = [v, .int n] ∧ iT K (iRun K) v H W ∧ (∀ o, Cs.aheadM true W n 0 = some o → Gives iI o H Q) ∧ (Cs.aheadM true W n 0 = none → ∀ d H', Ex H H' → E (.ref C) (some d) H')
theorem ok_drops_ahead : FnOk P w K mg base (L2.CX P w) 4 T.drops_ahead.f T.drops_ahead.fd ["word", "number"] (spDrops K nC) := by
  refine T.drops_ahead.F.okX sc_drops_ahead (fun vs H Q E h => ?_) (fun cdv A outer s H vs Q E hr h => ?_)
  · obtain ⟨v, W, n, rfl, _⟩ := h; rfl
  · obtain ⟨v, l, n, rfl, hv, q1, q2⟩ := h
    refine ⟨_, (pss_one (ps_ret (pe_call (ok_ahead T nl) (hr.mono (by decide)) (by rfl) T.ahead.g T.ahead.F.kp (b_ahead T) .nil (passes_call (takes_of rfl rfl rfl rfl) (fun _ _ _ _ h => h)) (pa_cons (pv 0) (pa_cons (pe_glob (v := .str "fill") (by rfl) T.FILL ⟨_, rfl⟩) (pa_cons (pv 1) pa_nil)))))), ?_⟩
    exact ⟨_, rfl, _, rfl, v, l, true, n, rfl, hv, q1, q2⟩
theorem ok_fill_first : FnOk P w K mg base CX0 13 T.fill_first.f T.fill_first.fd ["pipeline", "number", "below"] (sp3 (iPipe K T.Pipeline.C T.Step.C) iI iI iB (fun l _ _ => l.length ≤ 100) Cs.fillFirst) := by
  refine T.fill_first.F.ok sc_fill_first (fun vs H Q E h => ?_) (fun cdv A outer s H vs Q E hr h => ?_)
  · obtain ⟨v, d, w, e, x, g, rfl, _⟩ := h; rfl
  · obtain ⟨v, l, w, n, x, b, rfl, hv, hw, hx, hl, q⟩ := h
    cases hw; cases hx
    refine ⟨_, (pss_cons (ps_if (pt_cmpR op_eq (pv 1) pe_int (nomark _)) (pss_one (ps_ret pe_bl)) pss_nil)
  (pss_one (ps_try_only (tb := fun W => tRet (tOp (rI0 fun i j => .bl (decide (i < j))) (tCallS (spDrops K nC) (WE W) (tCons (tProp T.Pipeline.C (sp1 (iPipe K T.Pipeline.C T.Step.C) (iT K (iRun K)) (fun l => l.length ≤ 100) Cs.word) [] E0 (tVar 0)) (tCons (tVar 1) tNil))) (tVar 2))) (ts := fun _ _ _ => tRet (tC (.bl false))) (Wout := fun _ _ _ _ => False) rfl rfl ⟨rfl, by decide, .inl nl.gC⟩ takes0 (fun W pn xe tk _ => pss_one (ps_ret (pe_cmpR op_lt (by exact (pe_callS (ok_drops_ahead T nl) (hr.mono (by decide)) rfl T.drops_ahead.g T.drops_ahead.F.kp (b_drops_ahead T) (fun σ => passAt tk σ) (by exact (pa_cons (pe_prop (pv 0) T.Pipeline.cl T.Pipeline_word.pr (ok_Pipeline_word T) (hr.mono (by decide)) (b_Pipeline_word T) .nil pass0 rfl) (pa_cons (pv 1) pa_nil))))) (pv 2) (nomark _)))) (fun a oe cls d pn _ _ => pss_one (ps_ret pe_bl))))), ?_⟩
    unfold Cs.fillFirst at q
    refine ⟨_, rfl, rfl, _, rfl, iteD (fun c => ?_) (fun c => ?_)⟩
    · rw [if_pos (V.int.inj c)] at q
      exact q _ _ (Evl.Ex.refl _) rfl
    · rw [if_neg (fun z => c (congrArg V.int z))] at q
      refine ⟨_, rfl, rdP (pipe_ins hv) hv hl fun z H1 e1 hz => ?_⟩
      refine ⟨_, rfl, z, _, n, rfl, hz, fun o ho u H2 e2 hu => ?_, fun ho d H2 e2 => ?_⟩
      · rw [ho] at q
        cases hu
        exact ⟨_, rfl, _, _, rfl, rfl, q _ _ (e1.trans e2) rfl⟩
      · rw [ho] at q
        exact ⟨true, nl.te, fun _ a ha => q _ _ (e1.trans e2) rfl, fun z => nomatch z⟩
end
end Cw
namespace Cw
open PySem PySem.Spec PyProof.Rows L2
open Evl (Ex ex_l ex_t sq_of st_of sz_of sz_lt fresh_back)
open Cs (Pr Stp Line)
section
variable {P : Program} {w : World} {K : PySem.W.Frag} {mg : Str → Option Value} {base : Heap} (T : Top w K mg)
include T
omit T in
theorem sqK {H : Hp} {a : Addr} {xs : List V} (h : SqT K (fun _ => none) a xs) : SqT K H a xs := ex_t (fun _ _ e => by cases e) h
theorem ok_many_for : FnOk P w K mg base CX0 1 T.many_for.f T.many_for.fd ["length", "gap", "drops"] (sp3 iI iI iI iI (fun l g d => 0 < l + g ∧ l + g < 1000000) fun l g d => 2 + (d + g) / (l + g)) := by
  refine T.many_for.F.ok sc_many_for (fun vs H Q E h => ?_) (fun cdv A outer s H vs Q E hr h => ?_)
  · obtain ⟨v, d, w, e, x, g, rfl, _⟩ := h; rfl
  · obtain ⟨_, a, _, b, _, c, rfl, ha, hb, hc, ⟨h0, h1⟩, q⟩ := h
    cases ha; cases hb; cases hc
    refine ⟨_, (pss_one (ps_ret (pe_op op_add pe_int (pe_op op_fdivN (pe_op op_add (pv 2) (pv 1)) (pe_op op_add (pv 0) (pv 1)))))), ?_⟩
    refine ⟨_, rfl, _, rfl, _, _, rfl, rfl, _, rfl, _, rfl, _, _, rfl, rfl, _, _, rfl, rfl, ⟨by omega, by omega⟩, _, _, rfl, rfl, q _ _ (Evl.Ex.refl _) ?_⟩
    show V.int _ = V.int _
    rw [Int.fdiv_eq_ediv_of_nonneg _ (by omega)]
omit T in
theorem mkRow2 {C : Addr} {R : Rp (List Pr)} {H1 : Hp} {v : V} {l : List Pr} {E : XK} {Qx : Addr → VK} (hR : ∀ {H'}, Ex H1 H' → R v H' l) (hp : Cs.Pos l) (hl : l.length ≤ 1000) (q : ∀ x H', Ex H1 H' → iRow K C (.ref x) H' (Cs.nf l) → Qx x .non H') :
    ∀ x dx, H1 x = none → H1 dx = none → dx ≠ x → spRow K C R (.ref x :: ([v] ++ [])) (upd (upd H1 dx (.own x)) x (.ins C dx [])) (Qx x) E := fun x dx hx hdx hne =>
  ⟨x, v, l, rfl, hR (exmk hx hdx hne), hp, hl, dx, upd_same, fun fs H' hk hx' ⟨y, ef, hy⟩ => q x H' (fun b o e => hk b o (ne_of_none e hx) (exmk hx hdx hne b o e)) ⟨x, dx, y, rfl, ef ▸ hx', hy⟩⟩
/-- rows of two pairs -/
theorem ok_touch_pair : FnOk P w K mg base CX0 16 T.touch_pair.f T.touch_pair.fd ["p", "q"] (sp2 (iPipe K T.Pipeline.C T.Step.C) (iPipe K T.Pipeline.C T.Step.C) (i2 K (iRow K T.Row.C) (iRow K T.Row.C)) (fun p q => p.length ≤ 100 ∧ q.length ≤ 100 ∧ 0 < Cs.drops p ∧ 0 ≤ Cs.drops q) fun p q => ([(0, Cs.drops p)], [(Cs.drops p, 2 * Cs.drops p + (1 + Cs.drops p + Cs.drops q))])) := by
  refine T.touch_pair.F.ok sc_touch_pair (fun vs H Q E h => ?_) (fun cdv A outer s H vs Q E hr h => ?_)
  · obtain ⟨v, d, w, e, rfl, _⟩ := h; rfl
  · obtain ⟨v, p, w, r, rfl, hv, hw, ⟨lp, lq, d0, d1⟩, q⟩ := h
    refine ⟨_, (pss_cons (ps_set (i := 2) sc_touch_pair.nd rfl (Or.inl rfl) (pe_op op_add (pe_op op_add pe_int (pe_prop (pv 0) T.Pipeline.cl T.Pipeline_drops.pr (ok_Pipeline_drops T) (hr.mono (by decide)) (b_Pipeline_drops T) .nil pass0 rfl)) (pe_prop (pv 1) T.Pipeline.cl T.Pipeline_drops.pr (ok_Pipeline_drops T) (hr.mono (by decide)) (b_Pipeline_drops T) .nil pass0 rfl)))
  (pss_one (ps_ret (pe_tup (pa_cons (pe_make T.Row_mk (ok_Row_initT T) (hr.mono (by decide)) (by rfl) T.Row.g (b_Row_init T) .nil pass0 (pa_cons (pe_tup (pa_cons (pe_tup (pa_cons pe_int (pa_cons (pe_prop (pv 0) T.Pipeline.cl T.Pipeline_drops.pr (ok_Pipeline_drops T) (hr.mono (by decide)) (b_Pipeline_drops T) .nil pass0 rfl) pa_nil))) pa_nil)) pa_nil)) (pa_cons (pe_make T.Row_mk (ok_Row_initT T) (hr.mono (by decide)) (by rfl) T.Row.g (b_Row_init T) .nil pass0 (pa_cons (pe_tup (pa_cons (pe_tup (pa_cons (pe_prop (pv 0) T.Pipeline.cl T.Pipeline_drops.pr (ok_Pipeline_drops T) (hr.mono (by decide)) (b_Pipeline_drops T) .nil pass0 rfl) (pa_cons (pe_op op_add (pe_op op_mul pe_int (pe_prop (pv 0) T.Pipeline.cl T.Pipeline_drops.pr (ok_Pipeline_drops T) (hr.mono (by decide)) (b_Pipeline_drops T) .nil pass0 rfl)) (pv 2)) pa_nil))) pa_nil)) pa_nil)) pa_nil)))))), ?_⟩
    refine ⟨_, rfl, rdP (pipe_ins hv) hv lp fun z H1 e1 hz => ?_⟩
    cases hz
    have hw1 := Mono.up (R := iPipe K T.Pipeline.C T.Step.C) (kp e1) hw
    refine ⟨_, _, rfl, rfl, _, rfl, rdP (pipe_ins hw1) hw1 lq fun z H2 e2 hz => ?_⟩
    cases hz
    refine ⟨_, _, rfl, rfl, ?_⟩
    have hv2 := Mono.up (R := iPipe K T.Pipeline.C T.Step.C) (kp (e1.trans e2)) hv
    refine ⟨_, rfl, rdP (pipe_ins hv2) hv2 lp fun z H3 e3 hz => ?_⟩
    cases hz
    refine ⟨sz2, fun p4 np4 => ?_⟩
    generalize hu : upd _ p4 _ = H4
    obtain ⟨e4, h4⟩ := gnew np4 hu
    refine ⟨sz1, fun p5 np5 => ?_⟩
    generalize hu : upd _ p5 _ = H5
    obtain ⟨e5, h5⟩ := gnew np5 hu
    have y5 : iT K (iPr K) (.ref p5) H5 [(0, Cs.drops p)] := iT_of h5 ⟨i2_of (e5 _ _ h4) rfl rfl, trivial⟩
    refine mkRow2 (l := [(0, Cs.drops p)]) (fun e => Mono.up (kp e) y5) (Cs.norm_one d0).1 (by simp) fun r6 H6 e6 hr6 => ⟨rfl, ?_⟩
    rw [Cs.nf_one d0] at hr6
    have e36 := ((e3.trans e4).trans e5).trans e6
    have hv6 := Mono.up (R := iPipe K T.Pipeline.C T.Step.C) (kp e36) hv2
    refine ⟨_, rfl, rdP (pipe_ins hv6) hv6 lp fun z H7 e7 hz => ?_⟩
    cases hz
    have hv7 := Mono.up (R := iPipe K T.Pipeline.C T.Step.C) (kp e7) hv6
    refine ⟨_, rfl, rdP (pipe_ins hv7) hv7 lp fun z H8 e8 hz => ?_⟩
    cases hz
    refine ⟨_, _, rfl, rfl, .inl ⟨by omega, by omega⟩, _, rfl, _, _, rfl, rfl, sz2, fun p9 np9 => ?_⟩
    generalize hu : upd _ p9 _ = H9
    obtain ⟨e9, h9⟩ := gnew np9 hu
    refine ⟨sz1, fun p10 np10 => ?_⟩
    generalize hu : upd _ p10 _ = H10
    obtain ⟨e10, h10⟩ := gnew np10 hu
    have y10 : iT K (iPr K) (.ref p10) H10 [(Cs.drops p, 2 * Cs.drops p + (1 + Cs.drops p + Cs.drops r))] := iT_of h10 ⟨i2_of (e10 _ _ h9) rfl rfl, trivial⟩
    have d2 : Cs.drops p < 2 * Cs.drops p + (1 + Cs.drops p + Cs.drops r) := by omega
    refine mkRow2 (l := [(Cs.drops p, 2 * Cs.drops p + (1 + Cs.drops p + Cs.drops r))]) (fun e => Mono.up (kp e) y10) (Cs.norm_one d2).1 (by simp) fun r11 H11 e11 hr11 => ⟨rfl, ?_⟩
    rw [Cs.nf_one d2] at hr11
    refine ⟨sz2, fun p12 np12 => ?_⟩
    generalize hu : upd _ p12 _ = H12
    obtain ⟨e12, h12⟩ := gnew np12 hu
    have e711 := (((e7.trans e8).trans e9).trans e10).trans e11
    exact q _ _ ((((e1.trans e2).trans e36).trans e711).trans e12) (i2_of h12 (Mono.up (R := iRow K T.Row.C) (kp (e711.trans e12)) hr6) (Mono.up (R := iRow K T.Row.C) (kp e12) hr11))
variable {nC nF : Addr} (nl : NlTxt P K mg nC nF)
include nl
theorem ok_spare_any : FnOk P w K mg base CX0 16 T.spare_any.f T.spare_any.fd ["p", "q"] (sp2 (iPipe K T.Pipeline.C T.Step.C) (iPipe K T.Pipeline.C T.Step.C) iB (fun p q => p.length ≤ 100 ∧ q.length ≤ 100) Cs.spareM) := by
  refine T.spare_any.F.ok sc_spare_any (fun vs H Q E h => ?_) (fun cdv A outer s H vs Q E hr h => ?_)
  · obtain ⟨v, d, w, e, rfl, _⟩ := h; rfl
  · obtain ⟨v, p, w, r, rfl, hv, hw, ⟨lp, lq⟩, q⟩ := h
    refine ⟨_, (pss_one (ps_ret (pe_and (pe_cmpR op_eq (pe_prop (pv 0) T.Pipeline.cl T.Pipeline_drops.pr (ok_Pipeline_drops T) (hr.mono (by decide)) (b_Pipeline_drops T) .nil pass0 rfl) pe_int (nomark _)) (pe_and (pe_cmpR op_eq (pe_prop (pv 0) T.Pipeline.cl T.Pipeline_starts.pr (ok_Pipeline_starts T) (hr.mono (by decide)) (b_Pipeline_starts T) .nil pass0 rfl) pe_int (nomark _)) (pe_and (pe_cmpR op_eq (pe_prop (pv 0) T.Pipeline.cl T.Pipeline_ends.pr (ok_Pipeline_ends T) (hr.mono (by decide)) (b_Pipeline_ends T) .nil pass0 rfl) pe_int (nomark _)) (pe_one (pe_call (ok_fill_first T nl) (hr.mono (by decide)) (by rfl) T.fill_first.g T.fill_first.F.kp (b_fill_first T) .nil pass0 (pa_cons (pv 1) (pa_cons (pe_prop (pv 0) T.Pipeline.cl T.Pipeline_fills.pr (ok_Pipeline_fills T) (hr.mono (by decide)) (b_Pipeline_fills T) .nil pass0 rfl) (pa_cons pe_int pa_nil)))))))))), ?_⟩
    unfold Cs.spareM at q
    refine ⟨_, rfl, rdP (pipe_ins hv) hv lp fun z H1 e1 hz => ?_⟩
    cases hz
    refine ⟨rfl, _, rfl, iteD (fun c => ?_) (fun c => ?_)⟩
    · have c := V.int.inj c
      have hv1 := Mono.up (R := iPipe K T.Pipeline.C T.Step.C) (kp e1) hv
      rw [decide_eq_true c, Bool.true_and] at q
      refine ⟨_, rfl, rdP (pipe_ins hv1) hv1 lp fun z H2 e2 hz => ?_⟩
      cases hz
      refine ⟨rfl, _, rfl, iteD (fun c => ?_) (fun c => ?_)⟩
      · have c := V.int.inj c
        have hv2 := Mono.up (R := iPipe K T.Pipeline.C T.Step.C) (kp e2) hv1
        rw [decide_eq_true c, Bool.true_and] at q
        refine ⟨_, rfl, rdP (pipe_ins hv2) hv2 lp fun z H3 e3 hz => ?_⟩
        cases hz
        refine ⟨rfl, _, rfl, iteD (fun c => ?_) (fun c => ?_)⟩
        · have c := V.int.inj c
          have hv3 := Mono.up (R := iPipe K T.Pipeline.C T.Step.C) (kp e3) hv2
          rw [decide_eq_true c, Bool.true_and] at q
          have e13 := (e1.trans e2).trans e3
          refine ⟨_, rfl, _, rfl, rdP (pipe_ins hv3) hv3 lp fun z H4 e4 hz => ?_⟩
          cases hz
          exact ⟨_, r, _, _, _, _, rfl, Mono.up (kp (e13.trans e4)) hw, rfl, rfl, lq, fun v5 H5 e5 hv5 => q v5 H5 ((e13.trans e4).trans e5) hv5⟩
        · rw [decide_eq_false (fun z => c (congrArg V.int z)), Bool.false_and] at q
          exact q _ _ ((e1.trans e2).trans e3) rfl
      · rw [decide_eq_false (fun z => c (congrArg V.int z)), Bool.false_and] at q
        exact q _ _ (e1.trans e2) rfl
    · rw [decide_eq_false (fun z => c (congrArg V.int z)), Bool.false_and] at q
      exact q _ _ e1 rfl
end
end Cw
namespace Cw
open PySem PySem.Spec PyProof.Rows L2
open Evl (Ex ex_l ex_t sq_of st_of sz_of sz_lt fresh_back)
open Cs (Pr Stp Line)
section
variable {P : Program} {w : World} {K : PySem.W.Frag} {mg : Str → Option Value} {base : Heap} (T : Top w K mg)
include T
omit T in
theorem shown_eq (p q : Line) : Cs.shown p q = if 0 < Cs.drops p then ([(0, Cs.drops p)], [(Cs.drops p, 2 * Cs.drops p + (1 + Cs.drops p + Cs.drops q))]) else if p.starts ≠ 0 ∨ p.ends ≠ 0 then ([(0, 1 + Cs.drops q)], [])
    else (Cs.cb 0 1 (Cs.fills p) (2 + (Cs.drops q + Cs.fills p) / (1 + Cs.fills p)).toNat, []) := by
  unfold Cs.shown Cs.many
  rw [Cs.drops_low, Cs.drops_low, Cs.fills_high]
omit T in
theorem many_le {d f : Int} (hd : 0 ≤ d) (hf : 0 ≤ f) : 0 ≤ (d + f) / (1 + f) ∧ (d + f) / (1 + f) ≤ d + 1 := by
  refine ⟨Int.ediv_nonneg (by omega) (by omega), ?_⟩
  have he := Int.mul_ediv_add_emod (d + f) (1 + f)
  have hm := Int.emod_nonneg (d + f) (show 1 + f ≠ 0 by omega)
  generalize (d + f) / (1 + f) = k at he
  generalize (d + f) % (1 + f) = m at he hm
  by_cases c : k ≤ d + 1
  · exact c
  · exfalso
    have h1 : (1 + f) * (d + 2) ≤ (1 + f) * k := Int.mul_le_mul_of_nonneg_left (by omega) (by omega)
    have h2 : (1 + f) * (d + 2) = d + 2 + f * (d + 2) := by rw [Int.add_mul, Int.one_mul]
    have h3 : f * 2 ≤ f * (d + 2) := Int.mul_le_mul_of_nonneg_left (by omega) hf
    omega
variable {nC nF : Addr} (nl : NlTxt P K mg nC nF)
include nl
/-- the rows that show it, or none -/
def spShow (T : Top w K mg) : Sp := fun vs H Q _ => ∃ (v u : V) (p q : Line), vs = [v, u] ∧ iPipe K T.Pipeline.C T.Step.C v H p ∧ iPipe K T.Pipeline.C T.Step.C u H q ∧ p.length ≤ 100 ∧ q.length ≤ 100 ∧ Cs.drops q ≤ 100 ∧ Cs.fills p ≤ 100000 ∧
  (Cs.spareM p q = true → ∀ H', Ex H H' → Q .non H') ∧ (Cs.spareM p q = false → Gives (i2 K (iRow K T.Row.C) (iRow K T.Row.C)) (Cs.shown p q) H Q)
theorem ok_spare_any_rows : FnOk P w K mg base CX0 19 T.spare_any_rows.f T.spare_any_rows.fd ["p", "q"] (spShow T) := by
  refine T.spare_any_rows.F.ok sc_spare_any_rows (fun vs H Q E h => ?_) (fun cdv A outer s H vs Q E hr h => ?_)
  · obtain ⟨v, u, p, q, rfl, _⟩ := h; rfl
  · obtain ⟨v, u, p, r, rfl, hv, hw, lp, lq, dq, fp, q1, q2⟩ := h
    refine ⟨_, (pss_cons (ps_if (pt_val (pe_call (ok_spare_any T nl) (hr.mono (by decide)) (by rfl) T.spare_any.g T.spare_any.F.kp (b_spare_any T) .nil pass0 (pa_cons (pv 0) (pa_cons (pv 1) pa_nil)))) (pss_one (ps_ret pe_non)) pss_nil)
  (pss_cons (ps_if (pt_cmpR op_gt (pe_prop (pv 0) T.Pipeline.cl T.Pipeline_drops.pr (ok_Pipeline_drops T) (hr.mono (by decide)) (b_Pipeline_drops T) .nil pass0 rfl) pe_int (nomark _)) (pss_one (ps_ret (pe_call (ok_touch_pair T) (hr.mono (by decide)) (by rfl) T.touch_pair.g T.touch_pair.F.kp (b_touch_pair T) .nil pass0 (pa_cons (pv 0) (pa_cons (pv 1) pa_nil))))) pss_nil)
  (pss_cons (ps_if (PW.pt (pw_or (pt_cmpR op_ne (pe_prop (pv 0) T.Pipeline.cl T.Pipeline_starts.pr (ok_Pipeline_starts T) (hr.mono (by decide)) (b_Pipeline_starts T) .nil pass0 rfl) pe_int (nomark _)) (pw_or1 (pt_cmpR op_ne (pe_prop (pv 0) T.Pipeline.cl T.Pipeline_ends.pr (ok_Pipeline_ends T) (hr.mono (by decide)) (b_Pipeline_ends T) .nil pass0 rfl) pe_int (nomark _))))) (pss_one (ps_ret (pe_tup (pa_cons (pe_make T.Row_mk (ok_Row_initT T) (hr.mono (by decide)) (by rfl) T.Row.g (b_Row_init T) .nil pass0 (pa_cons (pe_tup (pa_cons (pe_tup (pa_cons pe_int (pa_cons (pe_op op_add pe_int (pe_prop (pv 1) T.Pipeline.cl T.Pipeline_drops.pr (ok_Pipeline_drops T) (hr.mono (by decide)) (b_Pipeline_drops T) .nil pass0 rfl)) pa_nil))) pa_nil)) pa_nil)) (pa_cons (pe_make0 T.Row_mk (ok_Row_initT T) (hr.mono (by decide)) (by rfl) T.Row.g (b_Row_init0 T) (show Vals [V.ref T.e0] [Value.ref T.e0] from .cons rfl .nil) pass0) pa_nil))))) pss_nil)
  (pss_one (ps_ret (pe_tup (pa_cons (pe_call (ok_comb T) (hr.mono (by decide)) (by rfl) T.comb.g T.comb.F.kp (b_comb T) .nil pass0 (pa_cons pe_int (pa_cons pe_int (pa_cons (pe_prop (pv 0) T.Pipeline.cl T.Pipeline_fills.pr (ok_Pipeline_fills T) (hr.mono (by decide)) (b_Pipeline_fills T) .nil pass0 rfl) (pa_cons (pe_call (ok_many_for T) (hr.mono (by decide)) (by rfl) T.many_for.g T.many_for.F.kp (b_many_for T) .nil pass0 (pa_cons pe_int (pa_cons (pe_prop (pv 0) T.Pipeline.cl T.Pipeline_fills.pr (ok_Pipeline_fills T) (hr.mono (by decide)) (b_Pipeline_fills T) .nil pass0 rfl) (pa_cons (pe_prop (pv 1) T.Pipeline.cl T.Pipeline_drops.pr (ok_Pipeline_drops T) (hr.mono (by decide)) (b_Pipeline_drops T) .nil pass0 rfl) pa_nil)))) pa_nil))))) (pa_cons (pe_make0 T.Row_mk (ok_Row_initT T) (hr.mono (by decide)) (by rfl) T.Row.g (b_Row_init0 T) (show Vals [V.ref T.e0] [Value.ref T.e0] from .cons rfl .nil) pass0) pa_nil)))))))), ?_⟩
    refine ⟨_, rfl, _, rfl, v, p, u, r, rfl, hv, hw, ⟨lp, lq⟩, fun b H1 e1 hb => ?_⟩
    cases hb
    refine ⟨_, rfl, iteB (fun c => q1 c _ e1) fun c => ?_⟩
    have q := q2 c
    have ns : ¬ Cs.Spare p r := fun z => by rw [(Cs.spareM_iff p r).mpr z] at c; cases c
    have hsn := Cs.shown_norm ns
    rw [shown_eq] at q hsn
    have dq0 : 0 ≤ Cs.drops r := by rw [Cs.drops_low]; have := Cs.low_np r.sw; omega
    have dp0 : 0 ≤ Cs.drops p := by rw [Cs.drops_low]; have := Cs.low_np p.sw; omega
    have fp0 : 0 ≤ Cs.fills p := by rw [Cs.fills_high]; exact Cs.high_nn _
    have hv1 := Mono.up (R := iPipe K T.Pipeline.C T.Step.C) (kp e1) hv
    have hw1 := Mono.up (R := iPipe K T.Pipeline.C T.Step.C) (kp e1) hw
    refine ⟨_, rfl, rdP (pipe_ins hv1) hv1 lp fun z H2 e2 hz => ?_⟩
    cases hz
    have hv2 := Mono.up (R := iPipe K T.Pipeline.C T.Step.C) (kp e2) hv1
    have hw2 := Mono.up (R := iPipe K T.Pipeline.C T.Step.C) (kp e2) hw1
    have e12 := e1.trans e2
    have emp : ∀ {H' : Hp}, iT K (iPr K) (.ref T.e0) H' [] := fun {H'} => ⟨T.e0, [], rfl, sqK T.e0_t, trivial⟩
    refine ⟨_, _, rfl, rfl, _, rfl, iteD (fun c1 => ?_) (fun c1 => ?_)⟩
    · have c1 : 0 < Cs.drops p := c1
      rw [if_pos c1] at q
      exact ⟨_, rfl, _, rfl, v, p, u, r, rfl, hv2, hw2, ⟨lp, lq, c1, dq0⟩, fun v3 H3 e3 hv3 => q v3 H3 (e12.trans e3) hv3⟩
    have c1 : ¬ 0 < Cs.drops p := c1
    rw [if_neg c1] at q hsn
    have fin1 : ∀ (H3 : Hp), Ex H2 H3 → (p.starts ≠ 0 ∨ p.ends ≠ 0) → True := fun _ _ _ => trivial
    refine ⟨_, rfl, rdP (pipe_ins hv2) hv2 lp fun z H3 e3 hz => ?_⟩
    cases hz
    have hv3 := Mono.up (R := iPipe K T.Pipeline.C T.Step.C) (kp e3) hv2
    have hw3 := Mono.up (R := iPipe K T.Pipeline.C T.Step.C) (kp e3) hw2
    -- what the two ways to the second answer share
    have one : ∀ (H4 : Hp), Ex H3 H4 → (p.starts ≠ 0 ∨ p.ends ≠ 0) → ∃ (a dx : Addr) (fs : List (Str × V)), u = .ref a ∧ H4 a = some (.ins T.Pipeline.C dx fs) ∧ sp1 (iPipe K T.Pipeline.C T.Step.C) iI (fun l => l.length ≤ 100) Cs.drops (.ref a :: []) H4 (fun y H5 => ∃ i j, (V.int 1) = .int i ∧ y = .int j ∧ i = 1 ∧ j = Cs.drops r ∧ Ex H4 H5) E0 := fun H4 e4 _ =>
      rdP (pipe_ins (Mono.up (R := iPipe K T.Pipeline.C T.Step.C) (kp e4) hw3)) (Mono.up (R := iPipe K T.Pipeline.C T.Step.C) (kp e4) hw3) lq fun z H5 e5 hz => ⟨_, _, rfl, hz, rfl, rfl, e5⟩
    clear one fin1
    refine ⟨rfl, _, rfl, iteNB (fun c2 => ?_) (fun c2 => ?_)⟩
    · have c2 : p.starts ≠ 0 := fun z => c2 (congrArg V.int z)
      rw [if_pos (Or.inl c2)] at q hsn
      refine ⟨_, rfl, rdP (pipe_ins hw3) hw3 lq fun z H5 e5 hz => ?_⟩
      cases hz
      refine ⟨_, _, rfl, rfl, sz2, fun p6 np6 => ?_⟩
      generalize hu : upd _ p6 _ = H6
      obtain ⟨e6, h6⟩ := gnew np6 hu
      refine ⟨sz1, fun p7 np7 => ?_⟩
      generalize hu : upd _ p7 _ = H7
      obtain ⟨e7, h7⟩ := gnew np7 hu
      have y7 : iT K (iPr K) (.ref p7) H7 [(0, 1 + Cs.drops r)] := iT_of h7 ⟨i2_of (e7 _ _ h6) rfl rfl, trivial⟩
      refine mkRow2 (l := [(0, 1 + Cs.drops r)]) (fun e => Mono.up (kp e) y7) hsn.1.1 (by simp) fun r8 H8 e8 hr8 => ⟨rfl, ?_⟩
      rw [Cs.nf_norm hsn.1] at hr8
      refine mkRow2 (l := []) (v := .ref T.e0) (fun e => emp) (fun _ h => by cases h) (by simp) fun r9 H9 e9 hr9 => ⟨rfl, ?_⟩
      refine ⟨sz2, fun p10 np10 => ?_⟩
      generalize hu : upd _ p10 _ = H10
      obtain ⟨e10, h10⟩ := gnew np10 hu
      exact q _ _ ((((((e12.trans e3).trans e5).trans e6).trans e7).trans e8).trans (e9.trans e10)) (i2_of h10 (Mono.up (R := iRow K T.Row.C) (kp (e9.trans e10)) hr8) (Mono.up (R := iRow K T.Row.C) (kp e10) hr9))
    · have c2 : p.starts = 0 := V.int.inj c2
      refine ⟨_, rfl, rdP (pipe_ins hv3) hv3 lp fun z H4 e4 hz => ?_⟩
      cases hz
      have hv4 := Mono.up (R := iPipe K T.Pipeline.C T.Step.C) (kp e4) hv3
      have hw4 := Mono.up (R := iPipe K T.Pipeline.C T.Step.C) (kp e4) hw3
      refine ⟨rfl, _, rfl, iteNB (fun c3 => ?_) (fun c3 => ?_)⟩
      · have c3 : p.ends ≠ 0 := fun z => c3 (congrArg V.int z)
        rw [if_pos (Or.inr c3)] at q hsn
        refine ⟨_, rfl, rdP (pipe_ins hw4) hw4 lq fun z H5 e5 hz => ?_⟩
        cases hz
        refine ⟨_, _, rfl, rfl, sz2, fun p6 np6 => ?_⟩
        generalize hu : upd _ p6 _ = H6
        obtain ⟨e6, h6⟩ := gnew np6 hu
        refine ⟨sz1, fun p7 np7 => ?_⟩
        generalize hu : upd _ p7 _ = H7
        obtain ⟨e7, h7⟩ := gnew np7 hu
        have y7 : iT K (iPr K) (.ref p7) H7 [(0, 1 + Cs.drops r)] := iT_of h7 ⟨i2_of (e7 _ _ h6) rfl rfl, trivial⟩
        refine mkRow2 (l := [(0, 1 + Cs.drops r)]) (fun e => Mono.up (kp e) y7) hsn.1.1 (by simp) fun r8 H8 e8 hr8 => ⟨rfl, ?_⟩
        rw [Cs.nf_norm hsn.1] at hr8
        refine mkRow2 (l := []) (v := .ref T.e0) (fun e => emp) (fun _ h => by cases h) (by simp) fun r9 H9 e9 hr9 => ⟨rfl, ?_⟩
        refine ⟨sz2, fun p10 np10 => ?_⟩
        generalize hu : upd _ p10 _ = H10
        obtain ⟨e10, h10⟩ := gnew np10 hu
        exact q _ _ (((((((e12.trans e3).trans e4).trans e5).trans e6).trans e7).trans e8).trans (e9.trans e10)) (i2_of h10 (Mono.up (R := iRow K T.Row.C) (kp (e9.trans e10)) hr8) (Mono.up (R := iRow K T.Row.C) (kp e10) hr9))
      · have c3 : p.ends = 0 := V.int.inj c3
        rw [if_neg (by omega : ¬ (p.starts ≠ 0 ∨ p.ends ≠ 0))] at q hsn
        have hm := many_le dq0 fp0
        refine ⟨_, rfl, rdP (pipe_ins hv4) hv4 lp fun z H5 e5 hz => ?_⟩
        cases hz
        have hv5 := Mono.up (R := iPipe K T.Pipeline.C T.Step.C) (kp e5) hv4
        have hw5 := Mono.up (R := iPipe K T.Pipeline.C T.Step.C) (kp e5) hw4
        refine ⟨_, rfl, rdP (pipe_ins hv5) hv5 lp fun z H6 e6 hz => ?_⟩
        cases hz
        have hw6 := Mono.up (R := iPipe K T.Pipeline.C T.Step.C) (kp e6) hw5
        refine ⟨_, rfl, rdP (pipe_ins hw6) hw6 lq fun z H7 e7 hz => ?_⟩
        cases hz
        refine ⟨_, _, _, _, _, _, rfl, rfl, rfl, rfl, ⟨by omega, by omega⟩, fun z H8 e8 hz => ?_⟩
        cases hz
        refine ⟨_, _, _, _, _, _, _, _, rfl, rfl, rfl, rfl, rfl, ⟨by omega, by show 0 ≤ 2 + (Cs.drops r + Cs.fills p) / (1 + Cs.fills p); omega, by show 2 + (Cs.drops r + Cs.fills p) / (1 + Cs.fills p) ≤ 500; omega⟩, fun r9 H9 e9 hr9 => ?_⟩
        have e1m : (1 : Int) + Cs.fills p - 1 = Cs.fills p := by omega
        simp only [e1m] at hr9
        rw [Cs.nf_norm hsn.1] at hr9
        refine mkRow2 (l := []) (v := .ref T.e0) (fun e => emp) (fun _ h => by cases h) (by simp) fun r10 H10 e10 hr10 => ⟨rfl, ?_⟩
        refine ⟨sz2, fun p11 np11 => ?_⟩
        generalize hu : upd _ p11 _ = H11
        obtain ⟨e11, h11⟩ := gnew np11 hu
        exact q _ _ ((((((((e12.trans e3).trans e4).trans e5).trans e6).trans e7).trans e8).trans e9).trans (e10.trans e11)) (i2_of h11 (Mono.up (R := iRow K T.Row.C) (kp (e10.trans e11)) hr9) (Mono.up (R := iRow K T.Row.C) (kp e11) hr10))
end
end Cw
namespace Cw
open PySem PySem.Spec PyProof.Rows L2
open Evl (Ex ex_l ex_t sq_of st_of sz_of sz_lt fresh_back)
open Cs (Pr Stp Line)
section
variable {P : Program} {w : World} {K : PySem.W.Frag} {mg : Str → Option Value} {base : Heap} (T : Top w K mg)
include T
omit T in
theorem tyx_l {H : Hp} {a : Addr} {xs : List V} (h : SqL K H a xs) : TyX K H (.ref a) (.type "list") := by
  rcases h with (h | ⟨o, h⟩) | ⟨o, its, n, h, hc, _⟩
  · exact .base (.lst h)
  · exact .base (.frz h)
  · exact .kList h hc
theorem same0 : FnOk P w K mg base CX0 1 T.law_same.f T.law_same.fd ["_law_got", "_law_goal"] (fun vs H Q _ => ∃ b : Bool, vs = [.bl b, .bl b] ∧ Gives iB true H Q) := by
  refine T.law_same.F.ok sc_law_same (fun vs H Q E h => ?_) (fun cdv A outer s H vs Q E hr h => ?_)
  · obtain ⟨b, rfl, _⟩ := h; rfl
  · obtain ⟨b, rfl, q⟩ := h
    have G : FnOk P w K mg base CX0 0 T.law_same.f T.law_same.fd ["_law_got", "_law_goal"] (fun _ _ _ _ => False) := fnNo
    refine ⟨_, (pss_cons (ps_if (pt_val (pe_callB call_isiT (by rfl) T.b_isinstance (by decide +kernel) (pa_cons (pv 1) (pa_cons (pe_tup (pa_cons (pe_bltn (v := .ty "list") (by rfl) T.b_list (by decide +kernel) rfl) (pa_cons (pe_bltn (v := .ty "tuple") (by rfl) T.b_tuple (by decide +kernel) rfl) pa_nil))) pa_nil)))) (pss_cons (ps_if (PW.pt (pw_or (pt_cmpR op_ne (pe_callB call_isi (by rfl) T.b_isinstance (by decide +kernel) (pa_cons (pv 0) (pa_cons (pe_bltn (v := .ty "list") (by rfl) T.b_list (by decide +kernel) rfl) pa_nil))) (pe_callB call_isi (by rfl) T.b_isinstance (by decide +kernel) (pa_cons (pv 1) (pa_cons (pe_bltn (v := .ty "list") (by rfl) T.b_list (by decide +kernel) rfl) pa_nil))) (nomark _)) (pw_or1 (pt_cmpR op_ne (pe_callB call_isi (by rfl) T.b_isinstance (by decide +kernel) (pa_cons (pv 0) (pa_cons (pe_bltn (v := .ty "tuple") (by rfl) T.b_tuple (by decide +kernel) rfl) pa_nil))) (pe_callB call_isi (by rfl) T.b_isinstance (by decide +kernel) (pa_cons (pv 1) (pa_cons (pe_bltn (v := .ty "tuple") (by rfl) T.b_tuple (by decide +kernel) rfl) pa_nil))) (nomark _))))) (pss_one (ps_ret pe_bl)) pss_nil)
  (pss_one (ps_ret (pe_and (pe_cmpR op_eq (pe_callB call_len_seq (by rfl) T.b_len (by decide +kernel) (pa_cons (pv 0) pa_nil)) (pe_callB call_len_seq (by rfl) T.b_len (by decide +kernel) (pa_cons (pv 1) pa_nil)) (nomark _)) (pe_one (pe_callB (cr_all rfl) (by rfl) T.b_all (by decide +kernel) (pa_cons (pe_lc (own := [("_law_mine_so", 2), ("_law_own", 3)]) (g := (gTup K 2 (gCons (gName 2) (gCons (gName 3) gNil)))) (tt := tYes) rfl sc_law_same.nd (pi_zip (by rfl) T.b_zip (pa_cons (pv 0) (pa_cons (pv 1) pa_nil))) (blkOk_by (own := [("_law_mine_so", 2), ("_law_own", 3)]) (N := ["_law_got", "_law_goal", "_law_mine_so", "_law_own"]) (sc := defScope s_law_same) (by decide +kernel)) (fun _ _ _ _ _ => (pg_tup rfl (pgs_cons (pg_name (i := 2) sc_law_same.nd rfl (Or.inl rfl)) (pgs_cons (pg_name (i := 3) sc_law_same.nd rfl (Or.inl rfl)) pgs_nil)))) (fun _ _ _ _ _ => pts_nil) (fun _ _ _ _ _ => (pe_call G hr (by rfl) T.law_same.g T.law_same.F.kp (b_law_same T) .nil pass0 (pa_cons (pv 2) (pa_cons (pv 3) pa_nil))))) pa_nil))))))) pss_nil)
  (pss_cons (ps_if (PW.pt (pw_or (pt_cmpR op_isN (pv 1) pe_non (nomark _)) (pw_or1 (pt_val (pe_callB call_isiT (by rfl) T.b_isinstance (by decide +kernel) (pa_cons (pv 1) (pa_cons (pe_tup (pa_cons (pe_bltn (v := .ty "bool") (by rfl) T.b_bool (by decide +kernel) rfl) (pa_cons (pe_bltn (v := .ty "str") (by rfl) T.b_str (by decide +kernel) rfl) pa_nil))) pa_nil))))))) (pss_one (ps_ret (pe_and (pe_cmpR op_eq (pv 0) (pv 1) (nomark _)) (pe_and (pe_cmpR op_eq (pe_callB call_isi (by rfl) T.b_isinstance (by decide +kernel) (pa_cons (pv 0) (pa_cons (pe_bltn (v := .ty "bool") (by rfl) T.b_bool (by decide +kernel) rfl) pa_nil))) (pe_callB call_isi (by rfl) T.b_isinstance (by decide +kernel) (pa_cons (pv 1) (pa_cons (pe_bltn (v := .ty "bool") (by rfl) T.b_bool (by decide +kernel) rfl) pa_nil))) (nomark _)) (pe_one (pe_cmpR op_eq (pe_cmpR op_isN (pv 0) pe_non (nomark _)) (pe_cmpR op_isN (pv 1) pe_non (nomark _)) (nomark _))))))) pss_nil)
  (pss_one (ps_ret (pe_and (pe_callB call_isi (by rfl) T.b_isinstance (by decide +kernel) (pa_cons (pv 0) (pa_cons (pe_bltn (v := .ty "int") (by rfl) T.b_int (by decide +kernel) rfl) pa_nil))) (pe_and (pe_not (pe_callB call_isi (by rfl) T.b_isinstance (by decide +kernel) (pa_cons (pv 0) (pa_cons (pe_bltn (v := .ty "bool") (by rfl) T.b_bool (by decide +kernel) rfl) pa_nil)))) (pe_one (pe_cmpR op_eq (pv 0) (pv 1) (nomark _))))))))), ?_⟩
    refine ⟨_, rfl, sz2, fun p np => ?_⟩
    generalize hu : upd _ p _ = H1
    obtain ⟨e1, h1⟩ := gnew np hu
    refine ⟨_, p, _, _, _, false, rfl, h1, .cons (.ty "list") (.cons (.ty "tuple") .nil), .base (.bl _), kit2 (x := false) (y := false) (by decide +kernel) (by decide +kernel), false, rfl, iteF ?_⟩
    refine ⟨_, rfl, rfl, _, rfl, iteN (fun z => by cases z) ?_⟩
    refine ⟨_, rfl, sz2, fun p2 np2 => ?_⟩
    generalize hu : upd _ p2 _ = H2
    obtain ⟨e2, h2⟩ := gnew np2 hu
    refine ⟨_, p2, _, _, _, true, rfl, h2, .cons (.ty "bool") (.cons (.ty "str") .nil), .base (.bl _), kit2 (x := true) (y := false) (by decide +kernel) (by decide +kernel), true, rfl, iteT ?_⟩
    refine ⟨_, rfl, _, rfl, rfl, _, rfl, iteY rfl ?_⟩
    refine ⟨_, rfl, _, _, _, _, true, rfl, .ty _, .base (.bl _), kit_ty (by decide +kernel), _, rfl, _, _, _, _, true, rfl, .ty _, .base (.bl _), kit_ty (by decide +kernel), rfl, _, rfl, iteY rfl ?_⟩
    exact ⟨_, rfl, rfl, _, rfl, rfl, rfl, q _ _ (e1.trans e2) (by show V.bl _ = V.bl true; rw [decide_eq_true rfl])⟩
theorem ok_law_same : FnOk P w K mg base CX0 4 T.law_same.f T.law_same.fd ["_law_got", "_law_goal"] (fun vs H Q _ => ∃ (v u : V) (l : List Bool), vs = [v, u] ∧ iL K iB v H l ∧ iL K iB u H l ∧ l.length ≤ 1000 ∧ Gives iB true H Q) := by
  refine FnOk.mono (j := 2) ?_ (by decide)
  refine T.law_same.F.ok sc_law_same (fun vs H Q E h => ?_) (fun cdv A outer s H vs Q E hr h => ?_)
  · obtain ⟨v, u, l, rfl, _⟩ := h; rfl
  · obtain ⟨v, u, l, rfl, ⟨a, xs, rfl, hS, hA⟩, ⟨b, ys, rfl, hT, hB⟩, hl, q⟩ := h
    rw [all2_bl hA] at hS
    rw [all2_bl hB] at hT
    have G : FnOk P w K mg base CX0 1 T.law_same.f T.law_same.fd ["_law_got", "_law_goal"] _ := same0 T
    refine ⟨_, (pss_cons (ps_if (pt_val (pe_callB call_isiT (by rfl) T.b_isinstance (by decide +kernel) (pa_cons (pv 1) (pa_cons (pe_tup (pa_cons (pe_bltn (v := .ty "list") (by rfl) T.b_list (by decide +kernel) rfl) (pa_cons (pe_bltn (v := .ty "tuple") (by rfl) T.b_tuple (by decide +kernel) rfl) pa_nil))) pa_nil)))) (pss_cons (ps_if (PW.pt (pw_or (pt_cmpR op_ne (pe_callB call_isi (by rfl) T.b_isinstance (by decide +kernel) (pa_cons (pv 0) (pa_cons (pe_bltn (v := .ty "list") (by rfl) T.b_list (by decide +kernel) rfl) pa_nil))) (pe_callB call_isi (by rfl) T.b_isinstance (by decide +kernel) (pa_cons (pv 1) (pa_cons (pe_bltn (v := .ty "list") (by rfl) T.b_list (by decide +kernel) rfl) pa_nil))) (nomark _)) (pw_or1 (pt_cmpR op_ne (pe_callB call_isi (by rfl) T.b_isinstance (by decide +kernel) (pa_cons (pv 0) (pa_cons (pe_bltn (v := .ty "tuple") (by rfl) T.b_tuple (by decide +kernel) rfl) pa_nil))) (pe_callB call_isi (by rfl) T.b_isinstance (by decide +kernel) (pa_cons (pv 1) (pa_cons (pe_bltn (v := .ty "tuple") (by rfl) T.b_tuple (by decide +kernel) rfl) pa_nil))) (nomark _))))) (pss_one (ps_ret pe_bl)) pss_nil)
  (pss_one (ps_ret (pe_and (pe_cmpR op_eq (pe_callB call_len_seq (by rfl) T.b_len (by decide +kernel) (pa_cons (pv 0) pa_nil)) (pe_callB call_len_seq (by rfl) T.b_len (by decide +kernel) (pa_cons (pv 1) pa_nil)) (nomark _)) (pe_one (pe_callB (cr_all rfl) (by rfl) T.b_all (by decide +kernel) (pa_cons (pe_lc (own := [("_law_mine_so", 2), ("_law_own", 3)]) (g := (gTup K 2 (gCons (gName 2) (gCons (gName 3) gNil)))) (tt := tYes) rfl sc_law_same.nd (pi_zip (by rfl) T.b_zip (pa_cons (pv 0) (pa_cons (pv 1) pa_nil))) (blkOk_by (own := [("_law_mine_so", 2), ("_law_own", 3)]) (N := ["_law_got", "_law_goal", "_law_mine_so", "_law_own"]) (sc := defScope s_law_same) (by decide +kernel)) (fun _ _ _ _ _ => (pg_tup rfl (pgs_cons (pg_name (i := 2) sc_law_same.nd rfl (Or.inl rfl)) (pgs_cons (pg_name (i := 3) sc_law_same.nd rfl (Or.inl rfl)) pgs_nil)))) (fun _ _ _ _ _ => pts_nil) (fun _ _ _ _ _ => (pe_call G hr (by rfl) T.law_same.g T.law_same.F.kp (b_law_same T) .nil pass0 (pa_cons (pv 2) (pa_cons (pv 3) pa_nil))))) pa_nil))))))) pss_nil)
  (pss_cons (ps_if (PW.pt (pw_or (pt_cmpR op_isN (pv 1) pe_non (nomark _)) (pw_or1 (pt_val (pe_callB call_isiT (by rfl) T.b_isinstance (by decide +kernel) (pa_cons (pv 1) (pa_cons (pe_tup (pa_cons (pe_bltn (v := .ty "bool") (by rfl) T.b_bool (by decide +kernel) rfl) (pa_cons (pe_bltn (v := .ty "str") (by rfl) T.b_str (by decide +kernel) rfl) pa_nil))) pa_nil))))))) (pss_one (ps_ret (pe_and (pe_cmpR op_eq (pv 0) (pv 1) (nomark _)) (pe_and (pe_cmpR op_eq (pe_callB call_isi (by rfl) T.b_isinstance (by decide +kernel) (pa_cons (pv 0) (pa_cons (pe_bltn (v := .ty "bool") (by rfl) T.b_bool (by decide +kernel) rfl) pa_nil))) (pe_callB call_isi (by rfl) T.b_isinstance (by decide +kernel) (pa_cons (pv 1) (pa_cons (pe_bltn (v := .ty "bool") (by rfl) T.b_bool (by decide +kernel) rfl) pa_nil))) (nomark _)) (pe_one (pe_cmpR op_eq (pe_cmpR op_isN (pv 0) pe_non (nomark _)) (pe_cmpR op_isN (pv 1) pe_non (nomark _)) (nomark _))))))) pss_nil)
  (pss_one (ps_ret (pe_and (pe_callB call_isi (by rfl) T.b_isinstance (by decide +kernel) (pa_cons (pv 0) (pa_cons (pe_bltn (v := .ty "int") (by rfl) T.b_int (by decide +kernel) rfl) pa_nil))) (pe_and (pe_not (pe_callB call_isi (by rfl) T.b_isinstance (by decide +kernel) (pa_cons (pv 0) (pa_cons (pe_bltn (v := .ty "bool") (by rfl) T.b_bool (by decide +kernel) rfl) pa_nil)))) (pe_one (pe_cmpR op_eq (pv 0) (pv 1) (nomark _))))))))), ?_⟩
    refine ⟨_, rfl, sz2, fun p np => ?_⟩
    generalize hu : upd _ p _ = H1
    obtain ⟨e1, h1⟩ := gnew np hu
    have hS1 := ex_l e1 hS
    have hT1 := ex_l e1 hT
    refine ⟨_, p, _, _, _, true, rfl, h1, .cons (.ty "list") (.cons (.ty "tuple") .nil), tyx_l hT1, kit2 (x := true) (y := false) (by decide +kernel) (by decide +kernel), true, rfl, iteT ?_⟩
    refine ⟨_, rfl, _, _, _, _, true, rfl, .ty _, tyx_l hS1, kit_ty (by decide +kernel), _, rfl, _, _, _, _, true, rfl, .ty _, tyx_l hT1, kit_ty (by decide +kernel), rfl, _, rfl, iteF ?_⟩
    refine ⟨_, rfl, _, _, _, _, false, rfl, .ty _, tyx_l hS1, kit_ty (by decide +kernel), _, rfl, _, _, _, _, false, rfl, .ty _, tyx_l hT1, kit_ty (by decide +kernel), rfl, _, rfl, iteF ?_⟩
    refine ⟨_, rfl, a, _, rfl, .inl hS1, _, rfl, b, _, rfl, .inl hT1, rfl, _, rfl, iteY rfl ?_⟩
    refine ⟨_, rfl, _, rfl, a, b, _, _, rfl, hS1, hT1, fun D nD => ?_⟩
    refine lc_it (walk_zip (K := K) (a := a) (b := b) (xs := l.map V.bl) (ys := l.map V.bl) (n := l.length) (by simp)) (fun i H' => Ex H1 H' ∧ i ≤ l.length ∧ H' D = some (.lst (List.replicate i (V.bl true)))) ⟨Evl.Ex.new nD, Nat.zero_le _, upd_same⟩ (fun i H' _ h => ⟨ex_l h.1 hS1, ex_l h.1 hT1⟩) (fun i x H2 H3 hi h y => ?_) (fun H2 h => ?_)
    · obtain ⟨e2, _, hD⟩ := h
      obtain ⟨t, x1, x2, rfl, nt, rfl, h1, h2⟩ := y
      dsimp only at h1 h2
      rw [List.getElem?_map, List.getElem?_eq_getElem hi] at h1 h2
      have h1 : V.bl l[i] = x1 := Option.some.inj h1
      have h2 : V.bl l[i] = x2 := Option.some.inj h2
      subst h1 h2
      refine ⟨t, _, rfl, st_of upd_same, rfl, _, _, rfl, _, _, rfl, rfl, rfl, ?_⟩
      refine ⟨_, rfl, _, rfl, l[i], rfl, fun v H4 e4 hv => ?_⟩
      cases hv
      have e3 : Ex H2 H4 := (Evl.Ex.new nt).trans e4
      refine ⟨_, e3 _ _ hD, sz_lt (by rw [List.length_replicate]; omega), (e2.trans e3).mut nD, hi, ?_⟩
      rw [upd_same, List.replicate_succ']
    · obtain ⟨e2, _, hD⟩ := h
      refine ⟨D, List.replicate l.length true, rfl, sq_of (by rw [List.map_replicate]; exact hD), q _ _ (e1.trans e2) ?_⟩
      show V.bl _ = V.bl true
      congr 1
      simp
end
end Cw
namespace Cw
open PySem PySem.Spec PyProof.Rows L2
open Evl (Ex ex_l ex_t sq_of st_of sz_of sz_lt fresh_back)
open Cs (Pr Stp Line)
section
variable {P : Program} {w : World} {K : PySem.W.Frag} {mg : Str → Option Value} {base : Heap} (T : Top w K mg)
include T
omit T in
theorem pe_callK0 {X : Cx} {CX : CXT} {k : Nat} {f : Addr} {fd : FuncData} {ps ks : List Str} {sp : Sp} {E : XK} {x : Str} {p pos : Pos} {kws : List Keyword} {tk : TA} {g : List Value → List Value → List Value} {gV : List V → List V → List V}
    (F : FnOk X.prog X.w X.K X.mg X.base CX k f fd ps sp) (hr : Room k X.A) (hg : Gl X x) (hm : X.mg x = some (.ref f)) (hk : PySem.W.keepIn X.K (.ref f) = true) (hb : KBinds X.K fd ps ks g gV) (hx : Passes CX X E) (hkw : PK X kws tk)
    (hall : (backToKw pos (keywordEach kws X.env)).all (·.1.isSome) = true := by rfl) (hks : (backToKw pos (keywordEach kws X.env)).filterMap (·.1) = ks := by rfl) (hdb : (x == ("__debug__" : Str)) = false := by decide)
    (hpl : ((backTo pos (starEach [] X.env)).any (·.1) || (backToKw pos (keywordEach kws X.env)).any (·.1.isNone)) = false := by rfl) : PE X (.Call (.Name x p) [] kws pos) (tCallK sp gV E tNil tk) := by
  refine ⟨fun pins s σ H Q I h => ?_⟩
  refine wpAny_Call_Name_kw (ld_glob I hg hm ?_ hdb)
  refine PySem.W.callWith_KW0 (h₀ := X.base) I.ok.mod.kin hk hall ?_ hpl
  refine thn (hkw.run pos pins s σ H _ I h) fun ws s2 ⟨zs, H2, I2, rz, q2⟩ => ⟨I2.kIn, ?_⟩
  rw [hks]
  exact run_fnk (us := []) (vs := []) F hr hb hx I2 .nil rz q2
/-- two keywords, the second parameter's ahead -/
def kwG {α : Type} : List α → List α → List α
  | [], [b, a] => [a, b]
  | _, _ => []
omit T in
theorem kw_len {α : Type} {us ws : List α} (h : (kwG us ws).length = 2) : us = [] ∧ ∃ a b, ws = [b, a] := by
  match us, ws, h with
  | [], [b, a], _ => exact ⟨rfl, a, b, rfl⟩
omit T in
theorem kw_rel {vs : List V} {us : List Value} {zs : List V} {ws : List Value} (h1 : Vals vs us) (h2 : Vals zs ws) : Vals (kwG vs zs) (kwG us ws) := by
  cases h1 with
  | nil =>
    cases h2 with
    | nil => exact .nil
    | cons a h2 =>
      cases h2 with
      | nil => exact .nil
      | cons b h2 =>
        cases h2 with
        | nil => exact .cons b (.cons a .nil)
        | cons c h2 => exact .nil
  | cons a h1 => exact .nil
theorem kb_spare_any : KBinds K T.spare_any.fd ["p", "q"] ["q", "p"] kwG kwG := by
  refine ⟨fun s us ws _ hl => ?_, kw_rel⟩
  obtain ⟨rfl, a, b, rfl⟩ := kw_len hl
  obtain ⟨oc, od, kV, doc, pm, an, cdv, ct, osl, e, _⟩ := T.spare_any.F.ex
  rw [e]
  exact .of_eq rfl
theorem kb_spare_any_rows : KBinds K T.spare_any_rows.fd ["p", "q"] ["q", "p"] kwG kwG := by
  refine ⟨fun s us ws _ hl => ?_, kw_rel⟩
  obtain ⟨rfl, a, b, rfl⟩ := kw_len hl
  obtain ⟨oc, od, kV, doc, pm, an, cdv, ct, osl, e, _⟩ := T.spare_any_rows.F.ex
  rw [e]
  exact .of_eq rfl
omit T in
theorem shown_len {p q : Line} (hd : Cs.drops q ≤ 100) : (Cs.shown p q).1.length ≤ 200 ∧ (Cs.shown p q).2.length ≤ 200 := by
  have dq0 : 0 ≤ Cs.drops q := by rw [Cs.drops_low]; have := Cs.low_np q.sw; omega
  have fp0 : 0 ≤ Cs.fills p := by rw [Cs.fills_high]; exact Cs.high_nn _
  have hm := many_le dq0 fp0
  rw [shown_eq]
  split
  · exact ⟨by simp, by simp⟩
  · split
    · exact ⟨by simp, by simp⟩
    · exact ⟨by rw [Cs.cb_len]; omega, by simp⟩
variable {nC nF : Addr} (nl : NlTxt P K mg nC nF)
include nl
def spRight (K : PySem.W.Frag) : Sp := fun vs H Q _ => ∃ (v u : V) (p q : Line) (g : Bool), vs = [v, u, .bl g] ∧ iLine K v H p ∧ iLine K u H q ∧ p.good ∧ q.good ∧ p.length ≤ 100 ∧ q.length ≤ 100 ∧ Cs.drops q ≤ 100 ∧ Cs.fills p ≤ 100000 ∧ Cs.spareM p q = g ∧ Gives iB true H Q
theorem ok_law_rows_right : FnOk P w K mg base CX0 22 T.law_rows_right.f T.law_rows_right.fd ["_law_mine", "_law_its", "_law_goal"] (spRight K) := by
  refine T.law_rows_right.F.ok sc_law_rows_right (fun vs H Q E h => ?_) (fun cdv A outer s H vs Q E hr h => ?_)
  · obtain ⟨v, u, p, q, g, rfl, _⟩ := h; rfl
  · obtain ⟨v, u, p, r, g, rfl, hv, hw, gp, gq, lp, lq, dq, fp, hsp, q⟩ := h
    refine ⟨_, (pss_cons (ps_par (i := 3) (j := 4) rfl sc_law_rows_right.nd rfl rfl (by decide) rfl rfl (pa_cons (pe_call (ok_law_host T) (hr.mono (by decide)) (by rfl) T.law_host.g T.law_host.F.kp (b_law_host T) .nil pass0 (pa_cons (pv 0) pa_nil)) (pa_cons (pe_call (ok_law_host T) (hr.mono (by decide)) (by rfl) T.law_host.g T.law_host.F.kp (b_law_host T) .nil pass0 (pa_cons (pv 1) pa_nil)) pa_nil)) (by rfl))
  (pss_cons (ps_set (i := 5) sc_law_rows_right.nd rfl (Or.inl rfl) (pe_call (ok_spare_any_rows T nl) (hr.mono (by decide)) (by rfl) T.spare_any_rows.g T.spare_any_rows.F.kp (b_spare_any_rows T) .nil pass0 (pa_cons (pv 3) (pa_cons (pv 4) pa_nil))))
  (pss_cons (ps_if (pt_not (pt_val (pe_call (ok_law_same T) (hr.mono (by decide)) (by rfl) T.law_same.g T.law_same.F.kp (b_law_same T) .nil pass0 (pa_cons (pe_lst (pa_cons (pe_call (ok_spare_any T nl) (hr.mono (by decide)) (by rfl) T.spare_any.g T.spare_any.F.kp (b_spare_any T) .nil pass0 (pa_cons (pv 3) (pa_cons (pv 4) pa_nil))) (pa_cons (pe_callK0 (ok_spare_any T nl) (hr.mono (by decide)) (by rfl) T.spare_any.g T.spare_any.F.kp (kb_spare_any T) pass0 (pk_cons (pv 4) (pk_cons (pv 3) pk_nil))) (pa_cons (pe_cmpR op_isN (pv 5) pe_non (nomark _)) pa_nil)))) (pa_cons (pe_lst (pa_cons (pv 2) (pa_cons (pv 2) (pa_cons (pv 2) pa_nil)))) pa_nil))))) (pss_one (ps_ret pe_bl)) pss_nil)
  (pss_cons (ps_if (pt_val (pv 2)) (pss_one (ps_ret (pe_cmpR op_isN (pe_callK0 (ok_spare_any_rows T nl) (hr.mono (by decide)) (by rfl) T.spare_any_rows.g T.spare_any_rows.F.kp (kb_spare_any_rows T) pass0 (pk_cons (pv 4) (pk_cons (pv 3) pk_nil))) pe_non (nomark _)))) pss_nil)
  (pss_cons (ps_if (PW.pt (pw_or (pt_not (pt_val (pe_callB call_isi (by rfl) T.b_isinstance (by decide +kernel) (pa_cons (pv 5) (pa_cons (pe_bltn (v := .ty "tuple") (by rfl) T.b_tuple (by decide +kernel) rfl) pa_nil))))) (pw_or (pt_cmpR op_ne (pe_callB call_len_seq (by rfl) T.b_len (by decide +kernel) (pa_cons (pv 5) pa_nil)) pe_int (nomark _)) (pw_or1 (pt_not (pt_val (pe_callB (cr_all rfl) (by rfl) T.b_all (by decide +kernel) (pa_cons (pe_lc (own := [("_law_own", 6)]) (g := (gName 6)) (tt := tYes) (te := tCB (rIsi K) _) rfl sc_law_rows_right.nd (pi_tup (pv 5)) (blkOk_by (own := [("_law_own", 6)]) (N := ["_law_mine", "_law_its", "_law_goal", "_law_one_here", "_law_other", "_law_shown", "_law_own"]) (sc := defScope s_law_rows_right) (by decide +kernel)) (fun _ _ _ _ _ => (pg_name (i := 6) sc_law_rows_right.nd rfl (Or.inl rfl))) (fun _ _ _ _ _ => pts_nil) (fun _ _ _ _ _ => (pe_callB call_isi (by rfl) T.b_isinstance (by decide +kernel) (pa_cons (pv 6) (pa_cons (pe_glob (v := .ref T.Row.C) (by rfl) T.Row.g rfl) pa_nil))))) pa_nil)))))))) (pss_one (ps_ret pe_bl)) pss_nil)
  (pss_cons (ps_if (pt_val (pe_call (ok_law_like T) (hr.mono (by decide)) (by rfl) T.law_like.g T.law_like.F.kp (b_law_like T) .nil pass0 (pa_cons (pv 0) (pa_cons (pv 1) (pa_cons (pe_prop (pe_ix ix_tup (pv 5) pe_int (fun _ _ => rfl)) T.Row.cl T.Row_spans.pr (ok_Row_spans T) (hr.mono (by decide)) (b_Row_spans T) .nil pass0 rfl) (pa_cons (pe_prop (pe_ix ix_tup (pv 5) pe_int (fun _ _ => rfl)) T.Row.cl T.Row_spans.pr (ok_Row_spans T) (hr.mono (by decide)) (b_Row_spans T) .nil pass0 rfl) pa_nil)))))) (pss_one (ps_ret pe_bl)) pss_nil)
  (pss_one (ps_ret (pe_call (ok_law_host_right T) (hr.mono (by decide)) (by rfl) T.law_host_right.g T.law_host_right.F.kp (b_law_host_right T) .nil pass0 (pa_cons (pv 3) (pa_cons (pv 4) (pa_cons (pe_ix ix_tup (pv 5) pe_int (fun _ _ => rfl)) (pa_cons (pe_ix ix_tup (pv 5) pe_int (fun _ _ => rfl)) (pa_cons pe_bl pa_nil)))))))))))))), ?_⟩
    refine ⟨_, rfl, v, p, rfl, hv, ⟨gp, by omega⟩, fun a H1 e1 ha => ?_⟩
    refine ⟨_, rfl, u, r, rfl, Mono.up (kp e1) hw, ⟨gq, by omega⟩, fun b H2 e2 hb => ?_⟩
    have ha2 := Mono.up (R := iPipe K T.Pipeline.C T.Step.C) (kp e2) ha
    refine ⟨_, _, rfl, ?_⟩
    have e12 := e1.trans e2
    refine ⟨_, rfl, _, rfl, a, b, p, r, rfl, ha2, hb, lp, lq, dq, fp, fun c H3 e3 => ?_, fun c z H3 e3 hz => ?_⟩
    · rw [c] at hsp
      subst hsp
      have ha3 := Mono.up (R := iPipe K T.Pipeline.C T.Step.C) (kp e3) ha2
      have hb3 := Mono.up (R := iPipe K T.Pipeline.C T.Step.C) (kp e3) hb
      refine ⟨_, rfl, _, rfl, a, p, b, r, rfl, ha3, hb3, ⟨lp, lq⟩, fun y H4 e4 hy => ?_⟩
      rw [c] at hy
      have ha4 := Mono.up (R := iPipe K T.Pipeline.C T.Step.C) (kp e4) ha3
      have hb4 := Mono.up (R := iPipe K T.Pipeline.C T.Step.C) (kp e4) hb3
      refine ⟨_, rfl, _, rfl, a, p, b, r, rfl, ha4, hb4, ⟨lp, lq⟩, fun y2 H5 e5 hy2 => ?_⟩
      rw [c] at hy2
      have e35 := (e3.trans e4).trans e5
      refine ⟨_, rfl, rfl, sz3, fun p6 np6 => ?_⟩
      generalize hu : upd _ p6 _ = H6
      obtain ⟨e6, h6⟩ := gnew np6 hu
      refine ⟨_, rfl, _, rfl, _, rfl, sz3, fun p7 np7 => ?_⟩
      generalize hu : upd _ p7 _ = H7
      obtain ⟨e7, h7⟩ := gnew np7 hu
      refine ⟨_, _, [true, true, true], rfl, iL_of (e7 _ _ h6) ⟨hy, hy2, rfl, trivial⟩, iL_of h7 ⟨rfl, rfl, rfl, trivial⟩, by simp, fun w8 H8 e8 hw8 => ?_⟩
      cases hw8
      refine ⟨true, rfl, iteF ?_⟩
      refine ⟨_, rfl, true, rfl, iteT ?_⟩
      have e48 := (((e4.trans e5).trans e6).trans e7).trans e8
      have e58 := ((e5.trans e6).trans e7).trans e8
      refine ⟨_, rfl, _, rfl, a, b, p, r, rfl, Mono.up (kp e58) ha4, Mono.up (kp e58) hb4, lp, lq, dq, fp, fun _ H9 e9 => ?_, fun c2 => by rw [c] at c2; cases c2⟩
      exact ⟨rfl, q _ _ (((e12.trans e3).trans e48).trans e9) (by show V.bl _ = V.bl true; rw [decide_eq_true rfl])⟩
    · rw [c] at hsp
      subst hsp
      have ns : ¬ Cs.Spare p r := fun y => by rw [(Cs.spareM_iff p r).mpr y] at c; cases c
      have hsn := Cs.shown_norm ns
      have hsl := shown_len (p := p) dq
      have hne := Cs.shown_parts gp gq ns
      obtain ⟨t, x1, x2, rfl, hT, h1, h2⟩ := hz
      have ha3 := Mono.up (R := iPipe K T.Pipeline.C T.Step.C) (kp e3) ha2
      have hb3 := Mono.up (R := iPipe K T.Pipeline.C T.Step.C) (kp e3) hb
      refine ⟨_, rfl, _, rfl, a, p, b, r, rfl, ha3, hb3, ⟨lp, lq⟩, fun y H4 e4 hy => ?_⟩
      rw [c] at hy
      have ha4 := Mono.up (R := iPipe K T.Pipeline.C T.Step.C) (kp e4) ha3
      have hb4 := Mono.up (R := iPipe K T.Pipeline.C T.Step.C) (kp e4) hb3
      refine ⟨_, rfl, _, rfl, a, p, b, r, rfl, ha4, hb4, ⟨lp, lq⟩, fun y2 H5 e5 hy2 => ?_⟩
      rw [c] at hy2
      refine ⟨_, rfl, rfl, sz3, fun p6 np6 => ?_⟩
      generalize hu : upd _ p6 _ = H6
      obtain ⟨e6, h6⟩ := gnew np6 hu
      refine ⟨_, rfl, _, rfl, _, rfl, sz3, fun p7 np7 => ?_⟩
      generalize hu : upd _ p7 _ = H7
      obtain ⟨e7, h7⟩ := gnew np7 hu
      refine ⟨_, _, [false, false, false], rfl, iL_of (e7 _ _ h6) ⟨hy, hy2, rfl, trivial⟩, iL_of h7 ⟨rfl, rfl, rfl, trivial⟩, by simp, fun w8 H8 e8 hw8 => ?_⟩
      cases hw8
      refine ⟨true, rfl, iteF ?_⟩
      refine ⟨_, rfl, false, rfl, iteF ?_⟩
      have e48 := (((e4.trans e5).trans e6).trans e7).trans e8
      have hT8 := e48 _ _ hT
      refine ⟨_, rfl, _, _, _, _, true, rfl, .ty _, tyx_t (st_of hT8), kit_ty (by decide +kernel), true, rfl, iteF ?_⟩
      refine ⟨_, rfl, t, _, rfl, .inr (st_of hT8), rfl, _, rfl, iteNB (fun y => absurd rfl y) fun _ => ?_⟩
      refine ⟨_, rfl, t, rfl, ⟨_, st_of hT8⟩, fun D nD => ?_⟩
      have h18 := Mono.up (R := iRow K T.Row.C) (kp e48) h1
      have h28 := Mono.up (R := iRow K T.Row.C) (kp e48) h2
      refine lcT (R := iRow K T.Row.C) (S := iB) (l := [(Cs.shown p r).1, (Cs.shown p r).2]) (fun _ => some true) (st_of hT8) ⟨h18, h28, trivial⟩ nD (by simp) (fun y d H9 _ e9 hy9 Q1 N1 q1 q2 => ?_) fun H9 ys e9 hD hY => ?_
      · obtain ⟨ra, rdx, ry, rfl, rx, _⟩ := hy9
        exact ⟨rfl, _, rfl, _, _, _, _, true, rfl, .own _, .base (.ins rx T.Row.cl T.row_cls T.cls_get T.cls_tak T.row_mro), if_pos (beq_self_eq_true _), q1 true rfl _ _ (Evl.Ex.refl _) rfl⟩
      rw [all2_bl hY] at hD
      refine ⟨D, _, rfl, sq_of hD, true, rfl, iteF ?_⟩
      have hT9 := e9 _ _ hT8
      have h19 := Mono.up (R := iRow K T.Row.C) (kp e9) h18
      have h29 := Mono.up (R := iRow K T.Row.C) (kp e9) h28
      refine ⟨_, rfl, _, rfl, _, rfl, t, _, 0, x1, rfl, rfl, st_of hT9, rfl, rdP (row_ins h19) h19 trivial fun s1 H10 e10 hs1 => ?_⟩
      have h2a := Mono.up (R := iRow K T.Row.C) (kp e10) h29
      refine ⟨_, rfl, t, _, 1, x2, rfl, rfl, st_of (e10 _ _ hT9), rfl, rdP (row_ins h2a) h2a trivial fun s2 H11 e11 hs2 => ?_⟩
      have e0b := ((((e12.trans e3).trans e48).trans e9).trans e10).trans e11
      refine ⟨_, p, _, r, s1, _, s2, _, rfl, Mono.up (kp e0b) hv, Mono.up (kp e0b) hw, Mono.up (R := iT K (iPr K)) (kp e11) hs1, hs2, ⟨gp, gq, hsn.1, hsn.2, hsl.1, hsl.2⟩, fun w12 H12 e12' hw12 => ?_⟩
      replace hw12 : iB w12 H12 (decide (r.law (Cs.nf (p.law (Cs.shown p r).1 ++ (Cs.shown p r).2)) = r.law (Cs.nf ((Cs.shown p r).1 ++ (Cs.shown p r).2)))) := hw12
      rw [decide_eq_false hne] at hw12
      cases hw12
      refine ⟨false, rfl, iteF ?_⟩
      have e9c := ((e9.trans e10).trans e11).trans e12'
      have hTc := e9c _ _ hT8
      refine ⟨_, rfl, _, rfl, _, rfl, t, _, 0, x1, rfl, rfl, st_of hTc, rfl, _, rfl, t, _, 1, x2, rfl, rfl, st_of hTc, rfl, ?_⟩
      have e3c := (e48.trans e9c)
      refine ⟨_, _, _, _, p, r, _, _, false, rfl, Mono.up (kp e3c) ha3, Mono.up (kp e3c) hb3, Mono.up (kp e9c) h18, Mono.up (kp e9c) h28, gp, gq, hsn.1, hsn.2, hsl.1, hsl.2, fun w13 H13 e13 hw13 => ?_⟩
      rw [decide_eq_false hne, decide_eq_true rfl] at hw13
      exact q w13 H13 (((e12.trans e3).trans e3c).trans e13) hw13
end
end Cw
namespace Cw
open PySem PySem.Spec PyProof.Rows L2
open Cs (Stp Line)
def mkSt (w : Str) : List Int → Option Stp
  | [a] => if w = "fill" then some (.fill a) else if w = "drop" then some (.drop a) else if w = "shift" then some (.shift a) else none
  | [a, b] => if w = "widen" then some (.widen a b) else if w = "trim" then some (.trim a b) else none
  | _ => none
theorem mkSt_ok {w : Str} {ns : List Int} {s : Stp} (h : mkSt w ns = some s) : Stp.kind s = w ∧ s.nums = ns := by
  match ns, h with
  | [a], h =>
    simp only [mkSt] at h
    split at h
    · cases h; rename_i e; exact ⟨e.symm, rfl⟩
    · split at h
      · cases h; rename_i e; exact ⟨e.symm, rfl⟩
      · split at h
        · cases h; rename_i e; exact ⟨e.symm, rfl⟩
        · cases h
  | [a, b], h =>
    simp only [mkSt] at h
    split at h
    · cases h; rename_i e; exact ⟨e.symm, rfl⟩
    · split at h
      · cases h; rename_i e; exact ⟨e.symm, rfl⟩
      · cases h
def rdNums : List Str → Option (List Int)
  | [] => some []
  | s :: r => if s.length ≤ 100 then (PySem.intText? s).bind fun n => (rdNums r).map fun ns => n :: ns else none
def rdStep (b : Str) : Option Stp := if b.length ≤ 100 ∧ (Txt.split b " ").length ≤ 100 then match Txt.split b " " with
    | w :: ws => (rdNums ws).bind fun ns => mkSt w ns
    | [] => none
  else none
def rdAll : List Str → Option Line
  | [] => some []
  | b :: r => (rdStep b).bind fun s => (rdAll r).map fun l => s :: l
def rd (z : Str) : Option Line := if z = "-" then some [] else if z.length ≤ 1000 ∧ (Txt.split z "; ").length ≤ 100 then rdAll (Txt.split z "; ") else none
def handTexts : List (Str × Str) := [("fill 3", "fill 3; drop 2"), ("fill 3", "drop 2; fill 3"), ("fill 3", "drop 1; fill 3"), ("shift 0", "drop 2; fill 3"), ("fill 4", "fill 3; drop 2"), ("widen 1 0", "fill 9"), ("-", "drop 2"), ("shift 1", "-"), ("drop 1", "drop 5"),
  ("widen 1 2; fill 2; trim 1 2", "fill 5; drop 1"), ("widen 1 2; fill 2; trim 1 2", "fill 4"), ("fill 2", "widen 1 1; drop 9"), ("fill 2; drop 1", "fill 2; drop 1"), ("widen 2 0; trim 0 2", "fill 4"), ("fill 0", "drop 1; fill 1")]
theorem rd_hand : handTexts.map (fun x => (rd x.1, rd x.2)) = Cs.handPairs.map fun x => (some x.1, some x.2.1) := by decide +kernel
end Cw
namespace Cw
open PySem PySem.Spec PyProof.Rows L2
open Evl (Ex ex_l ex_t sq_of st_of sz_of sz_lt fresh_back)
open Cs (Pr Stp Line)
section
variable {P : Program} {w : World} {K : PySem.W.Frag} {mg : Str → Option Value} {base : Heap} (T : Top w K mg)
include T
omit T in
theorem all2_str {H : Hp} : ∀ (l : List Str), All2 iS H (l.map V.str) l
  | [] => trivial
  | _ :: r => ⟨rfl, all2_str r⟩
omit T in
theorem rdNums_get : ∀ {l : List Str} {ns : List Int}, rdNums l = some ns → l.map (fun s => (s.length ≤ 100, PySem.intText? s)) = ns.map fun n => (True, some n)
  | [], ns, h => by
    cases h
    rfl
  | s :: r, ns, h => by
    unfold rdNums at h
    by_cases c : s.length ≤ 100
    · rw [if_pos c] at h
      obtain ⟨n, hn, h⟩ := Option.bind_eq_some_iff.mp h
      obtain ⟨ms, hm, rfl⟩ := Option.map_eq_some_iff.mp h
      rw [List.map_cons, List.map_cons, rdNums_get hm, hn, eq_true c]
    · rw [if_neg c] at h; cases h
omit T in
theorem cut1' (xs : List V) : cutV xs (some 1) none = xs.drop 1 := by
  unfold cutV
  rw [show HT.sIx xs.length 0 (some 1) = min 1 xs.length from HT.sIx_nat xs.length 0 1, HT.sIx_none]
  cases xs with
  | nil => rfl
  | cons x r =>
    rw [show min 1 (x :: r).length = 1 by rw [List.length_cons]; omega]
    show List.take ((x :: r).length - 1) r = r
    rw [List.length_cons, Nat.add_sub_cancel, List.take_length]
theorem ok_law_read : FnOk P w K mg base CX0 1 T.law_read.f T.law_read.fd ["_law_text"] (fun vs H Q _ => ∃ (z : Str) (l : Line), vs = [.str z] ∧ rd z = some l ∧ Gives (iLine K) l H Q) := by
  refine T.law_read.F.ok sc_law_read (fun vs H Q E h => ?_) (fun cdv A outer s H vs Q E hr h => ?_)
  · obtain ⟨z, l, rfl, _⟩ := h; rfl
  · obtain ⟨z, l, rfl, hrd, q⟩ := h
    refine ⟨_, (pss_cons (ps_set (i := 1) sc_law_read.nd rfl (Or.inl rfl) (pe_lst pa_nil))
  (pss_cons (ps_for PassesOwn.never rfl (pi_list (pe_ifExp (pt_cmpR op_ne (pv 0) pe_str (nomark _)) (pe_split (pv 0) pe_str) (pe_lst pa_nil))) (pg_name (i := 2) sc_law_read.nd rfl (Or.inl rfl))
  (pss_cons (ps_set (i := 3) sc_law_read.nd rfl (Or.inl rfl) (pe_split (pv 2) pe_str))
  (pss_one (ps_expr (pe_bm PySem.F.plainAttrs_list PySem.F.slot_list_append PySem.F.type_list_append mt_append (pv 1) (pa_cons (pe_tup (pa_cons (pe_ix ix_list (pv 3) pe_int (fun _ _ => rfl)) (pa_cons (pe_callTy call_tuple_of (by rfl) T.b_tuple (by decide +kernel) (pa_cons (pe_lc (own := [("_law_own", 4)]) (g := (gName 4)) (tt := tYes) rfl sc_law_read.nd (pi_list (pe_slice sl_list (pv 3) (po_some pe_int) po_none)) (blkOk_by (own := [("_law_own", 4)]) (N := ["_law_text", "_law_found", "_law_bit", "_law_sign_so", "_law_own"]) (sc := defScope s_law_read) (by decide +kernel)) (fun _ _ _ _ _ => (pg_name (i := 4) sc_law_read.nd rfl (Or.inl rfl))) (fun _ _ _ _ _ => pts_nil) (fun _ _ _ _ _ => (pe_callTy call_int_str (by rfl) T.b_int (by decide +kernel) (pa_cons (pv 4) pa_nil)))) pa_nil)) pa_nil))) pa_nil))))))
  (pss_one (ps_ret (pe_callTy call_tuple_of (by rfl) T.b_tuple (by decide +kernel) (pa_cons (pv 1) pa_nil)))))), ?_⟩
    refine ⟨sz0, fun o no => ?_⟩
    generalize hu : upd _ o _ = H1
    obtain ⟨e1, h1⟩ := gnew no hu
    refine ⟨_, rfl, rfl, _, rfl, ?_⟩
    unfold rd at hrd
    refine iteNB (fun c => ?_) (fun c => ?_)
    · rw [if_neg (fun y => c (congrArg V.str y))] at hrd
      by_cases hz : z.length ≤ 1000 ∧ (Txt.split z "; ").length ≤ 100
      · rw [if_pos hz] at hrd
        refine ⟨_, rfl, ⟨_, rfl⟩, z, "; ", rfl, rfl, by decide +kernel, sz_of (by have := hz.1; omega), fun c nc => ?_⟩
        generalize hu : upd _ c _ = H2
        obtain ⟨e2, h2⟩ := gnew nc hu
        have nco : c ≠ o := fun y => by rw [y, h1] at nc; cases nc
        refine ⟨c, rfl, ⟨_, sq_of h2⟩, ?_⟩
        refine forL (R := iS) (l := Txt.split z "; ") (xs := (Txt.split z "; ").map V.str) (fun r σ' H' => ∃ (F : Line) (ys : List V) (G : Line) (y2 y3 : Option V), σ' = [some (.str z), some (.ref o), y2, y3, none] ∧ Ex H H' ∧ Kp H2 H' ∧ H' c = some (.lst ((Txt.split z "; ").map V.str)) ∧ H' o = some (.lst ys) ∧ All2 (iSt K) H' ys F ∧ F.length + r.length ≤ 100 ∧ rdAll r = some G ∧ F ++ G = l)
          (all2_str _) ⟨[], [], l, none, none, rfl, e1.trans e2, Kp.refl _, h2, e2 _ _ h1, trivial, by simpa using hz.2, hrd, rfl⟩ (fun r σ' H' h => ?_) (fun pre d r x σ' H' el hx h => ?_) (fun σ' H' h => ?_)
        · obtain ⟨F, ys, G, y2, y3, rfl, eH, kH, hc, ho, hF, hn, hr, hf⟩ := h
          exact ⟨kH, sq_of hc⟩
        · obtain ⟨F, ys, G, y2, y3, rfl, eH, kH, hc, ho, hF, hn, hr2, hf⟩ := h
          cases hx
          have hn' : F.length + r.length + 1 ≤ 100 := by simpa [Nat.add_assoc] using hn
          unfold rdAll at hr2
          obtain ⟨st, hst, hr2⟩ := Option.bind_eq_some_iff.mp hr2
          obtain ⟨G2, hG2, rfl⟩ := Option.map_eq_some_iff.mp hr2
          unfold rdStep at hst
          by_cases hd : d.length ≤ 100 ∧ (Txt.split d " ").length ≤ 100
          · rw [if_pos hd] at hst
            refine ⟨_, rfl, ⟨_, rfl⟩, d, " ", rfl, rfl, by decide +kernel, sz_of (by have := hd.1; omega), fun w nw => ?_⟩
            generalize hu : upd _ w _ = H3
            obtain ⟨e3, h3⟩ := gnew nw hu
            have hlw := hd.2
            revert hst h3 hlw
            generalize Txt.split d " " = ws
            intro hst h3 hlw
            cases ws with
            | nil => cases hst
            | cons k ws =>
              obtain ⟨ns, hns, hmk⟩ := Option.bind_eq_some_iff.mp hst
              obtain ⟨hk, hnum⟩ := mkSt_ok hmk
              have hg := rdNums_get hns
              refine ⟨_, rfl, .inl ⟨rfl, _, sq_of (e3 _ _ ho)⟩, _, rfl, w, _, 0, .str k, rfl, rfl, sq_of h3, atI_nat (j := 0) rfl, ?_⟩
              refine ⟨_, rfl, 1, rfl, w, _, rfl, sq_of h3, fun v nv => ?_⟩
              rw [cut1']
              generalize hu : upd _ v _ = H4
              obtain ⟨e4, h4⟩ := gnew nv hu
              replace h4 : H4 v = some (.lst (ws.map V.str)) := h4
              refine ⟨v, rfl, ⟨_, sq_of h4⟩, fun D nD => ?_⟩
              refine lcL (R := iS) (S := iI) (l := ws) (fun s => PySem.intText? s) (sq_of h4) (all2_str _) nD (by simp at hlw; omega) (fun y s H5 hs e5 hy Q1 N1 q1 q2 => ?_) fun H5 zs e5 hD hY => ?_
              · cases hy
                obtain ⟨i, hi, ei⟩ := List.getElem_of_mem hs
                have g1 := congrArg (fun l => l[i]?) hg
                rw [List.getElem?_map, List.getElem?_map, List.getElem?_eq_getElem hi, ei] at g1
                obtain ⟨n, _, en⟩ := Option.map_eq_some_iff.mp g1.symm
                have en := Prod.mk.inj en
                refine ⟨rfl, _, rfl, s, n, rfl, en.2.symm, ?_, q1 n en.2.symm _ _ (Evl.Ex.refl _) rfl⟩
                have : s.length ≤ 100 := by rw [← en.1]; trivial
                omega
              have hfm : ws.filterMap (fun s => PySem.intText? s) = ns := by
                have := congrArg (fun l => l.filterMap fun p => p.2) hg
                simpa [List.filterMap_map, Function.comp_def] using this
              rw [hfm, ← hnum] at hY
              have e35 := (e3.trans e4).trans e5
              refine ⟨D, _, rfl, .inl ⟨sq_of hD, fun p6 np6 => ?_⟩⟩
              generalize hu : upd _ p6 _ = H6
              obtain ⟨e6, h6⟩ := gnew np6 hu
              refine ⟨sz2, fun p7 np7 => ?_⟩
              generalize hu : upd _ p7 _ = H7
              obtain ⟨e7, h7⟩ := gnew np7 hu
              have e37 := (e35.trans e6).trans e7
              refine ⟨o, _, _, rfl, rfl, e37 _ _ ho, sz_lt (by rw [hF.len]; omega), ?_⟩
              generalize hu : upd _ o _ = H8
              obtain ⟨e8, k8, h8⟩ := gset (eH.trans e37) no (e37 _ _ ho) hu
              have hc8 : H8 c = some (.lst ((Txt.split z "; ").map V.str)) := by rw [← hu, upd_ne nco]; exact e37 _ _ hc
              have yst : iSt K (.ref p7) H7 st := i2_of h7 (congrArg V.str hk.symm) (Mono.up (R := iT K iI) (kp e7) (iT_of h6 (hY.up (kp e6))))
              refine ⟨F ++ [st], _, G2, _, _, rfl, e8, (kH.trans (kp e37)).trans k8, hc8, h8, ((hF.up (kp e37)).up k8).snoc (Mono.up (R := iSt K) k8 yst), by simp; omega, hG2, ?_⟩
              rw [← hf, List.append_assoc]; rfl
          · rw [if_neg hd] at hst; cases hst
        · obtain ⟨F, ys, G, y2, y3, rfl, eH, kH, hc, ho, hF, hn, hr, hf⟩ := h
          cases hr
          rw [List.append_nil] at hf
          refine ⟨_, rfl, o, _, rfl, .inl ⟨sq_of ho, fun p np => ?_⟩⟩
          generalize hu : upd _ p _ = H3
          obtain ⟨e3, h3⟩ := gnew np hu
          exact q _ _ (eH.trans e3) (hf ▸ iT_of h3 (hF.up (kp e3)))
      · rw [if_neg hz] at hrd; cases hrd
    · rw [if_pos (V.str.inj c)] at hrd
      cases hrd
      refine ⟨sz0, fun c nc => ?_⟩
      generalize hu : upd _ c _ = H2
      obtain ⟨e2, h2⟩ := gnew nc hu
      refine ⟨c, rfl, ⟨_, sq_of h2⟩, ?_⟩
      refine forL (R := iS) (l := []) (xs := []) (fun r σ' H' => ∃ (y2 y3 : Option V), σ' = [some (.str z), some (.ref o), y2, y3, none] ∧ H' = H2 ∧ r = []) trivial ⟨none, none, rfl, rfl, rfl⟩ (fun r σ' H' h => ?_) (fun pre d r x σ' H' el hx h => ?_) (fun σ' H' h => ?_)
      · obtain ⟨y2, y3, rfl, rfl, _⟩ := h
        exact ⟨Kp.refl _, sq_of h2⟩
      · obtain ⟨y2, y3, _, _, e⟩ := h
        cases e
      · obtain ⟨y2, y3, rfl, rfl, _⟩ := h
        refine ⟨_, rfl, o, [], rfl, .inl ⟨sq_of (e2 _ _ h1), fun p np => ?_⟩⟩
        generalize hu : upd _ p _ = H3
        obtain ⟨e3, h3⟩ := gnew np hu
        exact q _ _ ((e1.trans e2).trans e3) (iT_nil h3)
end
end Cw
namespace Cw
open PySem PySem.Spec PyProof.Rows L2
open Evl (Ex ex_l ex_t sq_of st_of sz_of sz_lt fresh_back)
open Cs (Pr Stp Line)
section
variable {P : Program} {w : World} {K : PySem.W.Frag} {mg : Str → Option Value} {base : Heap} (T : Top w K mg)
include T
omit T in
def retScope (s : Stmt) : Scope := match defBody s with
  | [.Return (some (.Call _ [.ListComp _ _ sc _] _ _)) _] => sc
  | _ => defScope s
/-- tuple(xs) as the layer asks it -/
abbrev rTupOf (K : PySem.W.Frag) : List V → Hp → VK → Prop := fun xs H Q => ∃ p ys, xs = [.ref p] ∧ ((SqL K H p ys ∧ ∀ l, H l = none → Q (.ref l) (upd H l (.tup ys))) ∨ (SqT K H p ys ∧ Q (.ref p) H))
omit T in
theorem times_kind (n : Int) (s : Stp) : Stp.kind (s.times n) = Stp.kind s ∧ (s.times n).nums = s.nums.map (· * n) := by cases s <;> exact ⟨rfl, rfl⟩
theorem ok_law_great : FnOk P w K mg base CX0 1 T.law_great.f T.law_great.fd ["_law_line_here"] (sp1 (iLine K) (iLine K) (fun l => l.length ≤ 100 ∧ ∀ s ∈ l, ∀ n ∈ s.nums, -1000 ≤ n ∧ n ≤ 1000) Cs.great) := by
  refine T.law_great.F.ok sc_law_great (fun vs H Q E h => ?_) (fun cdv A outer s H vs Q E hr h => ?_)
  · obtain ⟨v, d, rfl, _⟩ := h; rfl
  · obtain ⟨v, l, rfl, ⟨a, xs, rfl, hS, hA⟩, ⟨hl, hb⟩, q⟩ := h
    refine ⟨_, (pss_one (ps_ret (pe_callTy call_tuple_of (by rfl) T.b_tuple (by decide +kernel) (pa_cons (pe_lc (own := [("_law_sort_so", 1), ("_law_nums_so", 2)]) (g := (gTup K 2 (gCons (gName 1) (gCons (gName 2) gNil)))) (tt := tYes) (te := tTup (tCons _ (tCons (tCB (rTupOf K) (tCons (tLc (iTup K _) _ _ _ _) tNil)) tNil))) rfl sc_law_great.nd (pi_tup (pv 0)) (blkOk_by (own := [("_law_sort_so", 1), ("_law_nums_so", 2)]) (N := ["_law_line_here", "_law_sort_so", "_law_nums_so", "_law_own"]) (sc := defScope s_law_great) (by decide +kernel)) (fun _ _ _ _ _ => (pg_tup rfl (pgs_cons (pg_name (i := 1) sc_law_great.nd rfl (Or.inl rfl)) (pgs_cons (pg_name (i := 2) sc_law_great.nd rfl (Or.inl rfl)) pgs_nil)))) (fun _ _ _ _ _ => pts_nil) (fun _ _ _ _ _ => (pe_tup (pa_cons (pv 1) (pa_cons (pe_callTy call_tuple_of (by rfl) T.b_tuple (by decide +kernel) (pa_cons (pe_lc (own := [("_law_own", 3)]) (g := (gName 3)) (tt := tYes) rfl sc_law_great.nd (pi_tup (pv 2)) (blkOk_by (own := [("_law_own", 3)]) (N := ["_law_line_here", "_law_sort_so", "_law_nums_so", "_law_own"]) (sc := retScope s_law_great) (by decide +kernel)) (fun _ _ _ _ _ => (pg_name (i := 3) sc_law_great.nd rfl (Or.inl rfl))) (fun _ _ _ _ _ => pts_nil) (fun _ _ _ _ _ => (pe_op op_mul (pv 3) (pe_op op_pow pe_int pe_int)))) pa_nil)) pa_nil))))) pa_nil)))), ?_⟩
    refine ⟨_, rfl, a, rfl, ⟨_, hS⟩, fun D nD => ?_⟩
    refine lcT (R := iSt K) (S := iSt K) (l := l) (fun s => some (s.times (10 ^ 38))) hS hA nD (by omega) (fun z d H2 hd e2 hz Q1 N1 q1 q2 => ?_) fun H2 ys e2 hD hY => ?_
    · obtain ⟨t, y, rfl, hT, ⟨b, us, rfl, hB, hU⟩⟩ := st_at hz
      refine ⟨t, _, rfl, st_of hT, rfl, _, _, rfl, _, _, rfl, rfl, rfl, ?_⟩
      refine ⟨_, rfl, _, rfl, b, rfl, ⟨_, hB⟩, fun D3 nD3 => ?_⟩
      refine lcT (R := iI) (S := iI) (l := d.nums) (fun n => some (n * 10 ^ 38)) hB hU nD3 (by have := (stp_len d).2; omega) (fun z n H3 hn e3 hz Q2 N2 q3 q4 => ?_) fun H3 ys3 e3 hD3 hY3 => ?_
      · cases hz
        have := hb d hd n hn
        exact ⟨rfl, _, rfl, _, _, rfl, rfl, ⟨by omega, by omega, by omega⟩, _, _, rfl, rfl, .inl ⟨by omega, by omega⟩, q3 _ rfl _ _ (Evl.Ex.refl _) rfl⟩
      rw [List.filterMap_eq_map', ← (times_kind (10 ^ 38) d).2] at hY3
      refine ⟨D3, _, rfl, .inl ⟨sq_of hD3, fun p np => ?_⟩⟩
      generalize hu : upd _ p _ = H4
      obtain ⟨e4, h4⟩ := gnew np hu
      refine ⟨sz2, fun p5 np5 => ?_⟩
      generalize hu : upd _ p5 _ = H5
      obtain ⟨e5, h5⟩ := gnew np5 hu
      exact q1 _ rfl _ _ ((e3.trans e4).trans e5) (i2_of h5 (congrArg V.str (times_kind (10 ^ 38) d).1.symm) (Mono.up (R := iT K iI) (kp e5) (iT_of h4 (hY3.up (kp e4)))))
    rw [List.filterMap_eq_map'] at hY
    refine ⟨D, _, rfl, .inl ⟨sq_of hD, fun p np => ?_⟩⟩
    generalize hu : upd _ p _ = H3
    obtain ⟨e3, h3⟩ := gnew np hu
    exact q _ _ (e2.trans e3) (iT_of h3 (hY.up (kp e3)))
omit T in
def goodB : Stp → Bool
  | .fill g => decide (0 ≤ g)
  | .drop g => decide (0 ≤ g)
  | .widen a b => decide (0 ≤ a) && decide (0 ≤ b)
  | .trim a b => decide (0 ≤ a) && decide (0 ≤ b)
  | .shift _ => true
omit T in
theorem goodB_ok {s : Stp} (h : goodB s = true) : s.good ∧ (s.times (10 ^ 38)).good := by
  cases s with
  | fill g => have h : 0 ≤ g := of_decide_eq_true h; exact ⟨h, by show 0 ≤ g * 10 ^ 38; omega⟩
  | drop g => have h : 0 ≤ g := of_decide_eq_true h; exact ⟨h, by show 0 ≤ g * 10 ^ 38; omega⟩
  | widen a b =>
    obtain ⟨h1, h2⟩ := Bool.and_eq_true_iff.mp h
    have h1 : 0 ≤ a := of_decide_eq_true h1
    have h2 : 0 ≤ b := of_decide_eq_true h2
    exact ⟨⟨h1, h2⟩, by show 0 ≤ a * 10 ^ 38; omega, by show 0 ≤ b * 10 ^ 38; omega⟩
  | trim a b =>
    obtain ⟨h1, h2⟩ := Bool.and_eq_true_iff.mp h
    have h1 : 0 ≤ a := of_decide_eq_true h1
    have h2 : 0 ≤ b := of_decide_eq_true h2
    exact ⟨⟨h1, h2⟩, by show 0 ≤ a * 10 ^ 38; omega, by show 0 ≤ b * 10 ^ 38; omega⟩
  | shift n => exact ⟨trivial, trivial⟩
/-- a case by hand: two texts and what is due -/
abbrev Tri := Str × Str × Bool
def lnB (l : Line) : Bool := l.all (fun s => goodB s && s.nums.all fun n => decide (-1000 ≤ n ∧ n ≤ 1000)) && decide (l.length ≤ 100)
def triB (x : Tri) : Bool := match rd x.1, rd x.2.1 with
  | some p, some q => (Cs.spareM p q == x.2.2) && (Cs.spareM (Cs.great p) (Cs.great q) == x.2.2) && lnB p && lnB q && decide (Cs.drops q ≤ 100) && decide (Cs.fills p ≤ 100000)
  | _, _ => false
omit T in
theorem lnB_ok {l : Line} (h : lnB l = true) : l.good ∧ (Cs.great l).good ∧ l.length ≤ 100 ∧ (Cs.great l).length ≤ 100 ∧ ∀ s ∈ l, ∀ n ∈ s.nums, -1000 ≤ n ∧ n ≤ 1000 := by
  obtain ⟨h1, h2⟩ := Bool.and_eq_true_iff.mp h
  have h1 := List.all_eq_true.mp h1
  have h2 := of_decide_eq_true h2
  refine ⟨fun s hs => (goodB_ok (Bool.and_eq_true_iff.mp (h1 s hs)).1).1, fun s hs => ?_, h2, by unfold Cs.great; rw [List.length_map]; exact h2, fun s hs n hn => of_decide_eq_true (List.all_eq_true.mp (Bool.and_eq_true_iff.mp (h1 s hs)).2 n hn)⟩
  obtain ⟨s0, hs0, rfl⟩ := List.mem_map.mp hs
  exact (goodB_ok (Bool.and_eq_true_iff.mp (h1 s0 hs0)).1).2
omit T in
theorem triB_ok {x : Tri} (h : triB x = true) : ∃ p q, rd x.1 = some p ∧ rd x.2.1 = some q ∧ Cs.spareM p q = x.2.2 ∧ Cs.spareM (Cs.great p) (Cs.great q) = x.2.2 ∧ lnB p = true ∧ lnB q = true ∧ Cs.drops q ≤ 100 ∧ Cs.fills p ≤ 100000 := by
  unfold triB at h
  cases e1 : rd x.1 with
  | none => rw [e1] at h; cases h
  | some p =>
    cases e2 : rd x.2.1 with
    | none => rw [e1, e2] at h; cases h
    | some q =>
      rw [e1, e2] at h
      simp only [Bool.and_eq_true, decide_eq_true_eq, beq_iff_eq] at h
      obtain ⟨⟨⟨⟨⟨h1, h2⟩, h3⟩, h4⟩, h5⟩, h6⟩ := h
      exact ⟨p, q, rfl, rfl, h1, h2, h3, h4, h5, h6⟩
def hands : List Tri := [("fill 3", "fill 3; drop 2", true), ("fill 3", "drop 2; fill 3", false), ("fill 3", "drop 1; fill 3", false), ("shift 0", "drop 2; fill 3", true), ("fill 4", "fill 3; drop 2", false), ("widen 1 0", "fill 9", false), ("-", "drop 2", true),
  ("shift 1", "-", false), ("drop 1", "drop 5", false), ("widen 1 2; fill 2; trim 1 2", "fill 5; drop 1", true), ("widen 1 2; fill 2; trim 1 2", "fill 4", false), ("fill 2", "widen 1 1; drop 9", true), ("fill 2; drop 1", "fill 2; drop 1", false), ("widen 2 0; trim 0 2", "fill 4", false), ("fill 0", "drop 1; fill 1", true)]
omit T in
theorem hands_ok : ∀ x ∈ hands, triB x = true := by
  have h : hands.all triB = true := by decide +kernel
  exact fun x hx => List.all_eq_true.mp h x hx
def iTri : Rp Tri := fun v H x => ∃ a, v = .ref a ∧ H a = some (.tup [.str x.1, .str x.2.1, .bl x.2.2])
instance : Mono iTri := ⟨fun e ⟨a, hv, h⟩ => ⟨a, hv, kp_tu e h⟩⟩
end
end Cw
namespace Cw
open PySem PySem.Spec PyProof.Rows L2
open Evl (Ex ex_l ex_t sq_of st_of sz_of sz_lt fresh_back)
open Cs (Pr Stp Line)
section
variable {P : Program} {w : World} {K : PySem.W.Frag} {mg : Str → Option Value} {base : Heap} (T : Top w K mg)
include T
omit T in
theorem Sm_ex {H H' : Hp} (e : Ex H H') : Ex H H' := e
variable {nC nF : Addr} (nl : NlTxt P K mg nC nF)
include nl
theorem ok_law_by_hand_right : FnOk P w K mg base CX0 25 T.law_by_hand_right.f T.law_by_hand_right.fd [] (fun vs H Q _ => vs = [] ∧ Gives iB true H Q) := by
  refine T.law_by_hand_right.F.ok sc_law_by_hand_right (fun vs H Q E h => ?_) (fun cdv A outer s H vs Q E hr h => ?_)
  · obtain ⟨rfl, _⟩ := h; rfl
  · obtain ⟨rfl, q⟩ := h
    refine ⟨_, (pss_cons (ps_set (i := 0) sc_law_by_hand_right.nd rfl (Or.inl rfl) (pe_lst (pa_cons (pe_tup (pa_cons pe_str (pa_cons pe_str (pa_cons pe_bl pa_nil)))) (pa_cons (pe_tup (pa_cons pe_str (pa_cons pe_str (pa_cons pe_bl pa_nil)))) pa_nil))))
  (pss_cons (ps_set (i := 0) sc_law_by_hand_right.nd rfl (Or.inl rfl) (pe_op op_cat (pv 0) (pe_lst (pa_cons (pe_tup (pa_cons pe_str (pa_cons pe_str (pa_cons pe_bl pa_nil)))) (pa_cons (pe_tup (pa_cons pe_str (pa_cons pe_str (pa_cons pe_bl pa_nil)))) pa_nil)))))
  (pss_cons (ps_set (i := 0) sc_law_by_hand_right.nd rfl (Or.inl rfl) (pe_op op_cat (pv 0) (pe_lst (pa_cons (pe_tup (pa_cons pe_str (pa_cons pe_str (pa_cons pe_bl pa_nil)))) pa_nil))))
  (pss_cons (ps_set (i := 0) sc_law_by_hand_right.nd rfl (Or.inl rfl) (pe_op op_cat (pv 0) (pe_lst (pa_cons (pe_tup (pa_cons pe_str (pa_cons pe_str (pa_cons pe_bl pa_nil)))) (pa_cons (pe_tup (pa_cons pe_str (pa_cons pe_str (pa_cons pe_bl pa_nil)))) pa_nil)))))
  (pss_cons (ps_set (i := 0) sc_law_by_hand_right.nd rfl (Or.inl rfl) (pe_op op_cat (pv 0) (pe_lst (pa_cons (pe_tup (pa_cons pe_str (pa_cons pe_str (pa_cons pe_bl pa_nil)))) (pa_cons (pe_tup (pa_cons pe_str (pa_cons pe_str (pa_cons pe_bl pa_nil)))) pa_nil)))))
  (pss_cons (ps_set (i := 0) sc_law_by_hand_right.nd rfl (Or.inl rfl) (pe_op op_cat (pv 0) (pe_lst (pa_cons (pe_tup (pa_cons pe_str (pa_cons pe_str (pa_cons pe_bl pa_nil)))) pa_nil))))
  (pss_cons (ps_set (i := 0) sc_law_by_hand_right.nd rfl (Or.inl rfl) (pe_op op_cat (pv 0) (pe_lst (pa_cons (pe_tup (pa_cons pe_str (pa_cons pe_str (pa_cons pe_bl pa_nil)))) pa_nil))))
  (pss_cons (ps_set (i := 0) sc_law_by_hand_right.nd rfl (Or.inl rfl) (pe_op op_cat (pv 0) (pe_lst (pa_cons (pe_tup (pa_cons pe_str (pa_cons pe_str (pa_cons pe_bl pa_nil)))) pa_nil))))
  (pss_cons (ps_set (i := 0) sc_law_by_hand_right.nd rfl (Or.inl rfl) (pe_op op_cat (pv 0) (pe_lst (pa_cons (pe_tup (pa_cons pe_str (pa_cons pe_str (pa_cons pe_bl pa_nil)))) pa_nil))))
  (pss_cons (ps_set (i := 0) sc_law_by_hand_right.nd rfl (Or.inl rfl) (pe_op op_cat (pv 0) (pe_lst (pa_cons (pe_tup (pa_cons pe_str (pa_cons pe_str (pa_cons pe_bl pa_nil)))) (pa_cons (pe_tup (pa_cons pe_str (pa_cons pe_str (pa_cons pe_bl pa_nil)))) pa_nil)))))
  (pss_cons (ps_for PassesOwn.never rfl (pi_list (pv 0)) (pg_tup rfl (pgs_cons (pg_name (i := 1) sc_law_by_hand_right.nd rfl (Or.inl rfl)) (pgs_cons (pg_name (i := 2) sc_law_by_hand_right.nd rfl (Or.inl rfl)) (pgs_cons (pg_name (i := 3) sc_law_by_hand_right.nd rfl (Or.inl rfl)) pgs_nil))))
  (pss_cons (ps_par (i := 4) (j := 5) rfl sc_law_by_hand_right.nd rfl rfl (by decide) rfl rfl (pa_cons (pe_call (ok_law_read T) (hr.mono (by decide)) (by rfl) T.law_read.g T.law_read.F.kp (b_law_read T) .nil pass0 (pa_cons (pv 1) pa_nil)) (pa_cons (pe_call (ok_law_read T) (hr.mono (by decide)) (by rfl) T.law_read.g T.law_read.F.kp (b_law_read T) .nil pass0 (pa_cons (pv 2) pa_nil)) pa_nil)) (by rfl))
  (pss_cons (ps_if (pt_not (pt_val (pe_call (ok_law_rows_right T nl) (hr.mono (by decide)) (by rfl) T.law_rows_right.g T.law_rows_right.F.kp (b_law_rows_right T) .nil pass0 (pa_cons (pv 4) (pa_cons (pv 5) (pa_cons (pv 3) pa_nil)))))) (pss_one (ps_ret pe_bl)) pss_nil)
  (pss_one (ps_if (pt_cmpR op_ne (pe_call (ok_spare_any T nl) (hr.mono (by decide)) (by rfl) T.spare_any.g T.spare_any.F.kp (b_spare_any T) .nil pass0 (pa_cons (pe_call (ok_law_host T) (hr.mono (by decide)) (by rfl) T.law_host.g T.law_host.F.kp (b_law_host T) .nil pass0 (pa_cons (pe_call (ok_law_great T) (hr.mono (by decide)) (by rfl) T.law_great.g T.law_great.F.kp (b_law_great T) .nil pass0 (pa_cons (pv 4) pa_nil)) pa_nil)) (pa_cons (pe_call (ok_law_host T) (hr.mono (by decide)) (by rfl) T.law_host.g T.law_host.F.kp (b_law_host T) .nil pass0 (pa_cons (pe_call (ok_law_great T) (hr.mono (by decide)) (by rfl) T.law_great.g T.law_great.F.kp (b_law_great T) .nil pass0 (pa_cons (pv 5) pa_nil)) pa_nil)) pa_nil))) (pv 3) (nomark _)) (pss_one (ps_ret pe_bl)) pss_nil)))))
  (pss_one (ps_ret pe_bl))))))))))))), ?_⟩
    refine ⟨sz3, fun t0x0 nt0x0 => ?_⟩
    generalize hu : upd _ t0x0 _ = H1
    obtain ⟨e1, ht0x0⟩ := gnew nt0x0 hu
    refine ⟨sz3, fun t0x1 nt0x1 => ?_⟩
    generalize hu : upd _ t0x1 _ = H2
    obtain ⟨e2, ht0x1⟩ := gnew nt0x1 hu
    refine ⟨sz2, fun l0 nl0 => ?_⟩
    generalize hu : upd _ l0 _ = H3
    obtain ⟨e3, hl0⟩ := gnew nl0 hu
    have y0 : All2 iTri H3 [.ref t0x0, .ref t0x1] [("fill 3", "fill 3; drop 2", true), ("fill 3", "drop 2; fill 3", false)] := ⟨⟨t0x0, rfl, (e3 _ _ (e2 _ _ ht0x0))⟩, ⟨t0x1, rfl, (e3 _ _ ht0x1)⟩, trivial⟩
    have g0 : H3 l0 = _ := hl0
    have z0 := y0
    refine ⟨_, rfl, sz3, fun t1x0 nt1x0 => ?_⟩
    generalize hu : upd _ t1x0 _ = H4
    obtain ⟨e4, ht1x0⟩ := gnew nt1x0 hu
    refine ⟨sz3, fun t1x1 nt1x1 => ?_⟩
    generalize hu : upd _ t1x1 _ = H5
    obtain ⟨e5, ht1x1⟩ := gnew nt1x1 hu
    refine ⟨sz2, fun l1 nl1 => ?_⟩
    generalize hu : upd _ l1 _ = H6
    obtain ⟨e6, hl1⟩ := gnew nl1 hu
    have y1 : All2 iTri H6 [.ref t1x0, .ref t1x1] [("fill 3", "drop 1; fill 3", false), ("shift 0", "drop 2; fill 3", true)] := ⟨⟨t1x0, rfl, (e6 _ _ (e5 _ _ ht1x0))⟩, ⟨t1x1, rfl, (e6 _ _ ht1x1)⟩, trivial⟩
    refine ⟨l0, l1, _, _, rfl, rfl, (e6 _ _ (e5 _ _ (e4 _ _ g0))), hl1, sz_of (by show 2 + 2 ≤ 100000; decide), fun c1 nc1 => ?_⟩
    generalize hu : upd _ c1 _ = H7
    obtain ⟨e7, g1⟩ := gnew nc1 hu
    have z1 := (z0.up (kp (((e4.trans e5).trans e6).trans e7))).app (y1.up (kp e7))
    refine ⟨_, rfl, sz3, fun t2x0 nt2x0 => ?_⟩
    generalize hu : upd _ t2x0 _ = H8
    obtain ⟨e8, ht2x0⟩ := gnew nt2x0 hu
    refine ⟨sz1, fun l2 nl2 => ?_⟩
    generalize hu : upd _ l2 _ = H9
    obtain ⟨e9, hl2⟩ := gnew nl2 hu
    have y2 : All2 iTri H9 [.ref t2x0] [("fill 4", "fill 3; drop 2", false)] := ⟨⟨t2x0, rfl, (e9 _ _ ht2x0)⟩, trivial⟩
    refine ⟨c1, l2, _, _, rfl, rfl, (e9 _ _ (e8 _ _ g1)), hl2, sz_of (by show 4 + 1 ≤ 100000; decide), fun c2 nc2 => ?_⟩
    generalize hu : upd _ c2 _ = H10
    obtain ⟨e10, g2⟩ := gnew nc2 hu
    have z2 := (z1.up (kp ((e8.trans e9).trans e10))).app (y2.up (kp e10))
    refine ⟨_, rfl, sz3, fun t3x0 nt3x0 => ?_⟩
    generalize hu : upd _ t3x0 _ = H11
    obtain ⟨e11, ht3x0⟩ := gnew nt3x0 hu
    refine ⟨sz3, fun t3x1 nt3x1 => ?_⟩
    generalize hu : upd _ t3x1 _ = H12
    obtain ⟨e12, ht3x1⟩ := gnew nt3x1 hu
    refine ⟨sz2, fun l3 nl3 => ?_⟩
    generalize hu : upd _ l3 _ = H13
    obtain ⟨e13, hl3⟩ := gnew nl3 hu
    have y3 : All2 iTri H13 [.ref t3x0, .ref t3x1] [("widen 1 0", "fill 9", false), ("-", "drop 2", true)] := ⟨⟨t3x0, rfl, (e13 _ _ (e12 _ _ ht3x0))⟩, ⟨t3x1, rfl, (e13 _ _ ht3x1)⟩, trivial⟩
    refine ⟨c2, l3, _, _, rfl, rfl, (e13 _ _ (e12 _ _ (e11 _ _ g2))), hl3, sz_of (by show 5 + 2 ≤ 100000; decide), fun c3 nc3 => ?_⟩
    generalize hu : upd _ c3 _ = H14
    obtain ⟨e14, g3⟩ := gnew nc3 hu
    have z3 := (z2.up (kp (((e11.trans e12).trans e13).trans e14))).app (y3.up (kp e14))
    refine ⟨_, rfl, sz3, fun t4x0 nt4x0 => ?_⟩
    generalize hu : upd _ t4x0 _ = H15
    obtain ⟨e15, ht4x0⟩ := gnew nt4x0 hu
    refine ⟨sz3, fun t4x1 nt4x1 => ?_⟩
    generalize hu : upd _ t4x1 _ = H16
    obtain ⟨e16, ht4x1⟩ := gnew nt4x1 hu
    refine ⟨sz2, fun l4 nl4 => ?_⟩
    generalize hu : upd _ l4 _ = H17
    obtain ⟨e17, hl4⟩ := gnew nl4 hu
    have y4 : All2 iTri H17 [.ref t4x0, .ref t4x1] [("shift 1", "-", false), ("drop 1", "drop 5", false)] := ⟨⟨t4x0, rfl, (e17 _ _ (e16 _ _ ht4x0))⟩, ⟨t4x1, rfl, (e17 _ _ ht4x1)⟩, trivial⟩
    refine ⟨c3, l4, _, _, rfl, rfl, (e17 _ _ (e16 _ _ (e15 _ _ g3))), hl4, sz_of (by show 7 + 2 ≤ 100000; decide), fun c4 nc4 => ?_⟩
    generalize hu : upd _ c4 _ = H18
    obtain ⟨e18, g4⟩ := gnew nc4 hu
    have z4 := (z3.up (kp (((e15.trans e16).trans e17).trans e18))).app (y4.up (kp e18))
    refine ⟨_, rfl, sz3, fun t5x0 nt5x0 => ?_⟩
    generalize hu : upd _ t5x0 _ = H19
    obtain ⟨e19, ht5x0⟩ := gnew nt5x0 hu
    refine ⟨sz1, fun l5 nl5 => ?_⟩
    generalize hu : upd _ l5 _ = H20
    obtain ⟨e20, hl5⟩ := gnew nl5 hu
    have y5 : All2 iTri H20 [.ref t5x0] [("widen 1 2; fill 2; trim 1 2", "fill 5; drop 1", true)] := ⟨⟨t5x0, rfl, (e20 _ _ ht5x0)⟩, trivial⟩
    refine ⟨c4, l5, _, _, rfl, rfl, (e20 _ _ (e19 _ _ g4)), hl5, sz_of (by show 9 + 1 ≤ 100000; decide), fun c5 nc5 => ?_⟩
    generalize hu : upd _ c5 _ = H21
    obtain ⟨e21, g5⟩ := gnew nc5 hu
    have z5 := (z4.up (kp ((e19.trans e20).trans e21))).app (y5.up (kp e21))
    refine ⟨_, rfl, sz3, fun t6x0 nt6x0 => ?_⟩
    generalize hu : upd _ t6x0 _ = H22
    obtain ⟨e22, ht6x0⟩ := gnew nt6x0 hu
    refine ⟨sz1, fun l6 nl6 => ?_⟩
    generalize hu : upd _ l6 _ = H23
    obtain ⟨e23, hl6⟩ := gnew nl6 hu
    have y6 : All2 iTri H23 [.ref t6x0] [("widen 1 2; fill 2; trim 1 2", "fill 4", false)] := ⟨⟨t6x0, rfl, (e23 _ _ ht6x0)⟩, trivial⟩
    refine ⟨c5, l6, _, _, rfl, rfl, (e23 _ _ (e22 _ _ g5)), hl6, sz_of (by show 10 + 1 ≤ 100000; decide), fun c6 nc6 => ?_⟩
    generalize hu : upd _ c6 _ = H24
    obtain ⟨e24, g6⟩ := gnew nc6 hu
    have z6 := (z5.up (kp ((e22.trans e23).trans e24))).app (y6.up (kp e24))
    refine ⟨_, rfl, sz3, fun t7x0 nt7x0 => ?_⟩
    generalize hu : upd _ t7x0 _ = H25
    obtain ⟨e25, ht7x0⟩ := gnew nt7x0 hu
    refine ⟨sz1, fun l7 nl7 => ?_⟩
    generalize hu : upd _ l7 _ = H26
    obtain ⟨e26, hl7⟩ := gnew nl7 hu
    have y7 : All2 iTri H26 [.ref t7x0] [("fill 2", "widen 1 1; drop 9", true)] := ⟨⟨t7x0, rfl, (e26 _ _ ht7x0)⟩, trivial⟩
    refine ⟨c6, l7, _, _, rfl, rfl, (e26 _ _ (e25 _ _ g6)), hl7, sz_of (by show 11 + 1 ≤ 100000; decide), fun c7 nc7 => ?_⟩
    generalize hu : upd _ c7 _ = H27
    obtain ⟨e27, g7⟩ := gnew nc7 hu
    have z7 := (z6.up (kp ((e25.trans e26).trans e27))).app (y7.up (kp e27))
    refine ⟨_, rfl, sz3, fun t8x0 nt8x0 => ?_⟩
    generalize hu : upd _ t8x0 _ = H28
    obtain ⟨e28, ht8x0⟩ := gnew nt8x0 hu
    refine ⟨sz1, fun l8 nl8 => ?_⟩
    generalize hu : upd _ l8 _ = H29
    obtain ⟨e29, hl8⟩ := gnew nl8 hu
    have y8 : All2 iTri H29 [.ref t8x0] [("fill 2; drop 1", "fill 2; drop 1", false)] := ⟨⟨t8x0, rfl, (e29 _ _ ht8x0)⟩, trivial⟩
    refine ⟨c7, l8, _, _, rfl, rfl, (e29 _ _ (e28 _ _ g7)), hl8, sz_of (by show 12 + 1 ≤ 100000; decide), fun c8 nc8 => ?_⟩
    generalize hu : upd _ c8 _ = H30
    obtain ⟨e30, g8⟩ := gnew nc8 hu
    have z8 := (z7.up (kp ((e28.trans e29).trans e30))).app (y8.up (kp e30))
    refine ⟨_, rfl, sz3, fun t9x0 nt9x0 => ?_⟩
    generalize hu : upd _ t9x0 _ = H31
    obtain ⟨e31, ht9x0⟩ := gnew nt9x0 hu
    refine ⟨sz3, fun t9x1 nt9x1 => ?_⟩
    generalize hu : upd _ t9x1 _ = H32
    obtain ⟨e32, ht9x1⟩ := gnew nt9x1 hu
    refine ⟨sz2, fun l9 nl9 => ?_⟩
    generalize hu : upd _ l9 _ = H33
    obtain ⟨e33, hl9⟩ := gnew nl9 hu
    have y9 : All2 iTri H33 [.ref t9x0, .ref t9x1] [("widen 2 0; trim 0 2", "fill 4", false), ("fill 0", "drop 1; fill 1", true)] := ⟨⟨t9x0, rfl, (e33 _ _ (e32 _ _ ht9x0))⟩, ⟨t9x1, rfl, (e33 _ _ ht9x1)⟩, trivial⟩
    refine ⟨c8, l9, _, _, rfl, rfl, (e33 _ _ (e32 _ _ (e31 _ _ g8))), hl9, sz_of (by show 13 + 2 ≤ 100000; decide), fun c9 nc9 => ?_⟩
    generalize hu : upd _ c9 _ = H34
    obtain ⟨e34, g9⟩ := gnew nc9 hu
    have z9 := (z8.up (kp (((e31.trans e32).trans e33).trans e34))).app (y9.up (kp e34))
    have eA : Ex H H34 := (((((((((((((((((((((((((((((((((e1.trans e2).trans e3).trans e4).trans e5).trans e6).trans e7).trans e8).trans e9).trans e10).trans e11).trans e12).trans e13).trans e14).trans e15).trans e16).trans e17).trans e18).trans e19).trans e20).trans e21).trans e22).trans e23).trans e24).trans e25).trans e26).trans e27).trans e28).trans e29).trans e30).trans e31).trans e32).trans e33).trans e34)
    refine ⟨_, rfl, c9, rfl, ⟨_, sq_of g9⟩, ?_⟩
    refine forL (R := iTri) (l := hands) (fun r σ' H' => ∃ (y1 y2 y3 y4 y5 : Option V), σ' = [some (.ref c9), y1, y2, y3, y4, y5] ∧ Ex H34 H') z9 ⟨none, none, none, none, none, rfl, Evl.Ex.refl _⟩ (fun r σ' H' h => ?_) (fun pre d r x σ' H' el hx h => ?_) (fun σ' H' h => ?_)
    · obtain ⟨y1, y2, y3, y4, y5, rfl, eH⟩ := h
      exact ⟨kp eH, sq_of (eH _ _ g9)⟩
    · obtain ⟨y1, y2, y3, y4, y5, rfl, eH⟩ := h
      obtain ⟨t, rfl, hT⟩ := hx
      obtain ⟨p, r0, h1, h2, h3, h4, h5, h6, h7, h8⟩ := triB_ok (hands_ok d (by rw [el]; simp))
      obtain ⟨gp, ggp, lp, lgp, bp⟩ := lnB_ok h5
      obtain ⟨gq, ggq, lq, lgq, bq⟩ := lnB_ok h6
      refine ⟨t, _, rfl, st_of hT, rfl, _, _, rfl, _, _, rfl, _, _, rfl, rfl, ?_⟩
      refine ⟨_, rfl, _, p, rfl, h1, fun v1 J1 f1 hv1 => ?_⟩
      refine ⟨_, rfl, _, r0, rfl, h2, fun v2 J2 f2 hv2 => ?_⟩
      have hv1' := Mono.up (R := iLine K) (kp f2) hv1
      refine ⟨_, _, rfl, ?_⟩
      refine ⟨_, rfl, _, rfl, _, rfl, v1, v2, p, r0, _, rfl, hv1', hv2, gp, gq, lp, lq, h7, h8, h3, fun w3 J3 f3 hw3 => ?_⟩
      cases hw3
      refine ⟨true, rfl, iteF ?_⟩
      refine ⟨_, rfl, v1, p, rfl, Mono.up (kp f3) hv1', ⟨lp, bp⟩, fun v4 J4 f4 hv4 => ?_⟩
      refine ⟨v4, _, rfl, hv4, ⟨ggp, by omega⟩, fun v5 J5 f5 hv5 => ?_⟩
      refine ⟨_, rfl, v2, r0, rfl, Mono.up (kp ((f3.trans f4).trans f5)) hv2, ⟨lq, bq⟩, fun v6 J6 f6 hv6 => ?_⟩
      refine ⟨v6, _, rfl, hv6, ⟨ggq, by omega⟩, fun v7 J7 f7 hv7 => ?_⟩
      refine ⟨v5, _, v7, _, rfl, Mono.up (kp (f6.trans f7)) hv5, hv7, ⟨lgp, lgq⟩, fun w8 J8 f8 hw8 => ?_⟩
      replace hw8 : iB w8 J8 (Cs.spareM (Cs.great p) (Cs.great r0)) := hw8
      rw [h4] at hw8
      cases hw8
      refine ⟨_, rfl, rfl, _, rfl, iteNB (fun c => absurd rfl c) fun _ => ?_⟩
      exact ⟨_, _, _, _, _, rfl, ((((((eH.trans f1).trans f2).trans f3).trans f4).trans f5).trans f6).trans (f7.trans f8)⟩
    · obtain ⟨y1, y2, y3, y4, y5, rfl, eH⟩ := h
      exact q _ _ (eA.trans eH) rfl
end
end Cw
namespace Cw
open PySem PySem.Spec PyProof.Rows L2
open Evl (Ex ex_l ex_t sq_of st_of sz_of sz_lt fresh_back)
open Cs (Pr Stp Line)
section
variable {P : Program} {w : World} {K : PySem.W.Frag} {mg : Str → Option Value} {base : Heap} (T : Top w K mg)
include T
omit T in
theorem sw_bound {B : Int} {s : Stp} (hs : s.good ∧ ∀ n ∈ s.nums, -B ≤ n ∧ n ≤ B) (hB : 0 ≤ B) : Cs.high s.swings ≤ 2 * B ∧ -(2 * B) ≤ Cs.low s.swings ∧ s.swings.sum ≤ 2 * B ∧ -(2 * B) ≤ s.swings.sum := by
  have h := hs.2
  cases s with
  | fill g =>
    have h1 := h g (by simp [Cs.Stp.nums])
    simp only [Cs.Stp.swings, Cs.high, Cs.low, List.sum_cons, List.sum_nil]
    omega
  | drop g =>
    have h1 := h g (by simp [Cs.Stp.nums])
    simp only [Cs.Stp.swings, Cs.high, Cs.low, List.sum_cons, List.sum_nil]
    omega
  | widen a b =>
    have h1 := h a (by simp [Cs.Stp.nums])
    have h2 := h b (by simp [Cs.Stp.nums])
    simp only [Cs.Stp.swings, Cs.high, Cs.low, List.sum_cons, List.sum_nil]
    omega
  | trim a b =>
    have h1 := h a (by simp [Cs.Stp.nums])
    have h2 := h b (by simp [Cs.Stp.nums])
    simp only [Cs.Stp.swings, Cs.high, Cs.low, List.sum_cons, List.sum_nil]
    omega
  | shift n =>
    simp only [Cs.Stp.swings, Cs.high, Cs.low, List.sum_nil]
    omega
omit T in
theorem hl_bound {B : Int} (hB : 0 ≤ B) : ∀ {l : Line}, (∀ s ∈ l, s.good ∧ ∀ n ∈ s.nums, -B ≤ n ∧ n ≤ B) → Cs.high l.sw ≤ l.length * (2 * B) ∧ -(l.length * (2 * B)) ≤ Cs.low l.sw
  | [], _ => by
    show (0 : Int) ≤ ((0 : Nat) : Int) * (2 * B) ∧ -(((0 : Nat) : Int) * (2 * B)) ≤ 0
    simp
  | s :: l, h => by
    have ih := hl_bound hB (l := l) fun z hz => h z (List.mem_cons_of_mem _ hz)
    have hs := sw_bound (h s (List.mem_cons_self ..)) hB
    have e : (((s :: l).length : Nat) : Int) * (2 * B) = (l.length : Int) * (2 * B) + 2 * B := by
      rw [List.length_cons]; push_cast; rw [Int.add_mul]; simp
    rw [Cs.Line.sw_cons, Cs.high_append, Cs.low_append, e]
    have n : 0 ≤ (l.length : Int) * (2 * B) := Int.mul_nonneg (by omega) (by omega)
    omega
omit T in
theorem hts_bound : ∀ (ws : List Int) (h0 : Int), ∀ h ∈ Cs.hts h0 ws, h0 + Cs.low ws ≤ h ∧ h ≤ h0 + Cs.high ws
  | [], h0, h, hh => by
    rw [List.mem_singleton.mp hh]
    simp only [Cs.low, Cs.high]
    omega
  | w :: ws, h0, h, hh => by
    have a := Cs.low_np ws
    have b := Cs.high_nn ws
    have c := Cs.low_append [w] ws
    have d := Cs.high_append [w] ws
    simp only [List.singleton_append, List.sum_cons, List.sum_nil, Cs.low, Cs.high] at c d ⊢
    rcases List.mem_cons.mp hh with e | hh
    · rw [e]
      omega
    · have ih := hts_bound ws (h0 + w) h hh
      omega
omit T in
theorem Sm.bounds {L : Nat} {B : Int} {l : Line} (h : Sm L B l) (hL : L ≤ 4) (hB : 0 ≤ B) (hB2 : B ≤ 12) : Tame l ∧ Cs.drops l ≤ 100 ∧ Cs.fills l ≤ 100 ∧ l.length ≤ 100 := by
  have hb := hl_bound hB h.2
  have h1 : (l.length : Int) ≤ 4 := by have := h.1; omega
  have h2 : (l.length : Int) * (2 * B) ≤ 4 * 24 := Int.mul_le_mul h1 (by omega) (by omega) (by omega)
  refine ⟨⟨by omega, fun x hx => ?_⟩, by rw [Cs.drops_low]; omega, by rw [Cs.fills_high]; omega, by omega⟩
  have := hts_bound l.sw 0 x hx
  omega
variable {nC nF : Addr} (nl : NlTxt P K mg nC nF)
include nl
theorem ok_law_right : FnOk P w K mg base CX0 28 T.law_right.f T.law_right.fd ["_law_urn"] (fun vs H Q _ => ∃ (u : Addr) (n : Nat), vs = [.ref u] ∧ Urn u n H ∧ n ≤ 1000 ∧ ∀ H', Ux u H H' → Q (.bl true) H') := by
  refine T.law_right.F.ok sc_law_right (fun vs H Q E h => ?_) (fun cdv A outer s H vs Q E hr h => ?_)
  · obtain ⟨u, n, rfl, _⟩ := h; rfl
  · obtain ⟨u, n, rfl, hU, hn, q⟩ := h
    refine ⟨_, (pss_cons (ps_if (pt_not (pt_val (pe_call0 (ok_law_by_hand_right T nl) (hr.mono (by decide)) (by rfl) T.law_by_hand_right.g T.law_by_hand_right.F.kp (b_law_by_hand_right T) .nil pass0))) (pss_one (ps_ret pe_bl)) pss_nil)
  (pss_cons (ps_for PassesOwn.never rfl (pi_range1 (by rfl) T.b_range (pa_cons pe_int pa_nil)) (pg_name (i := 1) sc_law_right.nd rfl (Or.inl rfl))
  (pss_cons (ps_par (i := 2) (j := 3) rfl sc_law_right.nd rfl rfl (by decide) rfl rfl (pa_cons (pe_call (ok_law_soft T) (hr.mono (by decide)) (by rfl) T.law_soft.g T.law_soft.F.kp (b_law_soft T) .nil pass0 (pa_cons (pv 0) pa_nil)) (pa_cons (pe_call (ok_law_line T) (hr.mono (by decide)) (by rfl) T.law_line.g T.law_line.F.kp (b_law_line T) .nil pass0 (pa_cons (pv 0) (pa_cons pe_int (pa_cons pe_int pa_nil)))) pa_nil)) (by rfl))
  (pss_cons (ps_set (i := 4) sc_law_right.nd rfl (Or.inl rfl) (pe_call (ok_law_due T) (hr.mono (by decide)) (by rfl) T.law_due.g T.law_due.F.kp (b_law_due T) .nil pass0 (pa_cons (pv 2) (pa_cons (pv 3) pa_nil))))
  (pss_cons (ps_if (pt_not (pt_val (pe_call (ok_law_rows_right T nl) (hr.mono (by decide)) (by rfl) T.law_rows_right.g T.law_rows_right.F.kp (b_law_rows_right T) .nil pass0 (pa_cons (pv 2) (pa_cons (pv 3) (pa_cons (pv 4) pa_nil)))))) (pss_one (ps_ret pe_bl)) pss_nil)
  (pss_one (ps_for PassesOwn.never rfl (pi_range1 (by rfl) T.b_range (pa_cons (pe_op op_mul pe_int (pe_callTy call_int1 (by rfl) T.b_int (by decide +kernel) (pa_cons (pv 4) pa_nil))) pa_nil)) (pg_name (i := 5) sc_law_right.nd rfl (Or.inl rfl))
  (pss_cons (ps_par (i := 6) (j := 7) rfl sc_law_right.nd rfl rfl (by decide) rfl rfl (pa_cons (pe_call (ok_law_track T) (hr.mono (by decide)) (by rfl) T.law_track.g T.law_track.F.kp (b_law_track T) .nil pass0 (pa_cons (pv 0) (pa_cons pe_int (pa_cons pe_int (pa_cons pe_int pa_nil))))) (pa_cons (pe_call (ok_law_track T) (hr.mono (by decide)) (by rfl) T.law_track.g T.law_track.F.kp (b_law_track T) .nil pass0 (pa_cons (pv 0) (pa_cons pe_int (pa_cons pe_int (pa_cons pe_int pa_nil))))) pa_nil)) (by rfl))
  (pss_cons (ps_par (i := 8) (j := 9) rfl sc_law_right.nd rfl rfl (by decide) rfl rfl (pa_cons (pe_call (ok_law_host T) (hr.mono (by decide)) (by rfl) T.law_host.g T.law_host.F.kp (b_law_host T) .nil pass0 (pa_cons (pv 2) pa_nil)) (pa_cons (pe_call (ok_law_host T) (hr.mono (by decide)) (by rfl) T.law_host.g T.law_host.F.kp (b_law_host T) .nil pass0 (pa_cons (pv 3) pa_nil)) pa_nil)) (by rfl))
  (pss_one (ps_if (PW.pt (pw_or (pt_not (pt_val (pe_call (ok_law_like T) (hr.mono (by decide)) (by rfl) T.law_like.g T.law_like.F.kp (b_law_like T) .nil pass0 (pa_cons (pv 2) (pa_cons (pv 3) (pa_cons (pv 6) (pa_cons (pv 7) pa_nil))))))) (pw_or1 (pt_not (pt_val (pe_call (ok_law_host_right T) (hr.mono (by decide)) (by rfl) T.law_host_right.g T.law_host_right.F.kp (b_law_host_right T) .nil pass0 (pa_cons (pv 8) (pa_cons (pv 9) (pa_cons (pe_make T.Row_mk (ok_Row_initT T) (hr.mono (by decide)) (by rfl) T.Row.g (b_Row_init T) .nil pass0 (pa_cons (pv 6) pa_nil)) (pa_cons (pe_make T.Row_mk (ok_Row_initT T) (hr.mono (by decide)) (by rfl) T.Row.g (b_Row_init T) .nil pass0 (pa_cons (pv 7) pa_nil)) (pa_cons pe_bl pa_nil))))))))))) (pss_one (ps_ret pe_bl)) pss_nil))))))))))
  (pss_one (ps_ret pe_bl)))), ?_⟩
    refine ⟨rfl, fun v1 H1 e1 hv1 => ?_⟩
    cases hv1
    refine ⟨true, rfl, iteF ?_⟩
    refine ⟨12, rfl, by decide, by decide, ?_⟩
    refine for_range (lo := 0) (n := 12) (fun i σ' H' => ∃ (y1 y2 y3 y4 y5 y6 y7 y8 y9 : Option V), σ' = [some (.ref u), y1, y2, y3, y4, y5, y6, y7, y8, y9] ∧ Ux u H H' ∧ Urn u (n + 300 * i) H')
      ⟨none, none, none, none, none, none, none, none, none, rfl, ux e1, hU.up e1⟩ (fun i σ' H' hi h => ?_) (fun σ' H' h => ?_)
    · obtain ⟨y1, y2, y3, y4, y5, y6, y7, y8, y9, rfl, x0, hU0⟩ := h
      refine ⟨_, rfl, u, _, rfl, hU0, by omega, fun v p H2 hv sp x2 hU2 => ?_⟩
      refine ⟨_, rfl, u, _, 4, 4, rfl, hU2, by omega, by omega, by omega, by omega, fun w r H3 hw sr x3 hU3 => ?_⟩
      have hv3 := Mono.up (R := iLine K) (ux_kp hU2 x3) hv
      refine ⟨_, _, rfl, ?_⟩
      obtain ⟨tp, _, fp, lp⟩ := sp.bounds (by decide) (by decide) (by decide)
      obtain ⟨tr, dr, _, lr⟩ := sr.bounds (by decide) (by decide) (by decide)
      refine ⟨_, rfl, _, rfl, v, p, w, r, rfl, hv3, hw, ⟨tp, tr⟩, fun g H4 e4 hg => ?_⟩
      replace hg : g = .bl (Cs.dueM p r) := hg
      rw [Cs.due_spare] at hg
      subst hg
      have hv4 := Mono.up (R := iLine K) (kp e4) hv3
      have hw4 := Mono.up (R := iLine K) (kp e4) hw
      refine ⟨_, rfl, _, rfl, _, rfl, v, w, p, r, _, rfl, hv4, hw4, sp.good, sr.good, lp, lr, dr, by omega, rfl, fun b H5 e5 hb => ?_⟩
      cases hb
      refine ⟨true, rfl, iteF ?_⟩
      have hU5 := (hU3.up e4).up e5
      have x05 := (((x0.trans x2).trans x3).trans (ux e4)).trans (ux e5)
      have hv5 := Mono.up (R := iLine K) (kp e5) hv4
      have hw5 := Mono.up (R := iLine K) (kp e5) hw4
      refine ⟨_, rfl, .inr ⟨_, rfl, _, _, rfl, rfl, .inl ⟨by omega, by omega⟩, ?_⟩⟩
      refine ⟨_, rfl, ?_, ?_, ?_⟩
      · split <;> omega
      · split <;> omega
      refine for_range (lo := 0) (n := (4 * (if Cs.spareM p r = true then (1 : Int) else 0)).toNat) (fun j σ' H' => ∃ (y1 y5 y6 y7 y8 y9 : Option V), σ' = [some (.ref u), y1, some v, some w, some (.bl (Cs.spareM p r)), y5, y6, y7, y8, y9] ∧ Ux u H H' ∧ Kp H5 H' ∧ Urn u (n + 300 * i + 33 + 31 + 44 * j) H' ∧ (Cs.spareM p r = true ∨ j = 0) ∧ j ≤ 4)
        ⟨_, _, _, _, _, _, rfl, x05, Kp.refl _, hU5, .inr rfl, by omega⟩ (fun j σ' H' hj h => ?_) (fun σ' H' h => ?_)
      · obtain ⟨z1, z5, z6, z7, z8, z9, rfl, x6, k6, hU6, _, hj4⟩ := h
        have hs : Cs.spareM p r = true := by
          cases c : Cs.spareM p r with
          | true => rfl
          | false => rw [c] at hj; exact absurd hj (by simp)
        have hj3 : j < 4 := by
          rw [hs] at hj
          exact hj
        have sl : ∀ {X Y : List Pr}, Cs.Norm X → Cs.Norm Y → r.law (Cs.nf (p.law X ++ Y)) = r.law (Cs.nf (X ++ Y)) := fun {X Y} hX hY => Cs.spare_law sp.good sr.good ((Cs.spareM_iff p r).mp hs) hX hY
        refine ⟨_, rfl, u, _, 4, 3, 4, rfl, hU6, by omega, by omega, by omega, by omega, by omega, by omega, fun a X H7 ha nX lX x7 hU7 => ?_⟩
        refine ⟨_, rfl, u, _, 4, 3, 4, rfl, hU7, by omega, by omega, by omega, by omega, by omega, by omega, fun b Y H8 hb nY lY x8 hU8 => ?_⟩
        have ha8 := Mono.up (R := iT K (iPr K)) (ux_kp hU7 x8) ha
        have k58 := (k6.trans (ux_kp hU6 x7)).trans (ux_kp hU7 x8)
        have hv8 := Mono.up (R := iLine K) k58 hv5
        have hw8 := Mono.up (R := iLine K) k58 hw5
        refine ⟨_, _, rfl, ?_⟩
        refine ⟨_, rfl, v, p, rfl, hv8, ⟨sp.good, by omega⟩, fun c H9 e9 hc => ?_⟩
        refine ⟨_, rfl, w, r, rfl, Mono.up (kp e9) hw8, ⟨sr.good, by omega⟩, fun d H10 e10 hd => ?_⟩
        refine ⟨_, _, rfl, ?_⟩
        have e8a := e9.trans e10
        refine ⟨_, rfl, _, rfl, _, rfl, _, rfl, v, p, w, r, a, X, b, Y, rfl, Mono.up (kp e8a) hv8, Mono.up (kp e8a) hw8, Mono.up (kp e8a) ha8, Mono.up (kp e8a) hb, ⟨sp.good, sr.good, nX, nY, by omega, by omega⟩, fun t H11 e11 ht => ?_⟩
        replace ht : iB t H11 (decide (r.law (Cs.nf (p.law X ++ Y)) = r.law (Cs.nf (X ++ Y)))) := ht
        rw [decide_eq_true (sl nX nY)] at ht
        cases ht
        refine ⟨true, rfl, iteF ?_⟩
        have e8b := e8a.trans e11
        refine ⟨_, rfl, _, rfl, _, rfl, mkRow2 (l := X) (fun e => Mono.up (kp (e8b.trans e)) ha8) nX.1 (by omega) fun r12 H12 e12 hr12 => ⟨rfl, _, rfl, mkRow2 (l := Y) (fun e => Mono.up (kp ((e8b.trans e12).trans e)) hb) nY.1 (by omega) fun r13 H13 e13 hr13 => ⟨rfl, ?_⟩⟩⟩
        rw [Cs.nf_norm nX] at hr12
        rw [Cs.nf_norm nY] at hr13
        have eAd := ((e11.trans e12).trans e13)
        refine ⟨c, d, _, _, p, r, X, Y, true, rfl, Mono.up (kp (e10.trans eAd)) hc, Mono.up (kp eAd) hd, Mono.up (kp e13) hr12, hr13, sp.good, sr.good, nX, nY, by omega, by omega, fun t H14 e14 ht => ?_⟩
        rw [decide_eq_true (sl nX nY), decide_eq_true rfl] at ht
        cases ht
        refine ⟨true, rfl, iteF ?_⟩
        have e8e := ((e8b.trans e12).trans e13).trans e14
        refine ⟨_, _, _, _, _, _, rfl, ((x6.trans x7).trans x8).trans (ux e8e), k58.trans (kp e8e), ?_, .inl hs, by omega⟩
        have := hU8.up e8e
        rw [show n + 300 * i + 33 + 31 + 44 * (j + 1) = n + 300 * i + 33 + 31 + 44 * j + 22 + 22 by omega]
        exact this
      · obtain ⟨z1, z5, z6, z7, z8, z9, rfl, x6, k6, ⟨a, b, c, u1, u2, u3⟩, _, _⟩ := h
        refine ⟨_, _, _, _, _, _, _, _, _, rfl, x6, a, b, c, u1, u2, ?_⟩
        have : (4 * (if Cs.spareM p r = true then (1 : Int) else 0)).toNat ≤ 4 := by split <;> omega
        omega
    · obtain ⟨y1, y2, y3, y4, y5, y6, y7, y8, y9, rfl, x0, hU0⟩ := h
      exact q _ x0
end
end Cw
namespace Cw
open PySem PySem.Spec PyProof.Rows L2
open Evl (Ex ex_l ex_t sq_of st_of sz_of sz_lt fresh_back)
open Cs (Pr Stp Line)
section
variable {P : Program} {w : World} {K : PySem.W.Frag} {mg : Str → Option Value} {base : Heap} (T : Top w K mg)
include T
omit T in
theorem cut02 (ns : List Int) : cutV (ns.map V.int) none (some 2) = (ns.take 2).map V.int := by
  unfold cutV
  rw [HT.sIx_none, show HT.sIx (ns.map V.int).length (ns.map V.int).length (some 2) = min 2 (ns.map V.int).length from HT.sIx_nat _ _ 2, List.drop_zero, Nat.sub_zero, List.map_take, List.length_map]
  by_cases h : 2 ≤ ns.length
  · rw [Nat.min_eq_left h]
  · rw [Nat.min_eq_right (by omega), List.take_of_length_le (by rw [List.length_map]; exact Nat.le_refl _), List.take_of_length_le (by rw [List.length_map]; omega)]
omit T in
theorem cut263 {ns : List Int} (h : ns.length ≤ 63) : cutV (ns.map V.int) (some 2) (some 63) = (ns.drop 2).map V.int := by
  unfold cutV
  rw [show HT.sIx (ns.map V.int).length 0 (some 2) = min 2 (ns.map V.int).length from HT.sIx_nat _ _ 2, show HT.sIx (ns.map V.int).length (ns.map V.int).length (some 63) = min 63 (ns.map V.int).length from HT.sIx_nat _ _ 63, List.length_map, Nat.min_eq_right h, List.map_drop]
  by_cases h2 : 2 ≤ ns.length
  · rw [Nat.min_eq_left h2, List.take_of_length_le (by rw [List.length_drop, List.length_map]; exact Nat.le_refl _)]
  · rw [Nat.min_eq_right (by omega), Nat.sub_self, List.take_zero, List.drop_of_length_le (by rw [List.length_map]; omega)]
omit T in
theorem ixN_nat {n j : Nat} (h : j < n) : ixN n (j : Int) = some j := by
  unfold ixN
  rw [if_pos (by omega), if_pos (by omega)]
  congr 1
omit T in
theorem fm2 (i : Nat) : Int.fmod (i : Int) 2 = ((i % 2 : Nat) : Int) := by
  rw [Int.fmod_eq_emod_of_nonneg _ (by decide)]
  omega
theorem ok_law_cells : FnOk P w K mg base CX0 1 T.law_cells.f T.law_cells.fd ["_law_script", "_law_top"] (fun vs H Q _ => ∃ (a : Addr) (ns : List Int), vs = [.ref a, .int 2] ∧ SqL K H a (ns.map V.int) ∧ ns.length ≤ 63 ∧ ∀ p (ms : List Int) H', Ex H H' → H' p = some (.lst (ms.map V.int)) → ms.length ≤ 2 → Q (.ref p) H') := by
  refine T.law_cells.F.ok sc_law_cells (fun vs H Q E h => ?_) (fun cdv A outer s H vs Q E hr h => ?_)
  · obtain ⟨a, ns, rfl, _⟩ := h; rfl
  · obtain ⟨a, ns, rfl, hS, hn, q⟩ := h
    refine ⟨_, (pss_cons (ps_set (i := 2) sc_law_cells.nd rfl (Or.inl rfl) (pe_orT (pe_callTy call_list_of (by rfl) T.b_list (by decide +kernel) (pa_cons (pe_slice sl_list (pv 0) po_none (po_some (pv 1))) pa_nil)) (pe_one (pe_lst (pa_cons pe_int pa_nil)))))
  (pss_cons (ps_for PassesOwn.never rfl (pi_enum (by rfl) T.b_enumerate (pa_cons (pe_slice sl_list (pv 0) (po_some (pv 1)) (po_some pe_int)) pa_nil)) (pg_tup rfl (pgs_cons (pg_name (i := 3) sc_law_cells.nd rfl (Or.inl rfl)) (pgs_cons (pg_name (i := 4) sc_law_cells.nd rfl (Or.inl rfl)) pgs_nil)))
  (pss_cons (ps_set (i := 5) sc_law_cells.nd rfl (Or.inl rfl) (pe_op op_modN (pe_callTy call_int1 (by rfl) T.b_int (by decide +kernel) (pa_cons (pv 3) pa_nil)) (pv 1)))
  (pss_one (ps_asg (pe_op op_add (pe_ix ix_list (pv 2) (pv 5) (fun _ _ => rfl)) (pe_op op_mul (pv 4) (pe_op op_add (pv 3) pe_int))) (pg_sub (pv 2) (pv 5) set_list)))))
  (pss_one (ps_ret (pv 2))))), ?_⟩
    refine ⟨_, rfl, _, rfl, 2, rfl, a, _, rfl, hS, fun c nc => ?_⟩
    generalize hu : upd _ c _ = H1
    obtain ⟨e1, h1⟩ := gnew nc hu
    rw [cut02] at h1
    refine ⟨c, _, rfl, .inl (sq_of h1), fun o no => ?_⟩
    generalize hu : upd _ o _ = H2
    obtain ⟨e2, h2⟩ := gnew no hu
    have e12 := e1.trans e2
    -- the loop, from a list of ours on
    have rest : ∀ (o : Addr) (ms : List Int) (H3 : Hp), Ex H H3 → H o = none → H3 o = some (.lst (ms.map V.int)) → ms.length ≤ 2 → (2 < ns.length → ms.length = 2) → True := fun _ _ _ _ _ _ _ _ => trivial
    refine ⟨!((ns.take 2).map V.int).isEmpty, .inl ⟨_, sq_of h2, rfl⟩, ?_⟩
    have no0 : H o = none := fresh_back e1 no
    refine iteBN (fun hne => ?_) (fun hne => ?_)
    · refine ⟨_, rfl, _, rfl, 2, rfl, 63, rfl, a, _, rfl, ex_l e12 hS, fun c2 nc2 => ?_⟩
      generalize hu : upd _ c2 _ = H3
      obtain ⟨e3, h3⟩ := gnew nc2 hu
      rw [cut263 hn] at h3
      have nco : c2 ≠ o := fun z => by rw [z, h2] at nc2; cases nc2
      refine ⟨c2, _, rfl, sq_of h3, ?_⟩
      refine for_it (walk_enum (K := K) (a := c2) (xs := (ns.drop 2).map V.int)) (fun i σ' H' => ∃ (ms : List Int) (y3 y4 y5 : Option V), σ' = [some (.ref a), some (.int 2), some (.ref o), y3, y4, y5] ∧ Ex H H' ∧ H' c2 = some (.lst ((ns.drop 2).map V.int)) ∧ H' o = some (.lst (ms.map V.int)) ∧ ms.length = (ns.take 2).length)
        ⟨ns.take 2, none, none, none, rfl, e12.trans e3, h3, e3 _ _ h2, rfl⟩ (fun i σ' H' _ h => ?_) (fun i x σ' H' H4 hi h y => ?_) (fun σ' H' h => ?_)
      · obtain ⟨ms, y3, y4, y5, rfl, eH, hc, ho, hl⟩ := h
        exact sq_of hc
      · obtain ⟨ms, y3, y4, y5, rfl, eH, hc, ho, hl⟩ := h
        obtain ⟨t, x1, x2, rfl, nt, rfl, g1, g2⟩ := y
        rw [List.length_map, List.length_drop] at hi
        have hl2 : ms.length = 2 := by rw [hl, List.length_take]; omega
        have g1 : V.int (i : Nat) = x1 := Option.some.inj g1
        subst g1
        have g2 : ((ns.drop 2).map V.int)[i]? = some x2 := g2
        rw [List.getElem?_map] at g2
        obtain ⟨m, _, rfl⟩ := Option.map_eq_some_iff.mp g2
        have eT : Ex H' (upd H' t (.tup [.int (i : Nat), .int m])) := Evl.Ex.new nt
        have ho4 := eT _ _ ho
        have hc4 := eT _ _ hc
        have hj : i % 2 < ms.length := by omega
        refine ⟨t, _, rfl, st_of upd_same, rfl, _, _, rfl, _, _, rfl, rfl, ?_⟩
        refine ⟨_, rfl, .inl ⟨_, rfl, _, rfl, _, _, rfl, rfl, by show (2 : Int) ≠ 0; decide, ?_⟩⟩
        refine ⟨_, rfl, _, rfl, o, _, _, .int ms[i % 2], rfl, rfl, sq_of ho4, (by rw [fm2]; exact atI_nat (by rw [List.getElem?_map, List.getElem?_eq_getElem hj]; rfl)), _, rfl, _, rfl, _, _, rfl, rfl, _, _, rfl, rfl, .inr ⟨by omega, by omega⟩, _, _, rfl, rfl, ?_⟩
        refine ⟨_, rfl, _, rfl, o, _, _, i % 2, rfl, rfl, ho4, (by rw [fm2]; exact ixN_nat (by rw [List.length_map]; exact hj)), ?_⟩
        generalize hu : upd _ o _ = H5
        obtain ⟨e5, k5, h5⟩ := gset (eH.trans eT) no0 ho4 hu
        have h5 : H5 o = some (.lst ((ms.set (i % 2) (ms[i % 2] + m * ((i : Nat) + 2))).map V.int)) := by rw [List.map_set]; exact h5
        exact ⟨_, _, _, _, rfl, e5, by rw [← hu, upd_ne nco]; exact hc4, h5, by rw [List.length_set]; exact hl⟩
      · obtain ⟨ms, y3, y4, y5, rfl, eH, hc, ho, hl⟩ := h
        exact ⟨_, rfl, q o ms _ eH ho (by rw [hl, List.length_take]; omega)⟩
    · have hz : ns = [] := by
        cases ns with
        | nil => rfl
        | cons x r => simp at hne
      subst hz
      refine ⟨sz1, fun o2 no2 => ?_⟩
      generalize hu : upd _ o2 _ = H2b
      obtain ⟨e2b, h2b⟩ := gnew no2 hu
      have e12b := e12.trans e2b
      refine ⟨_, rfl, _, rfl, 2, rfl, 63, rfl, a, _, rfl, ex_l e12b hS, fun c2 nc2 => ?_⟩
      generalize hu : upd _ c2 _ = H3
      obtain ⟨e3, h3⟩ := gnew nc2 hu
      rw [cut263 hn] at h3
      refine ⟨c2, _, rfl, sq_of h3, ?_⟩
      refine for_it (walk_enum (K := K) (a := c2) (xs := [])) (fun i σ' H' => σ' = [some (.ref a), some (.int 2), some (.ref o2), none, none, none] ∧ H' = H3) ⟨rfl, rfl⟩ (fun i σ' H' _ h => ?_) (fun i x σ' H' H4 hi h y => absurd hi (Nat.not_lt_zero _)) (fun σ' H' h => ?_)
      · rw [h.2]; exact sq_of h3
      · obtain ⟨rfl, rfl⟩ := h
        exact ⟨_, rfl, q o2 [0] _ (e12b.trans e3) (e3 _ _ h2b) (by simp)⟩
theorem ok_law_box : FnOk P w K mg base CX0 1 T.law_box.f T.law_box.fd ["_law_script", "_law_k"] (fun vs H Q _ => ∃ (a : Addr) (ns : List Int) (k : Nat), vs = [.ref a, .int (k : Nat)] ∧ SqL K H a (ns.map V.int) ∧ k < ns.length ∧ k ≤ 1000 ∧ ∀ p H', Ex H H' → H p = none → Urn p 0 H' → Q (.ref p) H') := by
  refine T.law_box.F.ok sc_law_box (fun vs H Q E h => ?_) (fun cdv A outer s H vs Q E hr h => ?_)
  · obtain ⟨a, ns, k, rfl, _⟩ := h; rfl
  · obtain ⟨a, ns, k, rfl, hS, hk, hk2, q⟩ := h
    refine ⟨_, (pss_cons (ps_set (i := 2) sc_law_box.nd rfl (Or.inl rfl) (pe_ifExp (pt_cmpR op_lt (pv 1) (pe_callB call_len_seq (by rfl) T.b_len (by decide +kernel) (pa_cons (pv 0) pa_nil)) (nomark _)) (pe_ix ix_list (pv 0) (pv 1) (fun _ _ => rfl)) pe_int))
  (pss_one (ps_ret (pe_lst (pa_cons (pe_op op_mul (pe_callB call_abs (by rfl) T.b_abs (by decide +kernel) (pa_cons (pv 2) pa_nil)) (pe_callTy call_int1 (by rfl) T.b_int (by decide +kernel) (pa_cons (pe_cmpR op_ge (pe_callB call_abs (by rfl) T.b_abs (by decide +kernel) (pa_cons (pv 2) pa_nil)) (pe_op op_pow pe_int pe_int) (nomark _)) pa_nil))) (pa_cons (pe_op op_add (pe_op op_add (pe_op op_modN (pe_callTy call_int1 (by rfl) T.b_int (by decide +kernel) (pa_cons (pv 2) pa_nil)) pe_int) (pe_op op_mul pe_int (pv 1))) pe_int) (pa_cons pe_int pa_nil))))))), ?_⟩
    refine ⟨_, rfl, _, rfl, a, _, rfl, .inl hS, _, _, rfl, rfl, _, rfl, iteY (by show (k : Int) < ((ns.map V.int).length : Nat); rw [List.length_map]; omega) ?_⟩
    refine ⟨_, rfl, _, rfl, a, _, _, .int ns[k], rfl, rfl, hS, atI_nat (by rw [List.getElem?_map, List.getElem?_eq_getElem hk]; rfl), ?_⟩
    refine ⟨_, rfl, _, rfl, _, rfl, _, rfl, _, _, rfl, rfl, ⟨by omega, by omega, by omega⟩, _, _, rfl, rfl, .inr ⟨_, rfl, _, _, rfl, rfl, .inr ?_, ?_⟩⟩
    · split <;> exact ⟨by omega, by omega⟩
    refine ⟨_, rfl, .inl ⟨_, rfl, _, _, rfl, rfl, by omega, _, rfl, _, _, rfl, rfl, .inl ⟨by omega, by omega⟩, _, _, rfl, rfl, _, _, rfl, rfl, sz3, fun p np => ?_⟩⟩
    generalize hu : upd _ p _ = H1
    obtain ⟨e1, h1⟩ := gnew np hu
    exact q p _ e1 np ⟨_, _, _, h1, by omega, by omega⟩
variable {nC nF : Addr} (nl : NlTxt P K mg nC nF)
include nl
def spLaw (K : PySem.W.Frag) : Sp := fun vs H Q _ => ∃ (a : Addr) (ns : List Int), vs = [.ref a] ∧ SqL K H a (ns.map V.int) ∧ ns.length ≤ 63 ∧ ∀ H', Q (.bl true) H'
theorem ok_law : FnOk P w K mg base CX0 31 T.law.f T.law.fd ["_law_script"] (spLaw K) := by
  refine T.law.F.ok sc_law (fun vs H Q E h => ?_) (fun cdv A outer s H vs Q E hr h => ?_)
  · obtain ⟨a, ns, rfl, _⟩ := h; rfl
  · obtain ⟨a, ns, rfl, hS, hn, q⟩ := h
    refine ⟨_, (pss_cons (ps_set (i := 1) sc_law.nd rfl (Or.inr rfl) (pe_call (ok_law_cells T) (hr.mono (by decide)) (by rfl) T.law_cells.g T.law_cells.F.kp (b_law_cells T) .nil pass0 (pa_cons (pv 0) (pa_cons pe_int pa_nil))))
  (pss_one (ps_ret (pe_callB (cr_all rfl) (by rfl) T.b_all (by decide +kernel) (pa_cons (pe_lc (own := [("_law_k", 2)]) (g := (gName 2)) (tt := tYes) rfl sc_law.nd (pi_range1 (by rfl) T.b_range (pa_cons (pe_callB call_len_seq (by rfl) T.b_len (by decide +kernel) (pa_cons (pv 1) pa_nil)) pa_nil)) (blkOk_by (own := [("_law_k", 2)]) (N := ["_law_script", "_law_cells_here", "_law_k"]) (sc := defScope s_law) (by decide +kernel)) (fun _ _ _ _ _ => (pg_name (i := 2) sc_law.nd rfl (Or.inl rfl))) (fun _ _ _ _ _ => pts_nil) (fun _ _ _ _ _ => (pe_call (ok_law_right T nl) (hr.mono (by decide)) (by rfl) T.law_right.g T.law_right.F.kp (b_law_right T) .nil pass0 (pa_cons (pe_call (ok_law_box T) (hr.mono (by decide)) (by rfl) T.law_box.g T.law_box.F.kp (b_law_box T) .nil pass0 (pa_cons (pv 1) (pa_cons (pv 2) pa_nil))) pa_nil)))) pa_nil))))), ?_⟩
    refine ⟨_, rfl, a, ns, rfl, hS, hn, fun p ms H1 e1 hp hm => ?_⟩
    refine ⟨_, rfl, p, _, rfl, .inl (sq_of hp), ((ms.map V.int).length : Nat), rfl, by rw [List.length_map]; omega, by rw [List.length_map]; omega, fun D nD => ?_⟩
    refine lcR (S := iB) (fun _ => true) nD (by rw [List.length_map]; omega) (fun i H2 hi e2 Q1 N1 q1 q2 => ?_) fun H2 ys e2 hD hY => ?_
    · rw [List.length_map] at hi
      have hi : i < ms.length := by omega
      refine ⟨rfl, _, rfl, _, rfl, p, ms, i, ?_, sq_of (e2 _ _ hp), hi, by omega, fun u H3 e3 nu hU => ?_⟩
      · show [V.ref p, V.int (0 + (i : Int))] = _
        rw [Int.zero_add]
      refine ⟨u, 0, rfl, hU, by omega, fun H4 x4 => ?_⟩
      exact q1 true rfl _ _ (fun b o e => x4 b o (ne_of_none e nu) (e3 b o e)) rfl
    · rw [all2_bl hY] at hD
      refine ⟨D, _, rfl, sq_of hD, ?_⟩
      have : (((List.range ((ms.map V.int).length : Int).toNat).map fun _ => true).all id) = true := by simp
      rw [this]
      exact q _
end
end Cw
namespace Cw
open PySem PySem.W PySem.Calls PyProof.Rows
abbrev RR : OpenRow := OpenLaw.row PySem.Challenge.rw_cleanspans_k93_whole_a_cleaner_left_out
abbrev qv : Program := view RR.prog [87]
def nmsL0 : List PySem.Str := ["_wall", "NoPlace", "NoLetter", "BadSpan", "BadText", "BadStep", "is_number", "pair_of", "tupled", "number_in", "FILL", "DROP", "run_together", "letters", "along", "levels", "ahead", "drops_ahead", "joined", "joined_words", "again", "lies_below", "first_fills", "by_columns", "hull", "is_within", "over_both", "under_both", "is_pair", "is_spans"]
def nmsL1 : List PySem.Str := ["joined_spans", "in_both", "left_over", "Row", "comb", "AMOUNTS", "is_good", "filled", "moved", "Step", "swings_of", "edges_of", "plain_steps", "triple_of", "made_of", "Pipeline", "fill_first", "many_for", "spare_any", "touch_pair", "spare_any_rows", "_law_box", "_law_take", "_law_cells", "_law_of", "_law_same", "_law_stride", "_law_line", "_law_still", "_law_host"]
def nmsL2 : List PySem.Str := ["_law_edges", "_law_trip", "_law_spell", "_law_rising", "_law_one", "_law_made", "_law_track", "_law_first", "_law_soft", "_law_due", "_law_like", "_law_host_right", "_law_rows_right", "_law_read", "_law_great", "_law_by_hand_right", "_law_right"]
def nmsA : List PySem.Str := nmsL0 ++ nmsL1 ++ nmsL2
/-- the getter of a class's property -/
def pgO (K : Frag) (C : Addr) (m : PySem.Str) : Addr := match recIn K (He.ma K C m) "property" with
  | some (.ref f :: _) => f
  | _ => 0
def dN (gx : PySem.Str) (x : PySem.Str) (st : Stmt) : He5.DefA := ⟨fun K => He.ga K gx, x, x, L2.defArgs st, L2.defBody st, L2.defScope st, [], []⟩
def dM (c x q : PySem.Str) (st : Stmt) : He5.DefA := ⟨fun K => He.ma K (He.ga K c) x, x, q, L2.defArgs st, L2.defBody st, L2.defScope st, [], []⟩
def dP (c x q : PySem.Str) (st : Stmt) : He5.DefA := ⟨fun K => pgO K (He.ga K c) x, x, q, L2.defArgs st, L2.defBody st, L2.defScope st, [], []⟩
def dI (c q : PySem.Str) (st : Stmt) : He5.DefA := ⟨fun K => He.ma K (He.ga K c) "__init__", "__init__", q, L2.defArgs st, L2.defBody st, L2.defScope st, [.adr (He.dflAt (c, some "__init__") 0)], []⟩
def fnL0 : List He5.DefA := [dN "is_number" "is_number" s_is_number, dN "pair_of" "pair_of" s_pair_of, dN "tupled" "tupled" s_tupled, dN "run_together" "run_together" s_run_together, dN "letters" "letters" s_letters, dN "along" "along" s_along, dN "ahead" "ahead" s_ahead, dN "drops_ahead" "drops_ahead" s_drops_ahead, dN "joined_spans" "joined" s_joined, dN "comb" "comb" s_comb, dN "is_good" "is_good" s_is_good, dN "filled" "filled" s_filled, dN "moved" "moved" s_moved, dN "swings_of" "swings_of" s_swings_of, dN "edges_of" "edges_of" s_edges_of, dN "fill_first" "fill_first" s_fill_first, dN "many_for" "many_for" s_many_for, dN "spare_any" "spare_any" s_spare_any, dN "touch_pair" "touch_pair" s_touch_pair, dN "spare_any_rows" "spare_any_rows" s_spare_any_rows]
def fnL1 : List He5.DefA := [dN "_law_box" "_law_box" s_law_box, dN "_law_take" "_law_take" s_law_take, dN "_law_cells" "_law_cells" s_law_cells, dN "_law_of" "_law_of" s_law_of, dN "_law_same" "_law_same" s_law_same, dN "_law_stride" "_law_stride" s_law_stride, dN "_law_line" "_law_line" s_law_line, dN "_law_still" "_law_still" s_law_still, dN "_law_host" "_law_host" s_law_host, dN "_law_edges" "_law_edges" s_law_edges, dN "_law_trip" "_law_trip" s_law_trip, dN "_law_spell" "_law_spell" s_law_spell, dN "_law_rising" "_law_rising" s_law_rising, dN "_law_one" "_law_one" s_law_one, dN "_law_made" "_law_made" s_law_made, dN "_law_track" "_law_track" s_law_track, dN "_law_first" "_law_first" s_law_first, dN "_law_soft" "_law_soft" s_law_soft, dN "_law_due" "_law_due" s_law_due, dN "_law_like" "_law_like" s_law_like]
def fnL2 : List He5.DefA := [dN "_law_host_right" "_law_host_right" s_law_host_right, dN "_law_rows_right" "_law_rows_right" s_law_rows_right, dN "_law_read" "_law_read" s_law_read, dN "_law_great" "_law_great" s_law_great, dN "_law_by_hand_right" "_law_by_hand_right" s_law_by_hand_right, dN "_law_right" "_law_right" s_law_right, dN "law" "law" s_law, dM "Row" "__or__" "Row.__or__" s_Row_or, dM "Row" "__eq__" "Row.__eq__" s_Row_eq, dM "Step" "__init__" "Step.__init__" s_Step_init, dM "Step" "__call__" "Step.__call__" s_Step_call, dM "Pipeline" "__call__" "Pipeline.__call__" s_Pipeline_call, dP "Row" "spans" "Row.spans" s_Row_spans, dP "Step" "kind" "Step.kind" s_Step_kind, dP "Step" "amounts" "Step.amounts" s_Step_amounts, dP "Pipeline" "heights" "Pipeline.heights" s_Pipeline_heights, dP "Pipeline" "word" "Pipeline.word" s_Pipeline_word, dP "Pipeline" "fills" "Pipeline.fills" s_Pipeline_fills, dP "Pipeline" "drops" "Pipeline.drops" s_Pipeline_drops, dP "Pipeline" "starts" "Pipeline.starts" s_Pipeline_starts]
def fnL3 : List He5.DefA := [dP "Pipeline" "ends" "Pipeline.ends" s_Pipeline_ends, dI "Row" "Row.__init__" s_Row_init, dI "Pipeline" "Pipeline.__init__" s_Pipeline_init]
def fnA : List He5.DefA := fnL0 ++ fnL1 ++ fnL2 ++ fnL3
def faL0 : List He.Fa := [.glo "is_number", .glo "pair_of", .glo "tupled", .glo "run_together", .glo "letters", .glo "along", .glo "ahead", .glo "drops_ahead", .glo "joined_spans", .glo "comb", .glo "is_good", .glo "filled", .glo "moved", .glo "swings_of", .glo "edges_of", .glo "fill_first", .glo "many_for", .glo "spare_any", .glo "touch_pair", .glo "spare_any_rows", .glo "_law_box", .glo "_law_take", .glo "_law_cells", .glo "_law_of", .glo "_law_same"]
def faL1 : List He.Fa := [.glo "_law_stride", .glo "_law_line", .glo "_law_still", .glo "_law_host", .glo "_law_edges", .glo "_law_trip", .glo "_law_spell", .glo "_law_rising", .glo "_law_one", .glo "_law_made", .glo "_law_track", .glo "_law_first", .glo "_law_soft", .glo "_law_due", .glo "_law_like", .glo "_law_host_right", .glo "_law_rows_right", .glo "_law_read", .glo "_law_great", .glo "_law_by_hand_right", .glo "_law_right", .glo "law", .free "len", .free "sum", .free "max"]
def faL2 : List He.Fa := [.free "min", .free "abs", .free "all", .free "isinstance", .free "range", .free "enumerate", .free "zip", .free "sorted", .free "int", .free "bool", .free "list", .free "tuple", .free "str", .free "super", .glo "Row", .cls "Row", .mkr "Row", .noat "Row" "own_spans", .meth "Row" "__or__", .meth "Row" "__eq__", .glo "Step", .cls "Step", .mkr "Step", .noat "Step" "own_kind", .noat "Step" "own_amounts"]
def faL3 : List He.Fa := [.meth "Step" "__init__", .meth "Step" "__call__", .glo "Pipeline", .cls "Pipeline", .mkr "Pipeline", .noat "Pipeline" "own_steps", .meth "Pipeline" "__call__", .meth "Row" "__init__", .meth "Pipeline" "__init__", .str "FILL" "fill", .str "DROP" "drop", .glo "AMOUNTS", .glo "NoLetter", .exm "NoLetter" "NoLetter" true, .keep "NoLetter", .noat "NoLetter" "asked"]
def faA : List He.Fa := faL0 ++ faL1 ++ faL2 ++ faL3
def prL : List (PySem.Str × PySem.Str) := [("Row", "spans"), ("Step", "kind"), ("Step", "amounts"), ("Pipeline", "heights"), ("Pipeline", "word"), ("Pipeline", "fills"), ("Pipeline", "drops"), ("Pipeline", "starts"), ("Pipeline", "ends")]
def prB (K : Frag) (c m : PySem.Str) : Bool := He.eqO (findIn K (.ref (He.ga K c)) m) (some (some (.ref (He.ma K (He.ga K c) m)))) && (He.eqO (specialIn K (.ref (He.ma K (He.ga K c) m)) "__get__") (some (some (.builtin "property.__get__"))) && (decide (takesIn K (.ref (He.ma K (He.ga K c) m)) = some true) &&
  (match recIn K (He.ma K (He.ga K c) m) "property" with
  | some (.ref _ :: _) => true
  | _ => false)))
def eTupB (K : Frag) (a : Addr) : Bool := match K.lookup a with
  | some ⟨.type c, _, .seq its _, _⟩ => decide (c = "tuple") && its.isEmpty
  | _ => false
def nlF (K : Frag) : Addr := He.ma K (He.ga K "NoLetter") "__init__"
def nlCell (K : Frag) : Addr := match K.lookup (nlF K) with
  | some ⟨_, _, .func fd, _⟩ => (match fd.closure with
    | [(_, c)] => c
    | _ => 0)
  | _ => 0
def nlCode (K : Frag) : Addr := match K.lookup (nlF K) with
  | some ⟨_, _, .func fd, _⟩ => (match fd.code with
    | .ref c => c
    | _ => 0)
  | _ => 0
def nlClsB (K : Frag) (C : Addr) : Bool := match K.lookup C with
  | some ⟨.type t, _, .cls cd, sl⟩ => decide (t = "type") && (decide (cd.mro = .ref C :: lkTail) && (cd.hasDict && (!cd.hasDel && (match sl.toList with
    | [_, _, _, _, some (.builtin n), _] => decide (n = "LookupError.__new__")
    | _ => false))))
  | _ => false
def nlFnB (K : Frag) : Bool := match K.lookup (nlF K) with
  | some ⟨_, _, .func fd, _⟩ => decide (fd.closure = [(("__class__" : PySem.Str), nlCell K)]) && (decide (fd.defaults = .none) && (decide (fd.kwdefaults = .none) && (decide (fd.code = .ref (nlCode K)) && codeIn K fd.code "NoLetter.__init__")))
  | _ => false
def nlCellB (K : Frag) : Bool := match K.lookup (nlCell K) with
  | some ⟨_, _, .cell (some (.ref a)), _⟩ => decide (a = He.ga K "NoLetter")
  | _ => false
def nlFileB (K : Frag) : Bool := match K.lookup (nlCode K) with
  | some ⟨_, _, .fields vs, _⟩ => (match (vs[2]? : Option Value) with
    | some (.str f _) => decide (f = RR.prog.main.file)
    | _ => false)
  | _ => false
/-- the rest of what is asked of the top -/
def exA (K : Frag) : Bool := (prL.all fun p => prB K p.1 p.2) && (eTupB K (He.dflAt ("Row", some "__init__") 0 K) && (selfFirst K (He.ga K "Row") && (He.eqO (findIn K (.ref (He.ga K "Row")) "__class__") (some (some (.builtin "object.__class__"))) && (He.eqO (specialIn K (.builtin "object.__class__") "__get__") (some (some (.builtin "getset_descriptor.__get__"))) &&
  (decide (takesIn K (.builtin "object.__class__") = some true) && (decide (mroIn K (He.ga K "Row") (.type "object") = some true) && (fnIn K (He.ma K (He.ga K "Step") "__call__") && (fnIn K (He.ma K (He.ga K "Pipeline") "__call__") &&
  He.valsB K (He.ga K "AMOUNTS") [("fill", .int 1), ("drop", .int 1), ("widen", .int 2), ("trim", .int 2), ("shift", .int 1)]))))))))
def exN (K : Frag) : Bool := nlClsB K (He.ga K "NoLetter") && (He.eqO (findIn K (.ref (He.ga K "NoLetter")) "__setattr__") (some (some (.builtin "object.__setattr__"))) && (He.eqO (findIn K (.ref (He.ga K "NoLetter")) "__init__") (some (some (.ref (nlF K)))) && (decide (typeIn K (.ref (nlF K)) = some (.type "function")) &&
  (decide (subIn K (.ref (He.ga K "NoLetter")) (.type "BaseException") = some true) && (decide (subIn K (.ref (He.ga K "NoLetter")) (.type "LookupError") = some true) && (decide (typeIn K (.ref (He.ga K "NoLetter")) = some (.type "type")) && (He.eqO (nsIn K cStatics "thirdparty.any") (some none) &&
  (nlFnB K && (nlCellB K && nlFileB K)))))))))
/-! ### the Hook -/
/-- what is named, the code objects' own left out -/
def grow1 (g : Addr → Option Obj) (as : List Addr) : List Addr := (as ++ as.flatMap fun a => match g a with
  | some o => (match o.data, o.dict with
    | .fields _, some d => He.refsD o
    | .fields vs, none => (match o.cls with
      | .type c => (match decide (c = "property") with
        | true => He.refsD o
        | false => [])
      | _ => [])
    | _, _ => He.refsD o)
  | none => []).eraseDups
def asC (g : Addr → Option Obj) : Nat → List Addr
  | 0 => [mainGlobals]
  | n + 1 => grow1 g (asC g n)
abbrev FnN : Type := Option (PySem.Str × PySem.Str × Arguments × FuncBody × Scope × Addr × Addr)
def nlObs (K : Frag) : FnN := match K.lookup (nlF K) with
  | some ⟨_, _, .func fd, _⟩ => some (fd.name, fd.qualname, fd.params, fd.body, fd.scope, fd.globals, fd.builtins)
  | _ => none
def nlVal : FnN := some ("__init__", "NoLetter.__init__", L2.defArgs s_NoLetter_init, .stmts (L2.defBody s_NoLetter_init), L2.defScope s_NoLetter_init, mainGlobals, builtinsNs)
def amKeys : List PySem.Str := ["fill", "drop", "widen", "trim", "shift"]
abbrev AlC : Type := (He.AlD × Option (List (Option (PySem.Str × Int)))) × (Bool × FnN)
def obsC (K : Frag) : AlC := ((He5.obsA faA fnA K, He.dicW K (He.ga K "AMOUNTS")), (exA K && exN K, nlObs K))
def valC (w : World) : AlC := ((He5.valA fnA, some (He.keysIn w.params amKeys)), (true, nlVal))
def obsCG (g : Addr → Option Obj) : AlC := obsC (He.frG g (asC g 5 ++ [cStatics]))
def hookC : PySem.W.Hook where
  α := AlC
  obs := fun s => obsCG s.heap.get?
  val := fun w => valC w
  says := fun w h => ∃ K : Frag, K.In h ∧ obsC K = valC w
  of := fun _ _ e => ⟨_, He.frG_in, e⟩
  keeps := fun _ _ _ ⟨K, hK, c⟩ k => ⟨K, Frag.In.keeps hK k, c⟩
def obC (s : SharedT) : AlC := obsCG (HandSHeadRun.getT s)
theorem obC_eq (s : SharedT) : obC s = hookC.obs s.abs := by
  have e : HandSHeadRun.getT s = s.abs.heap.get? := funext (HandSHeadRun.getT_eq s)
  show obsCG (HandSHeadRun.getT s) = obsCG s.abs.heap.get?
  rw [e]
end Cw
namespace Cw
open PySem PySem.W PySem.Calls PyProof.Rows
theorem run0 (w : World) : HandSHeadRun.RunEq RR qv hookC obC 7500 nmsA (w.withFollow "special-get-raises" false) := by
  intro os
  kernel_rfl
end Cw
namespace Cw
open PySem PySem.W PySem.Calls PyProof.Rows
theorem run1 (w : World) : HandSHeadRun.RunEq RR qv hookC obC 7500 nmsA (w.withFollow "special-get-raises" true) := by
  intro os
  kernel_rfl
end Cw
namespace Cw
open PySem PySem.W PySem.Calls PyProof.Rows
theorem ba {a b : Bool} (h : (a && b) = true) : a = true ∧ b = true := Bool.and_eq_true_iff.mp h
theorem prB_ok {K : Frag} {c m : PySem.Str} (h : prB K c m = true) : L2.PropOf K (He.ga K c) m (He.ma K (He.ga K c) m) (pgO K (He.ga K c) m) := by
  obtain ⟨h1, h⟩ := ba h
  obtain ⟨h2, h⟩ := ba h
  obtain ⟨h3, h4⟩ := ba h
  refine ⟨He.eqO_ok h1, He.eqO_ok h2, of_decide_eq_true h3, ?_⟩
  unfold pgO
  split at h4
  · rename_i f r e
    exact ⟨r, by rw [e]⟩
  · cases h4
theorem eTupB_ok {K : Frag} {a : Addr} (h : eTupB K a = true) : L2.SqT K (fun _ => none) a [] := by
  unfold eTupB at h
  split at h
  · rename_i c d its n sl e
    obtain ⟨h1, h2⟩ := ba h
    have h2 : its = #[] := Array.isEmpty_iff.mp h2
    subst h2
    exact .inr ⟨_, #[], n, e, congrArg Value.type (of_decide_eq_true h1), rfl, Nat.zero_le _, .nil⟩
  · cases h
theorem nlClsB_ok {K : Frag} {C : Addr} (h : nlClsB K C = true) : ∃ nm q N bs sn sub ab col dd k0 k1 k2 k3 k5, K.lookup C = some (excClassObj nm q C N bs lkTail true sn sub ab col dd k0 k1 k2 k3 k5 "LookupError.__new__") := by
  unfold nlClsB at h
  split at h
  · rename_i t dd cd sl e
    obtain ⟨h0, h⟩ := ba h
    obtain ⟨h1, h⟩ := ba h
    obtain ⟨h2, h⟩ := ba h
    obtain ⟨h3, h4⟩ := ba h
    have h0 : t = "type" := of_decide_eq_true h0
    have h1 : cd.mro = .ref C :: lkTail := of_decide_eq_true h1
    obtain ⟨nm, bs, mro, ns, qn, hd, sn, sub, ab, col, del⟩ := cd
    dsimp only at h1 h2 h3
    subst h0 h1 h2
    have h3 : del = false := by
      cases del with
      | false => rfl
      | true => cases h3
    subst h3
    split at h4
    · rename_i k0 k1 k2 k3 n k5 hs
      have hn : n = "LookupError.__new__" := of_decide_eq_true h4
      subst hn
      have hsl : sl = #[k0, k1, k2, k3, some (.builtin "LookupError.__new__"), k5] := by
        obtain ⟨l⟩ := sl
        simp only at hs
        rw [hs]
      subst hsl
      exact ⟨nm, qn, ns, bs, sn, sub, ab, col, dd, k0, k1, k2, k3, k5, e⟩
    · cases h4
  · cases h
theorem nlFn_ok {K : Frag} (c : nlObs K = nlVal) (h : nlFnB K = true) : ∃ oc od osl doc pm an ct, K.lookup (nlF K) = some ⟨oc, od, .func (ksFn "__init__" "NoLetter.__init__" (L2.defArgs s_NoLetter_init) (L2.defBody s_NoLetter_init) (L2.defScope s_NoLetter_init) .none .none doc pm an (.ref (nlCode K)) ct (nlCell K)), osl⟩ ∧ codeIn K (.ref (nlCode K)) "NoLetter.__init__" = true := by
  unfold nlObs at c
  unfold nlFnB at h
  cases q : K.lookup (nlF K) with
  | none => rw [q] at h; cases h
  | some o =>
    obtain ⟨oc, od, dt, osl⟩ := o
    rw [q] at c h
    cases dt with
    | func fd =>
      obtain ⟨n1, n2, n3, n4, n5, n6, n7, n8, n9, n10, n11, n12, n13, n14, n15⟩ := fd
      have e2 : (some (n1, n2, n3, n4, n5, n6, n15) : FnN) = nlVal := c
      unfold nlVal at e2
      simp only [Option.some.injEq, Prod.mk.injEq] at e2
      obtain ⟨h1, h2, h3, h4, h5, h6, h7⟩ := e2
      dsimp only at h
      obtain ⟨g1, h⟩ := ba h
      obtain ⟨g2, h⟩ := ba h
      obtain ⟨g3, h⟩ := ba h
      obtain ⟨g4, g5⟩ := ba h
      have k1 : n7 = [(("__class__" : PySem.Str), nlCell K)] := of_decide_eq_true g1
      have k2 : n8 = .none := of_decide_eq_true g2
      have k3 : n9 = .none := of_decide_eq_true g3
      have k4 : n13 = .ref (nlCode K) := of_decide_eq_true g4
      clear g1 g2 g3 g4 h c
      subst h1 h2 h3 h4 h5 h6 h7 k1 k2 k3 k4
      exact ⟨oc, od, osl, n10, n11, n12, n14, rfl, g5⟩
    | _ => cases h
theorem nlCell_ok {K : Frag} (h : nlCellB K = true) : ∃ cl cld csl, K.lookup (nlCell K) = some ⟨cl, cld, .cell (some (.ref (He.ga K "NoLetter"))), csl⟩ := by
  unfold nlCellB at h
  split at h
  · rename_i a b c d e
    rw [of_decide_eq_true h] at e
    exact ⟨_, _, _, e⟩
  · cases h
theorem nlFile_ok {K : Frag} (h : nlFileB K = true) : ∃ ccl cdd vs ccs tf, K.lookup (nlCode K) = some ⟨ccl, cdd, .fields vs, ccs⟩ ∧ vs[2]? = some (.str RR.prog.main.file tf) := by
  unfold nlFileB at h
  split at h
  · rename_i a b vs d e
    split at h
    · rename_i f t e2
      rw [of_decide_eq_true h] at e2
      exact ⟨_, _, vs, _, t, e, e2⟩
    · cases h
  · cases h
theorem nl_of {w : World} {K : Frag} {h : Heap} {mg : PySem.Str → Option Value} (X : K.In h) (G : h.Ns mainGlobals mg) (c : obsC K = valC w) : NlTxt RR.prog K mg (He.ga K "NoLetter") (nlF K) := by
  have S : He5.SaysA faA fnA K := congrArg (fun z : AlC => z.1.1) c
  have c3 : (exA K && exN K) = true := congrArg (fun z : AlC => z.2.1) c
  have c4 : nlObs K = nlVal := congrArg (fun z : AlC => z.2.2) c
  obtain ⟨_, h⟩ := ba c3
  obtain ⟨h1, h⟩ := ba h
  obtain ⟨h2, h⟩ := ba h
  obtain ⟨h3, h⟩ := ba h
  obtain ⟨h4, h⟩ := ba h
  obtain ⟨h5, h⟩ := ba h
  obtain ⟨h6, h⟩ := ba h
  obtain ⟨h7, h⟩ := ba h
  obtain ⟨h8, h⟩ := ba h
  obtain ⟨h9, h⟩ := ba h
  obtain ⟨h10, h11⟩ := ba h
  obtain ⟨oc, od, osl, doc, pm, an, ct, f1, f2⟩ := nlFn_ok c4 h9
  obtain ⟨cl, cld, csl, f3⟩ := nlCell_ok h10
  obtain ⟨ccl, cdd, vs, ccs, tf, f4, f5⟩ := nlFile_ok h11
  exact {
    gC := He.glo_ok X G (S.fact 87 (f := .glo "NoLetter") rfl), cls := nlClsB_ok h1, sa := He.eqO_ok h2, noN := He.noat_ok (S.fact 90 (f := .noat "NoLetter" "asked") rfl), iC := He.eqO_ok h3, tC := of_decide_eq_true h4, kC := He.keep_ok (S.fact 89 (f := .keep "NoLetter") rfl), exC := of_decide_eq_true h5, lkC := of_decide_eq_true h6, tyC := of_decide_eq_true h7, thr := He.eqO_ok h8, sup := He.free_ok X G (S.fact 63 (f := .free "super") rfl), te := He.exm_ok (S.fact 88 (f := .exm "NoLetter" "NoLetter" true) rfl), fn := ⟨oc, od, doc, pm, an, nlCode K, ct, osl, nlCell K, cl, ccl, cld, cdd, csl, ccs, vs, tf, f1, f2, f3, f4, f5⟩, top := by kernel_rfl }
theorem top_of {w : World} {K : Frag} {h : Heap} {mg : PySem.Str → Option Value} (X : K.In h) (G : h.Ns mainGlobals mg) (c : obsC K = valC w) : ∃ T : Top w K mg, T.law.f = He.ga K "law" := by
  have S : He5.SaysA faA fnA K := congrArg (fun z : AlC => z.1.1) c
  have c2 : He.dicW K (He.ga K "AMOUNTS") = some (He.keysIn w.params amKeys) := congrArg (fun z : AlC => z.1.2) c
  have c3 : (exA K && exN K) = true := congrArg (fun z : AlC => z.2.1) c
  obtain ⟨h, _⟩ := ba c3
  obtain ⟨hP, h⟩ := ba h
  obtain ⟨h1, h⟩ := ba h
  obtain ⟨h2, h⟩ := ba h
  obtain ⟨h3, h⟩ := ba h
  obtain ⟨h4, h⟩ := ba h
  obtain ⟨h5, h⟩ := ba h
  obtain ⟨h6, h⟩ := ba h
  obtain ⟨h7, h⟩ := ba h
  obtain ⟨h8, h9⟩ := ba h
  have hP := List.all_eq_true.mp hP
  obtain ⟨fd0, F0⟩ := S.def_ 0 (d := dN "is_number" "is_number" s_is_number) rfl
  obtain ⟨fd1, F1⟩ := S.def_ 1 (d := dN "pair_of" "pair_of" s_pair_of) rfl
  obtain ⟨fd2, F2⟩ := S.def_ 2 (d := dN "tupled" "tupled" s_tupled) rfl
  obtain ⟨fd3, F3⟩ := S.def_ 3 (d := dN "run_together" "run_together" s_run_together) rfl
  obtain ⟨fd4, F4⟩ := S.def_ 4 (d := dN "letters" "letters" s_letters) rfl
  obtain ⟨fd5, F5⟩ := S.def_ 5 (d := dN "along" "along" s_along) rfl
  obtain ⟨fd6, F6⟩ := S.def_ 6 (d := dN "ahead" "ahead" s_ahead) rfl
  obtain ⟨fd7, F7⟩ := S.def_ 7 (d := dN "drops_ahead" "drops_ahead" s_drops_ahead) rfl
  obtain ⟨fd8, F8⟩ := S.def_ 8 (d := dN "joined_spans" "joined" s_joined) rfl
  obtain ⟨fd9, F9⟩ := S.def_ 9 (d := dN "comb" "comb" s_comb) rfl
  obtain ⟨fd10, F10⟩ := S.def_ 10 (d := dN "is_good" "is_good" s_is_good) rfl
  obtain ⟨fd11, F11⟩ := S.def_ 11 (d := dN "filled" "filled" s_filled) rfl
  obtain ⟨fd12, F12⟩ := S.def_ 12 (d := dN "moved" "moved" s_moved) rfl
  obtain ⟨fd13, F13⟩ := S.def_ 13 (d := dN "swings_of" "swings_of" s_swings_of) rfl
  obtain ⟨fd14, F14⟩ := S.def_ 14 (d := dN "edges_of" "edges_of" s_edges_of) rfl
  obtain ⟨fd15, F15⟩ := S.def_ 15 (d := dN "fill_first" "fill_first" s_fill_first) rfl
  obtain ⟨fd16, F16⟩ := S.def_ 16 (d := dN "many_for" "many_for" s_many_for) rfl
  obtain ⟨fd17, F17⟩ := S.def_ 17 (d := dN "spare_any" "spare_any" s_spare_any) rfl
  obtain ⟨fd18, F18⟩ := S.def_ 18 (d := dN "touch_pair" "touch_pair" s_touch_pair) rfl
  obtain ⟨fd19, F19⟩ := S.def_ 19 (d := dN "spare_any_rows" "spare_any_rows" s_spare_any_rows) rfl
  obtain ⟨fd20, F20⟩ := S.def_ 20 (d := dN "_law_box" "_law_box" s_law_box) rfl
  obtain ⟨fd21, F21⟩ := S.def_ 21 (d := dN "_law_take" "_law_take" s_law_take) rfl
  obtain ⟨fd22, F22⟩ := S.def_ 22 (d := dN "_law_cells" "_law_cells" s_law_cells) rfl
  obtain ⟨fd23, F23⟩ := S.def_ 23 (d := dN "_law_of" "_law_of" s_law_of) rfl
  obtain ⟨fd24, F24⟩ := S.def_ 24 (d := dN "_law_same" "_law_same" s_law_same) rfl
  obtain ⟨fd25, F25⟩ := S.def_ 25 (d := dN "_law_stride" "_law_stride" s_law_stride) rfl
  obtain ⟨fd26, F26⟩ := S.def_ 26 (d := dN "_law_line" "_law_line" s_law_line) rfl
  obtain ⟨fd27, F27⟩ := S.def_ 27 (d := dN "_law_still" "_law_still" s_law_still) rfl
  obtain ⟨fd28, F28⟩ := S.def_ 28 (d := dN "_law_host" "_law_host" s_law_host) rfl
  obtain ⟨fd29, F29⟩ := S.def_ 29 (d := dN "_law_edges" "_law_edges" s_law_edges) rfl
  obtain ⟨fd30, F30⟩ := S.def_ 30 (d := dN "_law_trip" "_law_trip" s_law_trip) rfl
  obtain ⟨fd31, F31⟩ := S.def_ 31 (d := dN "_law_spell" "_law_spell" s_law_spell) rfl
  obtain ⟨fd32, F32⟩ := S.def_ 32 (d := dN "_law_rising" "_law_rising" s_law_rising) rfl
  obtain ⟨fd33, F33⟩ := S.def_ 33 (d := dN "_law_one" "_law_one" s_law_one) rfl
  obtain ⟨fd34, F34⟩ := S.def_ 34 (d := dN "_law_made" "_law_made" s_law_made) rfl
  obtain ⟨fd35, F35⟩ := S.def_ 35 (d := dN "_law_track" "_law_track" s_law_track) rfl
  obtain ⟨fd36, F36⟩ := S.def_ 36 (d := dN "_law_first" "_law_first" s_law_first) rfl
  obtain ⟨fd37, F37⟩ := S.def_ 37 (d := dN "_law_soft" "_law_soft" s_law_soft) rfl
  obtain ⟨fd38, F38⟩ := S.def_ 38 (d := dN "_law_due" "_law_due" s_law_due) rfl
  obtain ⟨fd39, F39⟩ := S.def_ 39 (d := dN "_law_like" "_law_like" s_law_like) rfl
  obtain ⟨fd40, F40⟩ := S.def_ 40 (d := dN "_law_host_right" "_law_host_right" s_law_host_right) rfl
  obtain ⟨fd41, F41⟩ := S.def_ 41 (d := dN "_law_rows_right" "_law_rows_right" s_law_rows_right) rfl
  obtain ⟨fd42, F42⟩ := S.def_ 42 (d := dN "_law_read" "_law_read" s_law_read) rfl
  obtain ⟨fd43, F43⟩ := S.def_ 43 (d := dN "_law_great" "_law_great" s_law_great) rfl
  obtain ⟨fd44, F44⟩ := S.def_ 44 (d := dN "_law_by_hand_right" "_law_by_hand_right" s_law_by_hand_right) rfl
  obtain ⟨fd45, F45⟩ := S.def_ 45 (d := dN "_law_right" "_law_right" s_law_right) rfl
  obtain ⟨fd46, F46⟩ := S.def_ 46 (d := dN "law" "law" s_law) rfl
  obtain ⟨fd47, F47⟩ := S.def_ 47 (d := dM "Row" "__or__" "Row.__or__" s_Row_or) rfl
  obtain ⟨fd48, F48⟩ := S.def_ 48 (d := dM "Row" "__eq__" "Row.__eq__" s_Row_eq) rfl
  obtain ⟨fd49, F49⟩ := S.def_ 49 (d := dM "Step" "__init__" "Step.__init__" s_Step_init) rfl
  obtain ⟨fd50, F50⟩ := S.def_ 50 (d := dM "Step" "__call__" "Step.__call__" s_Step_call) rfl
  obtain ⟨fd51, F51⟩ := S.def_ 51 (d := dM "Pipeline" "__call__" "Pipeline.__call__" s_Pipeline_call) rfl
  obtain ⟨fd52, F52⟩ := S.def_ 52 (d := dP "Row" "spans" "Row.spans" s_Row_spans) rfl
  obtain ⟨fd53, F53⟩ := S.def_ 53 (d := dP "Step" "kind" "Step.kind" s_Step_kind) rfl
  obtain ⟨fd54, F54⟩ := S.def_ 54 (d := dP "Step" "amounts" "Step.amounts" s_Step_amounts) rfl
  obtain ⟨fd55, F55⟩ := S.def_ 55 (d := dP "Pipeline" "heights" "Pipeline.heights" s_Pipeline_heights) rfl
  obtain ⟨fd56, F56⟩ := S.def_ 56 (d := dP "Pipeline" "word" "Pipeline.word" s_Pipeline_word) rfl
  obtain ⟨fd57, F57⟩ := S.def_ 57 (d := dP "Pipeline" "fills" "Pipeline.fills" s_Pipeline_fills) rfl
  obtain ⟨fd58, F58⟩ := S.def_ 58 (d := dP "Pipeline" "drops" "Pipeline.drops" s_Pipeline_drops) rfl
  obtain ⟨fd59, F59⟩ := S.def_ 59 (d := dP "Pipeline" "starts" "Pipeline.starts" s_Pipeline_starts) rfl
  obtain ⟨fd60, F60⟩ := S.def_ 60 (d := dP "Pipeline" "ends" "Pipeline.ends" s_Pipeline_ends) rfl
  obtain ⟨fd61, F61⟩ := S.def_ 61 (d := dI "Row" "Row.__init__" s_Row_init) rfl
  obtain ⟨fd62, F62⟩ := S.def_ 62 (d := dI "Pipeline" "Pipeline.__init__" s_Pipeline_init) rfl
  have a0 : ∃ t, nsIn K (He.ga K "AMOUNTS") "fill" = some (some (.int 1 t)) := by
    obtain ⟨u, e1, t, e2⟩ := He.valsB_ok h9 (q := ("fill", .int 1)) (List.mem_of_getElem? (i := 0) rfl)
    exact ⟨t, by rw [e1, e2]⟩
  have a1 : ∃ t, nsIn K (He.ga K "AMOUNTS") "drop" = some (some (.int 1 t)) := by
    obtain ⟨u, e1, t, e2⟩ := He.valsB_ok h9 (q := ("drop", .int 1)) (List.mem_of_getElem? (i := 1) rfl)
    exact ⟨t, by rw [e1, e2]⟩
  have a2 : ∃ t, nsIn K (He.ga K "AMOUNTS") "widen" = some (some (.int 2 t)) := by
    obtain ⟨u, e1, t, e2⟩ := He.valsB_ok h9 (q := ("widen", .int 2)) (List.mem_of_getElem? (i := 2) rfl)
    exact ⟨t, by rw [e1, e2]⟩
  have a3 : ∃ t, nsIn K (He.ga K "AMOUNTS") "trim" = some (some (.int 2 t)) := by
    obtain ⟨u, e1, t, e2⟩ := He.valsB_ok h9 (q := ("trim", .int 2)) (List.mem_of_getElem? (i := 3) rfl)
    exact ⟨t, by rw [e1, e2]⟩
  have a4 : ∃ t, nsIn K (He.ga K "AMOUNTS") "shift" = some (some (.int 1 t)) := by
    obtain ⟨u, e1, t, e2⟩ := He.valsB_ok h9 (q := ("shift", .int 1)) (List.mem_of_getElem? (i := 4) rfl)
    exact ⟨t, by rw [e1, e2]⟩
  obtain ⟨tF, hF⟩ := He.str_ok X G (S.fact 84 (f := .str "FILL" "fill") rfl)
  obtain ⟨tD, hD⟩ := He.str_ok X G (S.fact 85 (f := .str "DROP" "drop") rfl)
  exact ⟨{
    is_number := ⟨He.ga K "is_number", fd0, He5.fun_of (st := s_is_number) F0, He.glo_ok X G (S.fact 0 (f := .glo "is_number") rfl)⟩
    pair_of := ⟨He.ga K "pair_of", fd1, He5.fun_of (st := s_pair_of) F1, He.glo_ok X G (S.fact 1 (f := .glo "pair_of") rfl)⟩
    tupled := ⟨He.ga K "tupled", fd2, He5.fun_of (st := s_tupled) F2, He.glo_ok X G (S.fact 2 (f := .glo "tupled") rfl)⟩
    run_together := ⟨He.ga K "run_together", fd3, He5.fun_of (st := s_run_together) F3, He.glo_ok X G (S.fact 3 (f := .glo "run_together") rfl)⟩
    letters := ⟨He.ga K "letters", fd4, He5.fun_of (st := s_letters) F4, He.glo_ok X G (S.fact 4 (f := .glo "letters") rfl)⟩
    along := ⟨He.ga K "along", fd5, He5.fun_of (st := s_along) F5, He.glo_ok X G (S.fact 5 (f := .glo "along") rfl)⟩
    ahead := ⟨He.ga K "ahead", fd6, He5.fun_of (st := s_ahead) F6, He.glo_ok X G (S.fact 6 (f := .glo "ahead") rfl)⟩
    drops_ahead := ⟨He.ga K "drops_ahead", fd7, He5.fun_of (st := s_drops_ahead) F7, He.glo_ok X G (S.fact 7 (f := .glo "drops_ahead") rfl)⟩
    joined := ⟨He.ga K "joined_spans", fd8, He5.fun_of (st := s_joined) F8, He.glo_ok X G (S.fact 8 (f := .glo "joined_spans") rfl)⟩
    comb := ⟨He.ga K "comb", fd9, He5.fun_of (st := s_comb) F9, He.glo_ok X G (S.fact 9 (f := .glo "comb") rfl)⟩
    is_good := ⟨He.ga K "is_good", fd10, He5.fun_of (st := s_is_good) F10, He.glo_ok X G (S.fact 10 (f := .glo "is_good") rfl)⟩
    filled := ⟨He.ga K "filled", fd11, He5.fun_of (st := s_filled) F11, He.glo_ok X G (S.fact 11 (f := .glo "filled") rfl)⟩
    moved := ⟨He.ga K "moved", fd12, He5.fun_of (st := s_moved) F12, He.glo_ok X G (S.fact 12 (f := .glo "moved") rfl)⟩
    swings_of := ⟨He.ga K "swings_of", fd13, He5.fun_of (st := s_swings_of) F13, He.glo_ok X G (S.fact 13 (f := .glo "swings_of") rfl)⟩
    edges_of := ⟨He.ga K "edges_of", fd14, He5.fun_of (st := s_edges_of) F14, He.glo_ok X G (S.fact 14 (f := .glo "edges_of") rfl)⟩
    fill_first := ⟨He.ga K "fill_first", fd15, He5.fun_of (st := s_fill_first) F15, He.glo_ok X G (S.fact 15 (f := .glo "fill_first") rfl)⟩
    many_for := ⟨He.ga K "many_for", fd16, He5.fun_of (st := s_many_for) F16, He.glo_ok X G (S.fact 16 (f := .glo "many_for") rfl)⟩
    spare_any := ⟨He.ga K "spare_any", fd17, He5.fun_of (st := s_spare_any) F17, He.glo_ok X G (S.fact 17 (f := .glo "spare_any") rfl)⟩
    touch_pair := ⟨He.ga K "touch_pair", fd18, He5.fun_of (st := s_touch_pair) F18, He.glo_ok X G (S.fact 18 (f := .glo "touch_pair") rfl)⟩
    spare_any_rows := ⟨He.ga K "spare_any_rows", fd19, He5.fun_of (st := s_spare_any_rows) F19, He.glo_ok X G (S.fact 19 (f := .glo "spare_any_rows") rfl)⟩
    law_box := ⟨He.ga K "_law_box", fd20, He5.fun_of (st := s_law_box) F20, He.glo_ok X G (S.fact 20 (f := .glo "_law_box") rfl)⟩
    law_take := ⟨He.ga K "_law_take", fd21, He5.fun_of (st := s_law_take) F21, He.glo_ok X G (S.fact 21 (f := .glo "_law_take") rfl)⟩
    law_cells := ⟨He.ga K "_law_cells", fd22, He5.fun_of (st := s_law_cells) F22, He.glo_ok X G (S.fact 22 (f := .glo "_law_cells") rfl)⟩
    law_of := ⟨He.ga K "_law_of", fd23, He5.fun_of (st := s_law_of) F23, He.glo_ok X G (S.fact 23 (f := .glo "_law_of") rfl)⟩
    law_same := ⟨He.ga K "_law_same", fd24, He5.fun_of (st := s_law_same) F24, He.glo_ok X G (S.fact 24 (f := .glo "_law_same") rfl)⟩
    law_stride := ⟨He.ga K "_law_stride", fd25, He5.fun_of (st := s_law_stride) F25, He.glo_ok X G (S.fact 25 (f := .glo "_law_stride") rfl)⟩
    law_line := ⟨He.ga K "_law_line", fd26, He5.fun_of (st := s_law_line) F26, He.glo_ok X G (S.fact 26 (f := .glo "_law_line") rfl)⟩
    law_still := ⟨He.ga K "_law_still", fd27, He5.fun_of (st := s_law_still) F27, He.glo_ok X G (S.fact 27 (f := .glo "_law_still") rfl)⟩
    law_host := ⟨He.ga K "_law_host", fd28, He5.fun_of (st := s_law_host) F28, He.glo_ok X G (S.fact 28 (f := .glo "_law_host") rfl)⟩
    law_edges := ⟨He.ga K "_law_edges", fd29, He5.fun_of (st := s_law_edges) F29, He.glo_ok X G (S.fact 29 (f := .glo "_law_edges") rfl)⟩
    law_trip := ⟨He.ga K "_law_trip", fd30, He5.fun_of (st := s_law_trip) F30, He.glo_ok X G (S.fact 30 (f := .glo "_law_trip") rfl)⟩
    law_spell := ⟨He.ga K "_law_spell", fd31, He5.fun_of (st := s_law_spell) F31, He.glo_ok X G (S.fact 31 (f := .glo "_law_spell") rfl)⟩
    law_rising := ⟨He.ga K "_law_rising", fd32, He5.fun_of (st := s_law_rising) F32, He.glo_ok X G (S.fact 32 (f := .glo "_law_rising") rfl)⟩
    law_one := ⟨He.ga K "_law_one", fd33, He5.fun_of (st := s_law_one) F33, He.glo_ok X G (S.fact 33 (f := .glo "_law_one") rfl)⟩
    law_made := ⟨He.ga K "_law_made", fd34, He5.fun_of (st := s_law_made) F34, He.glo_ok X G (S.fact 34 (f := .glo "_law_made") rfl)⟩
    law_track := ⟨He.ga K "_law_track", fd35, He5.fun_of (st := s_law_track) F35, He.glo_ok X G (S.fact 35 (f := .glo "_law_track") rfl)⟩
    law_first := ⟨He.ga K "_law_first", fd36, He5.fun_of (st := s_law_first) F36, He.glo_ok X G (S.fact 36 (f := .glo "_law_first") rfl)⟩
    law_soft := ⟨He.ga K "_law_soft", fd37, He5.fun_of (st := s_law_soft) F37, He.glo_ok X G (S.fact 37 (f := .glo "_law_soft") rfl)⟩
    law_due := ⟨He.ga K "_law_due", fd38, He5.fun_of (st := s_law_due) F38, He.glo_ok X G (S.fact 38 (f := .glo "_law_due") rfl)⟩
    law_like := ⟨He.ga K "_law_like", fd39, He5.fun_of (st := s_law_like) F39, He.glo_ok X G (S.fact 39 (f := .glo "_law_like") rfl)⟩
    law_host_right := ⟨He.ga K "_law_host_right", fd40, He5.fun_of (st := s_law_host_right) F40, He.glo_ok X G (S.fact 40 (f := .glo "_law_host_right") rfl)⟩
    law_rows_right := ⟨He.ga K "_law_rows_right", fd41, He5.fun_of (st := s_law_rows_right) F41, He.glo_ok X G (S.fact 41 (f := .glo "_law_rows_right") rfl)⟩
    law_read := ⟨He.ga K "_law_read", fd42, He5.fun_of (st := s_law_read) F42, He.glo_ok X G (S.fact 42 (f := .glo "_law_read") rfl)⟩
    law_great := ⟨He.ga K "_law_great", fd43, He5.fun_of (st := s_law_great) F43, He.glo_ok X G (S.fact 43 (f := .glo "_law_great") rfl)⟩
    law_by_hand_right := ⟨He.ga K "_law_by_hand_right", fd44, He5.fun_of (st := s_law_by_hand_right) F44, He.glo_ok X G (S.fact 44 (f := .glo "_law_by_hand_right") rfl)⟩
    law_right := ⟨He.ga K "_law_right", fd45, He5.fun_of (st := s_law_right) F45, He.glo_ok X G (S.fact 45 (f := .glo "_law_right") rfl)⟩
    law := ⟨He.ga K "law", fd46, He5.fun_of (st := s_law) F46, He.glo_ok X G (S.fact 46 (f := .glo "law") rfl)⟩
    Row := ⟨He.ga K "Row", He.glo_ok X G (S.fact 64 (f := .glo "Row") rfl), He.cls_ok (S.fact 65 (f := .cls "Row") rfl), (He.mkr_ok (S.fact 66 (f := .mkr "Row") rfl)).kp, (He.mkr_ok (S.fact 66 (f := .mkr "Row") rfl)).makes⟩
    n_own_spans := He.noat_ok (S.fact 67 (f := .noat "Row" "own_spans") rfl)
    Row_or := ⟨He.ma K (He.ga K "Row") "__or__", fd47, He5.fun_of (st := s_Row_or) F47, He.meth_ok (S.fact 68 (f := .meth "Row" "__or__") rfl)⟩
    Row_eq := ⟨He.ma K (He.ga K "Row") "__eq__", fd48, He5.fun_of (st := s_Row_eq) F48, He.meth_ok (S.fact 69 (f := .meth "Row" "__eq__") rfl)⟩
    Row_spans := ⟨pgO K (He.ga K "Row") "spans", fd52, He.ma K (He.ga K "Row") "spans", He5.fun_of (st := s_Row_spans) F52, prB_ok (hP ("Row", "spans") (by decide +kernel))⟩
    Step := ⟨He.ga K "Step", He.glo_ok X G (S.fact 70 (f := .glo "Step") rfl), He.cls_ok (S.fact 71 (f := .cls "Step") rfl), (He.mkr_ok (S.fact 72 (f := .mkr "Step") rfl)).kp, (He.mkr_ok (S.fact 72 (f := .mkr "Step") rfl)).makes⟩
    n_own_kind := He.noat_ok (S.fact 73 (f := .noat "Step" "own_kind") rfl)
    n_own_amounts := He.noat_ok (S.fact 74 (f := .noat "Step" "own_amounts") rfl)
    Step_init := ⟨He.ma K (He.ga K "Step") "__init__", fd49, He5.fun_of (st := s_Step_init) F49, He.meth_ok (S.fact 75 (f := .meth "Step" "__init__") rfl)⟩
    Step_call := ⟨He.ma K (He.ga K "Step") "__call__", fd50, He5.fun_of (st := s_Step_call) F50, He.meth_ok (S.fact 76 (f := .meth "Step" "__call__") rfl)⟩
    Step_kind := ⟨pgO K (He.ga K "Step") "kind", fd53, He.ma K (He.ga K "Step") "kind", He5.fun_of (st := s_Step_kind) F53, prB_ok (hP ("Step", "kind") (by decide +kernel))⟩
    Step_amounts := ⟨pgO K (He.ga K "Step") "amounts", fd54, He.ma K (He.ga K "Step") "amounts", He5.fun_of (st := s_Step_amounts) F54, prB_ok (hP ("Step", "amounts") (by decide +kernel))⟩
    Pipeline := ⟨He.ga K "Pipeline", He.glo_ok X G (S.fact 77 (f := .glo "Pipeline") rfl), He.cls_ok (S.fact 78 (f := .cls "Pipeline") rfl), (He.mkr_ok (S.fact 79 (f := .mkr "Pipeline") rfl)).kp, (He.mkr_ok (S.fact 79 (f := .mkr "Pipeline") rfl)).makes⟩
    n_own_steps := He.noat_ok (S.fact 80 (f := .noat "Pipeline" "own_steps") rfl)
    Pipeline_call := ⟨He.ma K (He.ga K "Pipeline") "__call__", fd51, He5.fun_of (st := s_Pipeline_call) F51, He.meth_ok (S.fact 81 (f := .meth "Pipeline" "__call__") rfl)⟩
    Pipeline_heights := ⟨pgO K (He.ga K "Pipeline") "heights", fd55, He.ma K (He.ga K "Pipeline") "heights", He5.fun_of (st := s_Pipeline_heights) F55, prB_ok (hP ("Pipeline", "heights") (by decide +kernel))⟩
    Pipeline_word := ⟨pgO K (He.ga K "Pipeline") "word", fd56, He.ma K (He.ga K "Pipeline") "word", He5.fun_of (st := s_Pipeline_word) F56, prB_ok (hP ("Pipeline", "word") (by decide +kernel))⟩
    Pipeline_fills := ⟨pgO K (He.ga K "Pipeline") "fills", fd57, He.ma K (He.ga K "Pipeline") "fills", He5.fun_of (st := s_Pipeline_fills) F57, prB_ok (hP ("Pipeline", "fills") (by decide +kernel))⟩
    Pipeline_drops := ⟨pgO K (He.ga K "Pipeline") "drops", fd58, He.ma K (He.ga K "Pipeline") "drops", He5.fun_of (st := s_Pipeline_drops) F58, prB_ok (hP ("Pipeline", "drops") (by decide +kernel))⟩
    Pipeline_starts := ⟨pgO K (He.ga K "Pipeline") "starts", fd59, He.ma K (He.ga K "Pipeline") "starts", He5.fun_of (st := s_Pipeline_starts) F59, prB_ok (hP ("Pipeline", "starts") (by decide +kernel))⟩
    Pipeline_ends := ⟨pgO K (He.ga K "Pipeline") "ends", fd60, He.ma K (He.ga K "Pipeline") "ends", He5.fun_of (st := s_Pipeline_ends) F60, prB_ok (hP ("Pipeline", "ends") (by decide +kernel))⟩
    e0 := He.dflAt ("Row", some "__init__") 0 K
    e0_t := eTupB_ok h1
    Row_init_f := He.ma K (He.ga K "Row") "__init__"
    Row_init_fd := fd61
    Row_init_F := F61
    Row_init_m := He.meth_ok (S.fact 82 (f := .meth "Row" "__init__") rfl)
    e1 := He.dflAt ("Pipeline", some "__init__") 0 K
    Pipeline_init_f := He.ma K (He.ga K "Pipeline") "__init__"
    Pipeline_init_fd := fd62
    Pipeline_init_F := F62
    Pipeline_init_m := He.meth_ok (S.fact 83 (f := .meth "Pipeline" "__init__") rfl)
    row_first := h2
    row_cls := He.eqO_ok h3
    cls_get := He.eqO_ok h4
    cls_tak := of_decide_eq_true h5
    row_mro := of_decide_eq_true h6
    step_fi := h7
    pipe_fi := h8
    tF := tF
    tD := tD
    FILL := hF
    DROP := hD
    am := He.ga K "AMOUNTS"
    am_g := He.glo_ok X G (S.fact 86 (f := .glo "AMOUNTS") rfl)
    am_d := He.dicW_ok c2
    am_f := a0
    am_dr := a1
    am_w := a2
    am_t := a3
    am_s := a4
    b_len := He.free_ok X G (S.fact 47 (f := .free "len") rfl)
    b_sum := He.free_ok X G (S.fact 48 (f := .free "sum") rfl)
    b_max := He.free_ok X G (S.fact 49 (f := .free "max") rfl)
    b_min := He.free_ok X G (S.fact 50 (f := .free "min") rfl)
    b_abs := He.free_ok X G (S.fact 51 (f := .free "abs") rfl)
    b_all := He.free_ok X G (S.fact 52 (f := .free "all") rfl)
    b_isinstance := He.free_ok X G (S.fact 53 (f := .free "isinstance") rfl)
    b_range := He.free_ok X G (S.fact 54 (f := .free "range") rfl)
    b_enumerate := He.free_ok X G (S.fact 55 (f := .free "enumerate") rfl)
    b_zip := He.free_ok X G (S.fact 56 (f := .free "zip") rfl)
    b_sorted := He.free_ok X G (S.fact 57 (f := .free "sorted") rfl)
    b_int := He.free_ok X G (S.fact 58 (f := .free "int") rfl)
    b_bool := He.free_ok X G (S.fact 59 (f := .free "bool") rfl)
    b_list := He.free_ok X G (S.fact 60 (f := .free "list") rfl)
    b_tuple := He.free_ok X G (S.fact 61 (f := .free "tuple") rfl)
    b_str := He.free_ok X G (S.fact 62 (f := .free "str") rfl) }, rfl⟩
end Cw
open PySem PySem.W PySem.Calls PyProof.Rows
namespace Cw
theorem runs (w : World) : HandSHeadRun.RunEq RR qv hookC obC 7500 nmsA w := PySem.W.byRow2 "special-get-raises" (P := fun w => HandSHeadRun.RunEq RR qv hookC obC 7500 nmsA w) run0 run1 w
end Cw
theorem PySem.Challenge.cw_cleanspans_k93_whole_a_cleaner_left_out_holds : PySem.Challenge.rw_cleanspans_k93_whole_a_cleaner_left_out.Holds := by
  w_on; o_law
  refine HandSHeadRun.head_any (r := Cw.RR) (q := Cw.qv) (H := Cw.hookC) (ob := Cw.obC) (M := 7500) (loose := Cw.nmsA) (d := HandSHeadRun.topDef Cw.RR.prog 87) (kwd := []) Cw.obC_eq
    (by kernel_rfl) (fun s => by kernel_rfl) Cw.runs (by kernel_rfl) (by kernel_rfl) (by kernel_rfl) (by rfl) (by first | assumption | decide +kernel) (by decide +kernel) ⟨rfl, rfl, rfl, rfl, rfl, by decide +kernel⟩ ?hw ?hc
  case hw => w_witness2
  case hc =>
    refine L2.walk_ofE (l := PySem.Challenge.rw_cleanspans_k93_whole_a_cleaner_left_out) (n := 63) (k := 40) (x := "_law_script") (CX := L2.CX0) rfl (by decide) (by kernel_rfl) ⟨rfl, by decide, by decide⟩ ?F (fun _ _ _ _ z => z)
    intro w mg fa h Y G hmg0
    obtain ⟨K, KX, c⟩ := Y
    have hmg : mg ("law" : PySem.Str) = some (.ref fa) := by
      have e : (HandSHeadRun.topDef Cw.RR.prog 87).name = ("law" : PySem.Str) := by kernel_rfl
      rw [← e]
      exact hmg0
    obtain ⟨T, eT⟩ := Cw.top_of KX G c
    have nl := Cw.nl_of KX G c
    have e := hmg.symm.trans T.law.g
    cases e
    exact ⟨K, T.law.fd, Cw.spLaw K, KX, fun s u => by
      obtain ⟨oc, od, kV, doc, pm, an, cdv, ct, osl, e2, _⟩ := T.law.F.ex
      rw [e2]
      exact .of_eq rfl, fun H a ns hl _ hS => ⟨a, ns, rfl, hS, hl, fun _ => rfl⟩, fun base _ _ => (Cw.ok_law T nl).mono (by decide)⟩
