import PyProof.Rows.All
import Wide.All
import OpenK.AllK
import Wide.FinOn
import HandS.ForMost
import HandS.Codes
import HandS.Property
import HandS.OwnEq
import HandS.More
import HandS.Star
import HandS.Walk
import HandS.Zip
import KE.GoesMore
import HandS.Defaults
import HandS.IsInst
import HandS.DictComp
import HandS.TupAny
import HandS.Style
import HandS.Conv
import HandS.HeadHook2
import HandS.Head0
import HandS.Head1
import HandS.Head2
import HandS.HeadEnd
import HandS.HeadHook1
import HandS.Strs
import HandS.Text
import KE.KDictKeyed
import HandS.NoneIn
import HandS.GenList
import HandS.Ends
import HandS.HeadHook4
import HandS.HeadWalk
import HandS.Words
import PySem.Challenge.RW_lostdesk_k18_whole_pairs_and_groups
set_option Elab.async false
set_option linter.all false
set_option maxRecDepth 100000
set_option maxHeartbeats 0
/-! Km1 -/
namespace Ld
section
variable {α : Type} [DecidableEq α]

abbrev Opts (α : Type) := List (α × List α)

/-- all lists of k pairs, in order -/
def W : Opts α → List α → Nat → List (List (α × α))
  | [], _, 0 => [[]]
  | [], _, _ + 1 => []
  | _ :: r, tk, 0 => W r tk 0
  | (c, ts) :: r, tk, k + 1 => (ts.flatMap fun t => if t ∈ tk then [] else (W r (t :: tk) k).map ((c, t) :: ·)) ++ W r tk (k + 1)

/-- the greatest number of pairs -/
def nu : Opts α → List α → Nat
  | [], _ => 0
  | (_, ts) :: r, tk => ts.foldr (fun t m => if t ∈ tk then m else max (nu r (t :: tk) + 1) m) (nu r tk)

theorem fold_skip (f : α → Nat) (tk : List α) (b : Nat) : ∀ ts : List α, b ≤ ts.foldr (fun t m => if t ∈ tk then m else max (f t) m) b
  | [] => Nat.le_refl _
  | t :: ts => by
    have ih := fold_skip f tk b ts
    rw [List.foldr_cons]
    split
    · exact ih
    · exact Nat.le_trans ih (Nat.le_max_right _ _)
theorem fold_mem (f : α → Nat) (tk : List α) (b : Nat) {x : α} (hx : ¬ x ∈ tk) : ∀ ts : List α, x ∈ ts → f x ≤ ts.foldr (fun t m => if t ∈ tk then m else max (f t) m) b
  | [], h => by cases h
  | t :: ts, h => by
    rw [List.foldr_cons]
    rcases List.mem_cons.mp h with e | h
    · subst e
      rw [if_neg hx]
      exact Nat.le_max_left _ _
    · have ih := fold_mem f tk b hx ts h
      split
      · exact ih
      · exact Nat.le_trans ih (Nat.le_max_right _ _)
theorem fold_cases (f : α → Nat) (tk : List α) (b : Nat) : ∀ ts : List α, ts.foldr (fun t m => if t ∈ tk then m else max (f t) m) b = b ∨
    ∃ t, t ∈ ts ∧ ¬ t ∈ tk ∧ ts.foldr (fun t m => if t ∈ tk then m else max (f t) m) b = f t
  | [] => .inl rfl
  | t :: ts => by
    rw [List.foldr_cons]
    have ih := fold_cases f tk b ts
    by_cases h : t ∈ tk
    · rw [if_pos h]
      rcases ih with e | ⟨x, h1, h2, h3⟩
      · exact .inl e
      · exact .inr ⟨x, List.mem_cons_of_mem _ h1, h2, h3⟩
    · rw [if_neg h]
      by_cases hm : ts.foldr (fun t m => if t ∈ tk then m else max (f t) m) b ≤ f t
      · exact .inr ⟨t, List.mem_cons_self, h, Nat.max_eq_left hm⟩
      · rw [Nat.max_eq_right (by omega)]
        rcases ih with e | ⟨x, h1, h2, h3⟩
        · exact .inl e
        · exact .inr ⟨x, List.mem_cons_of_mem _ h1, h2, h3⟩

theorem nu_skip (p : α × List α) (r : Opts α) (tk : List α) : nu r tk ≤ nu (p :: r) tk := by
  obtain ⟨c, ts⟩ := p
  exact fold_skip (fun t => nu r (t :: tk) + 1) tk (nu r tk) ts
theorem nu_mem {p : α × List α} {r : Opts α} {tk : List α} {t : α} (h : t ∈ p.2) (hn : ¬ t ∈ tk) : nu r (t :: tk) + 1 ≤ nu (p :: r) tk := by
  obtain ⟨c, ts⟩ := p
  exact fold_mem (fun t => nu r (t :: tk) + 1) tk (nu r tk) hn ts h
theorem nu_cases (p : α × List α) (r : Opts α) (tk : List α) : nu (p :: r) tk = nu r tk ∨ ∃ t, t ∈ p.2 ∧ ¬ t ∈ tk ∧ nu (p :: r) tk = nu r (t :: tk) + 1 := by
  obtain ⟨c, ts⟩ := p
  exact fold_cases (fun t => nu r (t :: tk) + 1) tk (nu r tk) ts

theorem W_congr : ∀ (o : Opts α) {tk tk' : List α} (k : Nat), (∀ x, x ∈ tk ↔ x ∈ tk') → W o tk k = W o tk' k
  | [], _, _, 0, _ => rfl
  | [], _, _, _ + 1, _ => rfl
  | _ :: r, _, _, 0, h => W_congr r 0 h
  | (c, ts) :: r, tk, tk', k + 1, h => by
    have e : ∀ t, W r (t :: tk) k = W r (t :: tk') k := fun t => W_congr r k fun x => by simp [h]
    simp only [W, e, W_congr r (k + 1) h, h]
theorem nu_congr : ∀ (o : Opts α) {tk tk' : List α}, (∀ x, x ∈ tk ↔ x ∈ tk') → nu o tk = nu o tk'
  | [], _, _, _ => rfl
  | (c, ts) :: r, tk, tk', h => by
    have e : ∀ t, nu r (t :: tk) = nu r (t :: tk') := fun t => nu_congr r fun x => by simp [h]
    simp only [nu, e, nu_congr r h, h]

theorem W_zero : ∀ (o : Opts α) (tk : List α), W o tk 0 = [[]]
  | [], _ => rfl
  | _ :: r, tk => W_zero r tk
theorem W_ne : ∀ (o : Opts α) (tk : List α) (k : Nat), W o tk k ≠ [] ↔ k ≤ nu o tk
  | [], tk, 0 => by simp [W, nu]
  | [], tk, k + 1 => by simp [W, nu]
  | p :: r, tk, 0 => by rw [W_zero]; simp
  | (c, ts) :: r, tk, k + 1 => by
    have h1 : W ((c, ts) :: r) tk (k + 1) ≠ [] ↔ (∃ t, t ∈ ts ∧ ¬ t ∈ tk ∧ W r (t :: tk) k ≠ []) ∨ W r tk (k + 1) ≠ [] := by
      simp only [W, ne_eq, List.append_eq_nil_iff, List.flatMap_eq_nil_iff, Classical.not_and_iff_not_or_not, Classical.not_forall]
      constructor
      · rintro (⟨t, ht, hn⟩ | h)
        · left
          by_cases hm : t ∈ tk
          · rw [if_pos hm] at hn; exact absurd rfl hn
          · rw [if_neg hm] at hn
            exact ⟨t, ht, hm, fun q => hn (by rw [q]; rfl)⟩
        · exact .inr h
      · rintro (⟨t, ht, hm, hn⟩ | h)
        · left
          refine ⟨t, ht, ?_⟩
          rw [if_neg hm]
          intro q
          exact hn (List.map_eq_nil_iff.mp q)
        · exact .inr h
    rw [h1]
    constructor
    · rintro (⟨t, ht, hm, hn⟩ | h)
      · have := (W_ne r (t :: tk) k).mp hn
        have := nu_mem (p := (c, ts)) (r := r) (tk := tk) ht hm
        omega
      · have := (W_ne r tk (k + 1)).mp h
        have := nu_skip (c, ts) r tk
        omega
    · intro h
      rcases nu_cases (c, ts) r tk with e | ⟨t, ht, hm, e⟩
      · exact .inr ((W_ne r tk (k + 1)).mpr (by omega))
      · exact .inl ⟨t, ht, hm, (W_ne r (t :: tk) k).mpr (by omega)⟩

theorem nu_anti : ∀ (o : Opts α) {tk tk' : List α}, (∀ x, x ∈ tk → x ∈ tk') → nu o tk' ≤ nu o tk
  | [], _, _, _ => Nat.le_refl _
  | p :: r, tk, tk', h => by
    rcases nu_cases p r tk' with e | ⟨t, ht, hm, e⟩
    · rw [e]
      exact Nat.le_trans (nu_anti r h) (nu_skip p r tk)
    · rw [e]
      have h1 := nu_anti r (tk := t :: tk) (tk' := t :: tk') fun x hx => by
        rcases List.mem_cons.mp hx with e | hx
        · exact List.mem_cons.mpr (.inl e)
        · exact List.mem_cons_of_mem _ (h x hx)
      have h2 := nu_mem (p := p) (r := r) (tk := tk) ht fun q => hm (h t q)
      omega
theorem nu_le (o : Opts α) (tk : List α) : nu o tk ≤ o.length := by
  induction o generalizing tk with
  | nil => exact Nat.le_refl _
  | cons p r ih =>
    rcases nu_cases p r tk with e | ⟨t, _, _, e⟩
    · have := ih tk; rw [e, List.length_cons]; omega
    · have := ih (t :: tk); rw [e, List.length_cons]; omega
theorem nu_step (p : α × List α) (r : Opts α) (tk : List α) : nu (p :: r) tk ≤ nu r tk + 1 := by
  rcases nu_cases p r tk with e | ⟨t, _, _, e⟩
  · omega
  · have := nu_anti r (tk := tk) (tk' := t :: tk) fun x hx => List.mem_cons_of_mem _ hx
    omega
/-- one thing taken: at most one pair less -/
theorem nu_take (t : α) : ∀ (o : Opts α) (tk : List α), nu o tk ≤ nu o (t :: tk) + 1
  | [], _ => Nat.zero_le _
  | p :: r, tk => by
    rcases nu_cases p r tk with e | ⟨x, hx, hm, e⟩
    · have := nu_take t r tk
      have := nu_skip p r (t :: tk)
      omega
    · by_cases ex : x = t
      · subst ex
        have := nu_skip p r (x :: tk)
        omega
      · have h1 := nu_take t r (x :: tk)
        have h2 : nu r (t :: x :: tk) = nu r (x :: t :: tk) := nu_congr r fun y => by simp only [List.mem_cons]; constructor <;> rintro (h | h | h) <;> simp [h]
        have h3 := nu_mem (p := p) (r := r) (tk := t :: tk) hx fun q => by
          rcases List.mem_cons.mp q with q | q
          · exact ex q
          · exact hm q
        omega

/-! ### Hall's theorem with deficiency -/
def cS (o : Opts α) (S : α → Bool) : Nat := o.countP fun p => S p.1
def nb (o : Opts α) (S : α → Bool) (t : α) : Bool := o.any fun p => S p.1 && p.2.contains t
def NN (U tk : List α) (o : Opts α) (S : α → Bool) : Nat := U.countP fun t => nb o S t && !tk.contains t

theorem countP_mono {l : List α} {p q : α → Bool} (h : ∀ x, x ∈ l → p x = true → q x = true) : l.countP p ≤ l.countP q := by
  induction l with
  | nil => exact Nat.le_refl _
  | cons a r ih =>
    have ih := ih fun x hx => h x (List.mem_cons_of_mem _ hx)
    rw [List.countP_cons, List.countP_cons]
    by_cases e : p a = true
    · rw [if_pos e, if_pos (h a List.mem_cons_self e)]; omega
    · rw [if_neg e]; split <;> omega
theorem countP_lt {l : List α} {p q : α → Bool} (h : ∀ x, x ∈ l → p x = true → q x = true) {x : α} (hx : x ∈ l) (h1 : p x = false) (h2 : q x = true) : l.countP p + 1 ≤ l.countP q := by
  induction l with
  | nil => cases hx
  | cons a r ih =>
    have hr := fun x hx => h x (List.mem_cons_of_mem _ hx)
    rw [List.countP_cons, List.countP_cons]
    rcases List.mem_cons.mp hx with e | hx
    · subst e
      have := countP_mono (l := r) hr
      rw [h1, h2, if_neg (by decide), if_pos rfl]; omega
    · have ih := ih hr hx
      by_cases e : p a = true
      · rw [if_pos e, if_pos (h a List.mem_cons_self e)]; omega
      · rw [if_neg e]; split <;> omega
theorem countP_or_and {β : Type} (l : List β) (p q : β → Bool) : l.countP (fun x => p x || q x) + l.countP (fun x => p x && q x) = l.countP p + l.countP q := by
  induction l with
  | nil => rfl
  | cons a r ih =>
    simp only [List.countP_cons]
    cases p a <;> cases q a <;> simp <;> omega
theorem countP_drop1 {l : List α} (hn : l.Nodup) (p : α → Bool) (t : α) : l.countP p ≤ l.countP (fun x => p x && !decide (x = t)) + 1 := by
  induction l with
  | nil => exact Nat.zero_le _
  | cons a r ih =>
    obtain ⟨h1, h2⟩ := List.nodup_cons.mp hn
    simp only [List.countP_cons]
    by_cases e : a = t
    · subst e
      have : r.countP p = r.countP (fun x => p x && !decide (x = a)) := by
        apply List.countP_congr
        intro x hx
        have : x ≠ a := fun q => h1 (q ▸ hx)
        simp [this]
      rw [this]
      simp
      split <;> omega
    · have ih := ih h2
      simp [e]
      split <;> omega

theorem nb_true {o : Opts α} {S : α → Bool} {t : α} : nb o S t = true ↔ ∃ p, p ∈ o ∧ S p.1 = true ∧ t ∈ p.2 := by
  unfold nb
  rw [List.any_eq_true]
  constructor
  · rintro ⟨p, hp, h⟩
    obtain ⟨h1, h2⟩ := Bool.and_eq_true_iff.mp h
    exact ⟨p, hp, h1, by simpa using h2⟩
  · rintro ⟨p, hp, h1, h2⟩
    exact ⟨p, hp, by rw [h1]; simpa using h2⟩
theorem nb_cons (p : α × List α) (r : Opts α) (S : α → Bool) (t : α) : nb (p :: r) S t = ((S p.1 && p.2.contains t) || nb r S t) := rfl
theorem cS_cons (p : α × List α) (r : Opts α) (S : α → Bool) : cS (p :: r) S = cS r S + if S p.1 = true then 1 else 0 := by
  unfold cS
  rw [List.countP_cons]

/-- no set of claims has more than its things -/
theorem hall_le {U : List α} (S : α → Bool) : ∀ (o : Opts α) (tk : List α), (∀ p, p ∈ o → ∀ t, t ∈ p.2 → t ∈ U) → nu o tk + cS o S ≤ o.length + NN U tk o S
  | [], tk, _ => by simp [nu, cS]
  | p :: r, tk, hU => by
    have hr : ∀ p, p ∈ r → ∀ t, t ∈ p.2 → t ∈ U := fun q hq => hU q (List.mem_cons_of_mem _ hq)
    have mono : NN U tk r S ≤ NN U tk (p :: r) S := countP_mono fun x _ h => by
      rw [nb_cons]
      obtain ⟨h1, h2⟩ := Bool.and_eq_true_iff.mp h
      rw [h1, h2]; simp
    rw [cS_cons, List.length_cons]
    rcases nu_cases p r tk with e | ⟨t, ht, hm, e⟩
    · have ih := hall_le S r tk hr
      rw [e]
      split <;> omega
    · have ih := hall_le S r (t :: tk) hr
      rw [e]
      have hsub : ∀ x, x ∈ U → (nb r S x && !(t :: tk).contains x) = true → (nb (p :: r) S x && !tk.contains x) = true := fun x _ h => by
        obtain ⟨h1, h2⟩ := Bool.and_eq_true_iff.mp h
        rw [nb_cons, h1]
        simp only [List.contains_cons, Bool.not_or, Bool.and_eq_true] at h2
        rw [h2.2]; simp
      have m2 : NN U (t :: tk) r S ≤ NN U tk (p :: r) S := countP_mono hsub
      by_cases hS : S p.1 = true
      · rw [if_pos hS]
        have m3 : NN U (t :: tk) r S + 1 ≤ NN U tk (p :: r) S := countP_lt hsub (x := t) (hU p List.mem_cons_self t ht) (by simp) (by
          rw [nb_cons, hS]
          have e1 : p.2.contains t = true := by simpa using ht
          have e2 : tk.contains t = false := by simpa using hm
          rw [e1, e2]; rfl)
        omega
      · rw [if_neg hS]
        omega

def Tight (U tk : List α) (o : Opts α) (S : α → Bool) : Prop := o.length + NN U tk o S ≤ nu o tk + cS o S
theorem tight_union {U tk : List α} {o : Opts α} {S T : α → Bool} (hU : ∀ p, p ∈ o → ∀ t, t ∈ p.2 → t ∈ U) (hS : Tight U tk o S) (hT : Tight U tk o T) : Tight U tk o (fun c => S c || T c) := by
  have hI := hall_le (fun c => S c && T c) o tk hU
  have hc : cS o (fun c => S c || T c) + cS o (fun c => S c && T c) = cS o S + cS o T := countP_or_and o (fun p => S p.1) (fun p => T p.1)
  have hn : NN U tk o (fun c => S c || T c) + NN U tk o (fun c => S c && T c) ≤ NN U tk o S + NN U tk o T := by
    have e := countP_or_and U (fun t => nb o S t && !tk.contains t) (fun t => nb o T t && !tk.contains t)
    unfold NN
    rw [← e]
    refine Nat.add_le_add (countP_mono fun x _ h => ?_) (countP_mono fun x _ h => ?_)
    · obtain ⟨h1, h2⟩ := Bool.and_eq_true_iff.mp h
      obtain ⟨p, hp, hs, hx⟩ := nb_true.mp h1
      rw [h2]
      rcases Bool.or_eq_true_iff.mp hs with q | q
      · rw [nb_true.mpr ⟨p, hp, q, hx⟩]; rfl
      · rw [nb_true.mpr ⟨p, hp, q, hx⟩]; simp
    · obtain ⟨h1, h2⟩ := Bool.and_eq_true_iff.mp h
      obtain ⟨p, hp, hs, hx⟩ := nb_true.mp h1
      obtain ⟨q1, q2⟩ := Bool.and_eq_true_iff.mp hs
      rw [h2, nb_true.mpr ⟨p, hp, q1, hx⟩, nb_true.mpr ⟨p, hp, q2, hx⟩]; rfl
  unfold Tight at *
  omega

theorem cS_set {c : α} {b : Bool} {S : α → Bool} : ∀ {r : Opts α}, (∀ p, p ∈ r → p.1 ≠ c) → cS r (fun x => if x = c then b else S x) = cS r S := fun {r} h => by
  unfold cS
  apply List.countP_congr
  intro p hp
  simp [h p hp]
theorem nb_set {c : α} {b : Bool} {S : α → Bool} {r : Opts α} (h : ∀ p, p ∈ r → p.1 ≠ c) (t : α) : nb r (fun x => if x = c then b else S x) t = nb r S t := by
  unfold nb
  induction r with
  | nil => rfl
  | cons p r ih =>
    rw [List.any_cons, List.any_cons, ih fun q hq => h q (List.mem_cons_of_mem _ hq)]
    simp only [if_neg (h p List.mem_cons_self)]

/-- some set is tight -/
theorem hall_ex {U : List α} (hN : U.Nodup) : ∀ (o : Opts α) (tk : List α), (∀ p, p ∈ o → ∀ t, t ∈ p.2 → t ∈ U) → (o.map (·.1)).Nodup → ∃ S, Tight U tk o S
  | [], tk, _, _ => ⟨fun _ => false, by
      unfold Tight NN
      simp [cS, nu, nb]⟩
  | p :: r, tk, hU, hD => by
    obtain ⟨c, ts⟩ := p
    have hr : ∀ p, p ∈ r → ∀ t, t ∈ p.2 → t ∈ U := fun q hq => hU q (List.mem_cons_of_mem _ hq)
    obtain ⟨hc, hD'⟩ := List.nodup_cons.mp (show (c :: r.map (·.1)).Nodup from hD)
    have hne : ∀ p, p ∈ r → p.1 ≠ c := fun q hq e => hc (e ▸ List.mem_map_of_mem hq)
    obtain ⟨S0, t0⟩ := hall_ex hN r tk hr hD'
    by_cases hA : nu ((c, ts) :: r) tk = nu r tk
    · -- every thing of c that is left is needed by the others
      have each : ∀ l : List α, (∀ t, t ∈ l → t ∈ ts ∧ ¬ t ∈ tk) → ∃ S, Tight U tk r S ∧ ∀ t, t ∈ l → nb r S t = true := by
        intro l
        induction l with
        | nil => intro _; exact ⟨S0, t0, fun t h => by cases h⟩
        | cons t l ih =>
          intro hl
          obtain ⟨S1, h1, h2⟩ := ih fun x hx => hl x (List.mem_cons_of_mem _ hx)
          obtain ⟨ht, hm⟩ := hl t List.mem_cons_self
          obtain ⟨S2, h3⟩ := hall_ex hN r (t :: tk) hr hD'
          have h4 := nu_mem (p := (c, ts)) (r := r) (tk := tk) ht hm
          have h5 := hall_le S2 r tk hr
          have e1 : NN U (t :: tk) r S2 = U.countP (fun x => (nb r S2 x && !tk.contains x) && !decide (x = t)) := by
            unfold NN
            apply List.countP_congr
            intro x _
            simp only [List.contains_cons, Bool.not_or, Bool.and_eq_true, Bool.not_eq_true', decide_eq_false_iff_not, beq_eq_false_iff_ne]
            constructor
            · rintro ⟨a, b, c⟩; exact ⟨⟨a, c⟩, b⟩
            · rintro ⟨⟨a, c⟩, b⟩; exact ⟨a, b, c⟩
          have h6 : NN U tk r S2 ≤ NN U (t :: tk) r S2 + 1 := by
            rw [e1]; exact countP_drop1 hN _ t
          have h7 : nb r S2 t = true := by
            cases q : nb r S2 t with
            | true => rfl
            | false =>
              exfalso
              have : NN U tk r S2 ≤ NN U (t :: tk) r S2 := by
                rw [e1]
                refine countP_mono fun x _ hx => ?_
                rw [hx]
                by_cases ex : x = t
                · subst ex; rw [q] at hx; simp at hx
                · simp [ex]
              unfold Tight at h3
              omega
          have h8 : Tight U tk r S2 := by
            unfold Tight at h3 ⊢
            omega
          refine ⟨_, tight_union hr h1 h8, fun x hx => ?_⟩
          rcases List.mem_cons.mp hx with e | hx
          · subst e
            obtain ⟨p, hp, q1, q2⟩ := nb_true.mp h7
            exact nb_true.mpr ⟨p, hp, by rw [q1]; simp, q2⟩
          · obtain ⟨p, hp, q1, q2⟩ := nb_true.mp (h2 x hx)
            exact nb_true.mpr ⟨p, hp, by rw [q1]; rfl, q2⟩
      obtain ⟨S, h1, h2⟩ := each (ts.filter fun t => !tk.contains t) fun t ht => by
        obtain ⟨q1, q2⟩ := List.mem_filter.mp ht
        exact ⟨q1, by simpa using q2⟩
      refine ⟨fun x => if x = c then true else S x, ?_⟩
      unfold Tight at h1 ⊢
      rw [cS_cons, cS_set hne, if_pos (by simp), hA, List.length_cons]
      have : NN U tk ((c, ts) :: r) (fun x => if x = c then true else S x) = NN U tk r S := by
        unfold NN
        apply List.countP_congr
        intro x _
        rw [nb_cons, nb_set hne]
        simp only [if_true, Bool.true_and, Bool.and_eq_true, Bool.or_eq_true]
        constructor
        · rintro ⟨a | a, b⟩
          · exact ⟨h2 x (List.mem_filter.mpr ⟨by simpa using a, b⟩), b⟩
          · exact ⟨a, b⟩
        · rintro ⟨a, b⟩; exact ⟨.inr a, b⟩
      omega
    · have h1 := nu_step (c, ts) r tk
      have h2 := nu_skip (c, ts) r tk
      refine ⟨fun x => if x = c then false else S0 x, ?_⟩
      unfold Tight at t0 ⊢
      rw [cS_cons, cS_set hne, if_neg (by simp), List.length_cons]
      have : NN U tk ((c, ts) :: r) (fun x => if x = c then false else S0 x) = NN U tk r S0 := by
        unfold NN
        apply List.countP_congr
        intro x _
        rw [nb_cons, nb_set hne]
        simp
      omega
end
end Ld
/-! Km2 -/
namespace Ld
section
variable {α : Type} [DecidableEq α]

theorem W_long : ∀ (o : Opts α) (tk : List α) (k : Nat), o.length < k → W o tk k = []
  | [], _, 0, h => by simp at h
  | [], _, _ + 1, _ => rfl
  | _ :: r, _, 0, h => by simp at h
  | (c, ts) :: r, tk, k + 1, h => by
    have h1 : r.length < k := by simpa using h
    have e : ∀ t, W r (t :: tk) k = [] := fun t => W_long r (t :: tk) k h1
    simp only [W, e, W_long r tk (k + 1) (by omega)]
    simp
theorem W_nil (c : α) (r : Opts α) (tk : List α) (k : Nat) : W ((c, []) :: r) tk k = W r tk k := by
  cases k <;> rfl
theorem W_snoc_in {c t : α} {ts : List α} {r : Opts α} {tk : List α} (h : t ∈ tk) (k : Nat) : (W ((c, ts ++ [t]) :: r) tk k).length = (W ((c, ts) :: r) tk k).length := by
  cases k with
  | zero => rfl
  | succ k => simp [W, h]
theorem W_snoc_out {c t : α} {ts : List α} {r : Opts α} {tk : List α} (h : ¬ t ∈ tk) (k : Nat) : (W ((c, ts ++ [t]) :: r) tk (k + 1)).length = (W ((c, ts) :: r) tk (k + 1)).length + (W r (t :: tk) k).length := by
  simp [W, h]
  omega
theorem W_head0 {p q : α × List α} {r : Opts α} {tk : List α} : W (p :: r) tk 0 = W (q :: r) tk 0 := rfl

/-- what stands in a pairing -/
theorem W_mem : ∀ (o : Opts α) (tk : List α) (k : Nat) (M : List (α × α)), M ∈ W o tk k →
    M.length = k ∧ (M.map (·.1)).Sublist (o.map (·.1)) ∧ (∀ q ∈ M, ∃ p ∈ o, p.1 = q.1 ∧ q.2 ∈ p.2 ∧ ¬ q.2 ∈ tk)
  | [], _, 0, M, h => by
    have : M = [] := by simpa [W] using h
    subst this; simp
  | [], _, _ + 1, M, h => by simp [W] at h
  | p :: r, tk, 0, M, h => by
    obtain ⟨h1, h2, h3⟩ := W_mem r tk 0 M h
    exact ⟨h1, h2.cons _, fun q hq => let ⟨p', hp, e⟩ := h3 q hq; ⟨p', List.mem_cons_of_mem _ hp, e⟩⟩
  | (c, ts) :: r, tk, k + 1, M, h => by
    simp only [W, List.mem_append, List.mem_flatMap] at h
    rcases h with ⟨t, ht, h⟩ | h
    · by_cases hm : t ∈ tk
      · rw [if_pos hm] at h; cases h
      · rw [if_neg hm] at h
        obtain ⟨M', hM, rfl⟩ := List.mem_map.mp h
        obtain ⟨h1, h2, h3⟩ := W_mem r (t :: tk) k M' hM
        refine ⟨by simp [h1], by simpa using h2.cons_cons c, fun q hq => ?_⟩
        rcases List.mem_cons.mp hq with e | hq
        · subst e
          exact ⟨(c, ts), List.mem_cons_self, rfl, ht, hm⟩
        · obtain ⟨p', hp, e1, e2, e3⟩ := h3 q hq
          exact ⟨p', List.mem_cons_of_mem _ hp, e1, e2, fun z => e3 (List.mem_cons_of_mem _ z)⟩
    · obtain ⟨h1, h2, h3⟩ := W_mem r tk (k + 1) M h
      exact ⟨h1, h2.cons _, fun q hq => let ⟨p', hp, e⟩ := h3 q hq; ⟨p', List.mem_cons_of_mem _ hp, e⟩⟩

/-! ### one thing away -/
def lessT (t : α) (o : Opts α) : Opts α := o.map fun p => (p.1, p.2.filter fun x => !decide (x = t))
theorem W_lessT (t : α) : ∀ (o : Opts α) (tk : List α) (k : Nat), W (lessT t o) tk k = W o (t :: tk) k
  | [], _, 0 => rfl
  | [], _, _ + 1 => rfl
  | _ :: r, tk, 0 => W_lessT t r tk 0
  | (c, ts) :: r, tk, k + 1 => by
    show (((ts.filter fun x => !decide (x = t)).flatMap fun x => if x ∈ tk then [] else (W (lessT t r) (x :: tk) k).map ((c, x) :: ·)) ++ W (lessT t r) tk (k + 1)) = _
    rw [W_lessT t r tk (k + 1)]
    have e : ∀ x, W (lessT t r) (x :: tk) k = W r (x :: t :: tk) k := fun x => by
      rw [W_lessT t r (x :: tk) k]
      exact W_congr r k fun y => by simp only [List.mem_cons]; constructor <;> rintro (h | h | h) <;> simp [h]
    simp only [e, W]
    congr 1
    induction ts with
    | nil => rfl
    | cons a ts ih =>
      rw [List.filter_cons]
      by_cases ea : a = t
      · simp [ea, ih]
      · simp only [ea, decide_false, Bool.not_false, if_true, List.flatMap_cons, ih, List.mem_cons, false_or]
theorem nu_lessT (t : α) : ∀ (o : Opts α) (tk : List α), nu (lessT t o) tk = nu o (t :: tk) := fun o tk => by
  have a : nu (lessT t o) tk ≤ nu o (t :: tk) := (W_ne o (t :: tk) _).mp (by rw [← W_lessT]; exact (W_ne _ _ _).mpr (Nat.le_refl _))
  have b : nu o (t :: tk) ≤ nu (lessT t o) tk := (W_ne (lessT t o) tk _).mp (by rw [W_lessT]; exact (W_ne _ _ _).mpr (Nat.le_refl _))
  omega
/-- a thing that nobody wants -/
theorem nu_lonelyT (t : α) : ∀ (o : Opts α) (tk : List α), (∀ p ∈ o, ¬ t ∈ p.2) → nu o (t :: tk) = nu o tk := fun o tk h => by
  rw [← nu_lessT]
  have e : lessT t o = o := by
    unfold lessT
    have : ∀ p ∈ o, (p.1, p.2.filter fun x => !decide (x = t)) = p := fun p hp => by
      have e : p.2.filter (fun x => !decide (x = t)) = p.2 := by
        rw [List.filter_eq_self]
        intro x hx
        have : x ≠ t := fun q => h p hp (q ▸ hx)
        simp [this]
      rw [e]
    exact (List.map_congr_left this).trans (by simp)
  rw [e]

/-! ### one claim away -/
def lessC (c : α) (o : Opts α) : Opts α := o.filter fun p => !decide (p.1 = c)
theorem lessC_out {c : α} {r : Opts α} (h : ¬ c ∈ r.map (·.1)) : lessC c r = r := by
  unfold lessC
  rw [List.filter_eq_self]
  intro p hp
  have : p.1 ≠ c := fun e => h (e ▸ List.mem_map_of_mem hp)
  simp [this]
theorem lessC_pos {c : α} {p : α × List α} {r : Opts α} (e : p.1 = c) : lessC c (p :: r) = lessC c r := by
  unfold lessC
  rw [List.filter_cons, if_neg (by simp [e])]
theorem lessC_neg {c : α} {p : α × List α} {r : Opts α} (e : ¬ p.1 = c) : lessC c (p :: r) = p :: lessC c r := by
  unfold lessC
  rw [List.filter_cons, if_pos (by simp [e])]
theorem nu_cons_mono {p : α × List α} {r r' : Opts α} (h : ∀ tk, nu r tk ≤ nu r' tk) (tk : List α) : nu (p :: r) tk ≤ nu (p :: r') tk := by
  rcases nu_cases p r tk with e | ⟨t, ht, hm, e⟩
  · have := h tk
    have := nu_skip p r' tk
    omega
  · have := h (t :: tk)
    have := nu_mem (p := p) (r := r') (tk := tk) ht hm
    omega
theorem nu_lessC_le (c : α) : ∀ (o : Opts α) (tk : List α), nu (lessC c o) tk ≤ nu o tk
  | [], _ => Nat.le_refl _
  | p :: r, tk => by
    by_cases e : p.1 = c
    · rw [lessC_pos e]
      exact Nat.le_trans (nu_lessC_le c r tk) (nu_skip p r tk)
    · rw [lessC_neg e]
      exact nu_cons_mono (nu_lessC_le c r) tk
theorem nu_lessC_ge (c : α) : ∀ (o : Opts α) (tk : List α), (o.map (·.1)).Nodup → nu o tk ≤ nu (lessC c o) tk + 1
  | [], _, _ => Nat.zero_le _
  | p :: r, tk, hD => by
    obtain ⟨hc, hD'⟩ := List.nodup_cons.mp (show (p.1 :: r.map (·.1)).Nodup from hD)
    by_cases e : p.1 = c
    · rw [lessC_pos e, lessC_out (e ▸ hc)]
      exact nu_step p r tk
    · rw [lessC_neg e]
      rcases nu_cases p r tk with e | ⟨t, ht, hm, e⟩
      · have := nu_lessC_ge c r tk hD'
        have := nu_skip p (lessC c r) tk
        omega
      · have := nu_lessC_ge c r (t :: tk) hD'
        have := nu_mem (p := p) (r := lessC c r) (tk := tk) ht hm
        omega
/-- a claim that nothing fits -/
theorem nu_lonelyC (c : α) : ∀ (o : Opts α) (tk : List α), (∀ p ∈ o, p.1 = c → p.2 = []) → nu (lessC c o) tk = nu o tk
  | [], _, _ => rfl
  | p :: r, tk, h => by
    have hr : ∀ p ∈ r, p.1 = c → p.2 = [] := fun q hq => h q (List.mem_cons_of_mem _ hq)
    by_cases e : p.1 = c
    · rw [lessC_pos e, nu_lonelyC c r tk hr]
      obtain ⟨c', ts⟩ := p
      have : ts = [] := h _ List.mem_cons_self e
      subst this
      rfl
    · rw [lessC_neg e]
      have a := nu_cons_mono (p := p) (r := lessC c r) (r' := r) (fun tk => Nat.le_of_eq (nu_lonelyC c r tk hr)) tk
      have b := nu_cons_mono (p := p) (r := r) (r' := lessC c r) (fun tk => Nat.le_of_eq (nu_lonelyC c r tk hr).symm) tk
      omega

/-! ### the pairings that hold one pair -/
theorem countP_none {β : Type} {l : List β} {p : β → Bool} (h : ∀ x ∈ l, p x = false) : l.countP p = 0 := by
  rw [List.countP_eq_zero]
  intro x hx; rw [h x hx]; exact Bool.false_ne_true
theorem sum_one {t : α} (f : α → Nat) : ∀ {ts : List α}, ts.Nodup → t ∈ ts → (ts.map fun x => if x = t then f x else 0).sum = f t
  | [], _, h => by cases h
  | a :: ts, hn, h => by
    obtain ⟨h1, h2⟩ := List.nodup_cons.mp hn
    rw [List.map_cons, List.sum_cons]
    by_cases e : a = t
    · subst e
      have : (ts.map fun x => if x = a then f x else 0) = ts.map fun _ => 0 := List.map_congr_left fun x hx => if_neg fun (q : x = a) => h1 (q ▸ hx)
      rw [this, if_pos rfl]
      have z : ∀ l : List α, (l.map fun _ => 0).sum = 0 := fun l => by induction l with
        | nil => rfl
        | cons _ _ ih => rw [List.map_cons, List.sum_cons, ih]
      rw [z]; rfl
    · rw [if_neg e, sum_one f h2 ((List.mem_cons.mp h).resolve_left fun q => e q.symm), Nat.zero_add]
theorem W_pair (c t : α) : ∀ (o : Opts α) (tk : List α) (k : Nat), (o.map (·.1)).Nodup → (∀ p ∈ o, p.2.Nodup) → (∃ ts, (c, ts) ∈ o ∧ t ∈ ts) → ¬ t ∈ tk →
    (W o tk (k + 1)).countP (fun M => decide ((c, t) ∈ M)) = (W (lessC c o) (t :: tk) k).length
  | [], tk, k, _, _, ⟨ts, h, _⟩, _ => by cases h
  | (c0, ts0) :: r, tk, k, hD, hN, hex, hm => by
    obtain ⟨hc, hD'⟩ := List.nodup_cons.mp (show (c0 :: r.map (·.1)).Nodup from hD)
    have hN' : ∀ p ∈ r, p.2.Nodup := fun q hq => hN q (List.mem_cons_of_mem _ hq)
    have nokey : ∀ (tk' : List α) (j : Nat), ¬ c ∈ r.map (·.1) → ∀ M ∈ W r tk' j, decide ((c, t) ∈ M) = false := fun tk' j hcr M hM => by
      rw [decide_eq_false_iff_not]
      intro hin
      exact hcr ((W_mem r tk' j M hM).2.1.subset (List.mem_map_of_mem (f := (·.1)) hin))
    simp only [W, List.countP_append, List.countP_flatMap]
    by_cases e : c0 = c
    · subst e
      have ht : t ∈ ts0 := by
        obtain ⟨ts, h1, h2⟩ := hex
        rcases List.mem_cons.mp h1 with q | q
        · injection q with q1 q2; rw [← q2]; exact h2
        · exact absurd (List.mem_map_of_mem (f := (·.1)) q) hc
      rw [lessC_pos (p := (c0, ts0)) rfl, lessC_out hc, countP_none (nokey tk (k + 1) hc), Nat.add_zero]
      have step : (ts0.map ((List.countP fun M => decide ((c0, t) ∈ M)) ∘ fun x => if x ∈ tk then [] else (W r (x :: tk) k).map ((c0, x) :: ·))) = ts0.map fun x => if x = t then (W r (x :: tk) k).length else 0 := by
        refine List.map_congr_left fun x hx => ?_
        show List.countP _ (if x ∈ tk then [] else _) = _
        by_cases ex : x = t
        · subst ex
          rw [if_neg hm, if_pos rfl, List.countP_map, List.countP_eq_length.mpr]
          intro M _; simp
        · rw [if_neg ex]
          split
          · rfl
          · rw [List.countP_map]
            refine countP_none fun M hM => ?_
            show decide ((c0, t) ∈ (c0, x) :: M) = false
            have := nokey (x :: tk) k hc M hM
            rw [decide_eq_false_iff_not] at this ⊢
            intro q
            rcases List.mem_cons.mp q with q | q
            · injection q with _ q2; exact ex q2.symm
            · exact this q
      rw [step]
      exact sum_one (fun x => (W r (x :: tk) k).length) (hN _ List.mem_cons_self) ht
    · have hex' : ∃ ts, (c, ts) ∈ r ∧ t ∈ ts := by
        obtain ⟨ts, h1, h2⟩ := hex
        rcases List.mem_cons.mp h1 with q | q
        · injection q with q1 _; exact absurd q1.symm e
        · exact ⟨ts, q, h2⟩
      rw [lessC_neg (by exact e), W_pair c t r tk k hD' hN' hex' hm]
      have headout : ∀ (x : α) (M : List (α × α)), decide ((c, t) ∈ (c0, x) :: M) = decide ((c, t) ∈ M) := fun x M => by
        have : ¬ (c, t) = (c0, x) := fun q => by injection q with q1 _; exact e q1.symm
        simp [this]
      cases k with
      | zero =>
        have : (ts0.map ((List.countP fun M => decide ((c, t) ∈ M)) ∘ fun x => if x ∈ tk then [] else (W r (x :: tk) 0).map ((c0, x) :: ·))).sum = 0 := by
          have z : (ts0.map ((List.countP fun M => decide ((c, t) ∈ M)) ∘ fun x => if x ∈ tk then [] else (W r (x :: tk) 0).map ((c0, x) :: ·))) = ts0.map fun _ => 0 := by
            refine List.map_congr_left fun x hx => ?_
            show List.countP _ (if x ∈ tk then [] else _) = _
            split
            · rfl
            · rw [W_zero, List.countP_map]
              refine countP_none fun M hM => ?_
              have : M = [] := by simpa using hM
              subst this
              show decide ((c, t) ∈ [(c0, x)]) = false
              rw [headout]; simp
          rw [z]
          have z : ∀ l : List α, (l.map fun _ => 0).sum = 0 := fun l => by induction l with
            | nil => rfl
            | cons _ _ ih => rw [List.map_cons, List.sum_cons, ih]
          exact z _
        rw [this, Nat.zero_add]
        rfl
      | succ k =>
        simp only [W, List.length_append, List.length_flatMap]
        congr 1
        congr 1
        refine List.map_congr_left fun x hx => ?_
        show List.countP _ (if x ∈ tk then [] else _) = _
        by_cases hxk : x ∈ tk
        · rw [if_pos hxk, if_pos (List.mem_cons_of_mem _ hxk)]; rfl
        · rw [if_neg hxk, List.countP_map]
          have e1 : ((fun M => decide ((c, t) ∈ M)) ∘ fun M => (c0, x) :: M) = fun M => decide ((c, t) ∈ M) := funext fun M => headout x M
          rw [e1]
          by_cases ex : x = t
          · subst ex
            rw [if_pos List.mem_cons_self]
            refine countP_none fun M hM => ?_
            rw [decide_eq_false_iff_not]
            intro hin
            obtain ⟨_, _, _, _, q⟩ := (W_mem r (x :: tk) (k + 1) M hM).2.2 _ hin
            exact q List.mem_cons_self
          · rw [W_pair c t r (x :: tk) k hD' hN' hex' (fun q => (List.mem_cons.mp q).elim (fun z => ex z.symm) hm), if_neg (fun q => (List.mem_cons.mp q).elim ex hxk), List.length_map]
            rw [W_congr (lessC c r) k (tk := t :: x :: tk) (tk' := x :: t :: tk) fun y => by simp only [List.mem_cons]; constructor <;> rintro (h | h | h) <;> simp [h]]

/-! ### how many there are -/
def Fn : Nat → Nat → Nat
  | 0, _ => 1
  | r + 1, a => a * Fn r (a - 1) + Fn r a
theorem Fn_mono : ∀ (r : Nat) {a b : Nat}, a ≤ b → Fn r a ≤ Fn r b
  | 0, _, _, _ => Nat.le_refl _
  | r + 1, a, b, h => Nat.add_le_add (Nat.mul_le_mul h (Fn_mono r (by omega))) (Fn_mono r h)
theorem sum_bound (f : α → Nat) (q : α → Bool) (B : Nat) : ∀ ts : List α, (∀ x ∈ ts, f x ≤ if q x = true then B else 0) → (ts.map f).sum ≤ ts.countP q * B
  | [], _ => by simp
  | a :: ts, h => by
    have ih := sum_bound f q B ts fun x hx => h x (List.mem_cons_of_mem _ hx)
    have ha := h a List.mem_cons_self
    rw [List.map_cons, List.sum_cons, List.countP_cons]
    split at ha
    · rename_i e
      rw [if_pos e, Nat.add_mul]; omega
    · rename_i e
      rw [if_neg e]; simpa using (by omega : f a + (ts.map f).sum ≤ ts.countP q * B)
theorem countP_sub {U ts : List α} (hts : ts.Nodup) (hsub : ∀ t ∈ ts, t ∈ U) (q : α → Bool) : ts.countP q ≤ U.countP q := by
  rw [List.countP_eq_length_filter, List.countP_eq_length_filter]
  have : (ts.filter q).Nodup := hts.sublist List.filter_sublist
  have sub : ∀ x ∈ ts.filter q, x ∈ U.filter q := fun x hx => by
    obtain ⟨a, b⟩ := List.mem_filter.mp hx
    exact List.mem_filter.mpr ⟨hsub x a, b⟩
  generalize ts.filter q = l at this sub
  generalize U.filter q = m at sub
  clear hts hsub
  induction l generalizing m with
  | nil => exact Nat.zero_le _
  | cons a l ih =>
    obtain ⟨h1, h2⟩ := List.nodup_cons.mp this
    have ha := sub a List.mem_cons_self
    have := ih h2 (m.erase a) fun x hx => (List.mem_erase_of_ne (fun (e : x = a) => h1 (e ▸ hx))).mpr (sub x (List.mem_cons_of_mem _ hx))
    rw [List.length_erase_of_mem ha] at this
    have : 0 < m.length := List.length_pos_of_mem ha
    rw [List.length_cons]; omega
theorem W_bound {U : List α} (hU : U.Nodup) : ∀ (o : Opts α) (tk : List α) (k : Nat), (∀ p ∈ o, p.2.Nodup ∧ ∀ t ∈ p.2, t ∈ U) → (W o tk k).length ≤ Fn o.length (U.countP fun t => !decide (t ∈ tk))
  | [], _, 0, _ => Nat.le_refl _
  | [], _, _ + 1, _ => Nat.zero_le _
  | p :: r, tk, 0, h => by
    rw [W_zero]
    show 1 ≤ _
    have : ∀ r a, 1 ≤ Fn r a := fun r => by induction r with
      | zero => intro a; exact Nat.le_refl _
      | succ r ih => intro a; exact Nat.le_trans (ih a) (Nat.le_add_left _ _)
    exact this _ _
  | (c, ts) :: r, tk, k + 1, h => by
    have hr : ∀ p ∈ r, p.2.Nodup ∧ ∀ t ∈ p.2, t ∈ U := fun q hq => h q (List.mem_cons_of_mem _ hq)
    obtain ⟨hts, hsub⟩ := h (c, ts) List.mem_cons_self
    simp only [W, List.length_append, List.length_flatMap]
    show _ ≤ Fn (r.length + 1) _
    refine Nat.add_le_add ?_ (W_bound hU r tk (k + 1) hr)
    refine Nat.le_trans (sum_bound _ (fun t => !decide (t ∈ tk)) (Fn r.length ((U.countP fun t => !decide (t ∈ tk)) - 1)) ts fun x hx => ?_) (Nat.mul_le_mul_right _ (countP_sub hts hsub _))
    by_cases hm : x ∈ tk
    · rw [if_pos hm]; exact Nat.zero_le _
    · rw [if_neg hm, if_pos (by simp [hm]), List.length_map]
      refine Nat.le_trans (W_bound hU r (x :: tk) k hr) (Fn_mono _ ?_)
      have : U.countP (fun t => !decide (t ∈ x :: tk)) + 1 ≤ U.countP (fun t => !decide (t ∈ tk)) := countP_lt (fun y _ hy => by
        simp only [List.mem_cons, Bool.not_eq_true', decide_eq_false_iff_not, not_or] at hy ⊢
        exact hy.2) (hsub x hx) (by simp) (by simp [hm])
      omega
end
end Ld
/-! Km3 -/
namespace Ld
section
variable {α : Type} [DecidableEq α]

def O (C U : List α) (fit : α → α → Bool) : Opts α := C.map fun c => (c, U.filter (fit c))
def nuO (C U : List α) (fit : α → α → Bool) : Nat := nu (O C U fit) []
def wO (C U : List α) (fit : α → α → Bool) (k : Nat) : List (List (α × α)) := W (O C U fit) [] k
def rmv (c : α) (l : List α) : List α := l.filter fun x => !decide (x = c)

theorem O_labels (C U : List α) (fit : α → α → Bool) : (O C U fit).map (·.1) = C := by
  unfold O
  rw [List.map_map]
  exact List.map_id C
theorem O_length (C U : List α) (fit : α → α → Bool) : (O C U fit).length = C.length := by
  unfold O; simp
theorem O_mem {C U : List α} {fit : α → α → Bool} {p : α × List α} : p ∈ O C U fit ↔ p.1 ∈ C ∧ p.2 = U.filter (fit p.1) := by
  unfold O
  rw [List.mem_map]
  constructor
  · rintro ⟨c, hc, rfl⟩; exact ⟨hc, rfl⟩
  · rintro ⟨h1, h2⟩
    exact ⟨p.1, h1, by rw [← h2]⟩
theorem O_rmvC (c : α) (C U : List α) (fit : α → α → Bool) : O (rmv c C) U fit = lessC c (O C U fit) := by
  unfold O lessC rmv
  rw [List.filter_map]; rfl
theorem O_rmvT (t : α) (C U : List α) (fit : α → α → Bool) : O C (rmv t U) fit = lessT t (O C U fit) := by
  unfold O lessT rmv
  rw [List.map_map]
  refine List.map_congr_left fun c _ => ?_
  show (c, (U.filter fun x => !decide (x = t)).filter (fit c)) = (c, (U.filter (fit c)).filter fun x => !decide (x = t))
  rw [List.filter_filter, List.filter_filter]
  congr 1
  refine List.filter_congr fun x _ => ?_
  rw [Bool.and_comm]
section
variable {C U : List α} {fit : α → α → Bool}
theorem O_sub : ∀ p ∈ O C U fit, ∀ t ∈ p.2, t ∈ U := fun p hp t ht => by
  rw [(O_mem.mp hp).2] at ht
  exact (List.mem_filter.mp ht).1
theorem O_nd (hU : U.Nodup) : ∀ p ∈ O C U fit, p.2.Nodup := fun p hp => by
  rw [(O_mem.mp hp).2]
  exact hU.sublist List.filter_sublist
theorem O_lab (hC : C.Nodup) : ((O C U fit).map (·.1)).Nodup := by rw [O_labels]; exact hC
theorem nuO_le : nuO C U fit ≤ C.length := by
  have := nu_le (O C U fit) ([] : List α)
  rw [O_length] at this
  exact this
theorem wO_ne {k : Nat} : wO C U fit k ≠ [] ↔ k ≤ nuO C U fit := W_ne _ _ _
/-- a claim less -/
theorem nuO_c1 (c : α) : nuO (rmv c C) U fit ≤ nuO C U fit := by
  unfold nuO; rw [O_rmvC]; exact nu_lessC_le _ _ _
theorem nuO_c2 (hC : C.Nodup) (c : α) : nuO C U fit ≤ nuO (rmv c C) U fit + 1 := by
  unfold nuO; rw [O_rmvC]; exact nu_lessC_ge _ _ _ (O_lab hC)
theorem nuO_c3 {c : α} (h : U.filter (fit c) = []) : nuO (rmv c C) U fit = nuO C U fit := by
  unfold nuO; rw [O_rmvC]
  refine nu_lonelyC _ _ _ fun p hp e => ?_
  rw [(O_mem.mp hp).2, e, h]
/-- a thing less -/
theorem nuO_t1 (t : α) : nuO C (rmv t U) fit ≤ nuO C U fit := by
  unfold nuO; rw [O_rmvT, nu_lessT]; exact nu_anti _ fun x hx => by cases hx
theorem nuO_t2 (t : α) : nuO C U fit ≤ nuO C (rmv t U) fit + 1 := by
  unfold nuO; rw [O_rmvT, nu_lessT]; exact nu_take _ _ _
theorem nuO_t3 {t : α} (h : C.filter (fun c => fit c t) = []) : nuO C (rmv t U) fit = nuO C U fit := by
  unfold nuO; rw [O_rmvT, nu_lessT]
  refine nu_lonelyT _ _ _ fun p hp ht => ?_
  obtain ⟨h1, h2⟩ := O_mem.mp hp
  rw [h2] at ht
  have : p.1 ∈ C.filter (fun c => fit c t) := List.mem_filter.mpr ⟨h1, (List.mem_filter.mp ht).2⟩
  rw [h] at this; cases this
/-- a pair that fits, away -/
theorem nuO_p2 (hC : C.Nodup) (c t : α) : nuO C U fit ≤ nuO (rmv c C) (rmv t U) fit + 2 := by
  have := nuO_c2 (U := U) (fit := fit) hC c
  have := nuO_t2 (C := rmv c C) (U := U) (fit := fit) t
  omega
theorem wO_pair (hC : C.Nodup) (hU : U.Nodup) {c t : α} (hc : c ∈ C) (ht : t ∈ U) (hf : fit c t = true) (k : Nat) :
    (wO C U fit (k + 1)).countP (fun M => decide ((c, t) ∈ M)) = (wO (rmv c C) (rmv t U) fit k).length := by
  unfold wO
  rw [W_pair c t (O C U fit) [] k (O_lab hC) (O_nd hU) ⟨U.filter (fit c), O_mem.mpr ⟨hc, rfl⟩, List.mem_filter.mpr ⟨ht, hf⟩⟩ (by simp), ← O_rmvC, O_rmvT, W_lessT]
theorem nuO_p1 (hC : C.Nodup) (hU : U.Nodup) {c t : α} (hc : c ∈ C) (ht : t ∈ U) (hf : fit c t = true) : nuO (rmv c C) (rmv t U) fit + 1 ≤ nuO C U fit := by
  refine wO_ne.mp fun e => ?_
  have := wO_pair hC hU hc ht hf (nuO (rmv c C) (rmv t U) fit)
  rw [e] at this
  have h2 : wO (rmv c C) (rmv t U) fit (nuO (rmv c C) (rmv t U) fit) ≠ [] := wO_ne.mpr (Nat.le_refl _)
  exact h2 (List.length_eq_zero_iff.mp this.symm)
theorem wO_all (hC : C.Nodup) (hU : U.Nodup) {c t : α} (hc : c ∈ C) (ht : t ∈ U) (hf : fit c t = true) {k : Nat} (h : (wO (rmv c C) (rmv t U) fit k).length = (wO C U fit (k + 1)).length) : ∀ M ∈ wO C U fit (k + 1), (c, t) ∈ M := by
  rw [← wO_pair hC hU hc ht hf k, List.countP_eq_length] at h
  intro M hM
  simpa using h M hM
theorem wO_keys {k : Nat} {M : List (α × α)} (hC : C.Nodup) (h : M ∈ wO C U fit k) : (M.map (·.1)).Nodup ∧ M.length = k := by
  obtain ⟨h1, h2, _⟩ := W_mem _ _ _ _ h
  rw [O_labels] at h2
  exact ⟨hC.sublist h2, h1⟩
theorem wO_bound (hU : U.Nodup) (k : Nat) : (wO C U fit k).length ≤ Fn C.length U.length := by
  have := W_bound hU (O C U fit) [] k fun p hp => ⟨O_nd hU p hp, O_sub p hp⟩
  rw [O_length] at this
  refine Nat.le_trans this (Nat.le_of_eq ?_)
  congr 1
  simp
end

theorem Fn_mono1 : ∀ (r : Nat) (a : Nat), Fn r a ≤ Fn (r + 1) a := fun r a => by show _ ≤ a * Fn r (a - 1) + Fn r a; omega
theorem Fn_le {r a : Nat} (hr : r ≤ 5) (ha : a ≤ 5) : Fn r a ≤ 1546 := by
  have h1 : Fn r a ≤ Fn 5 a := by
    rcases (by omega : r = 0 ∨ r = 1 ∨ r = 2 ∨ r = 3 ∨ r = 4 ∨ r = 5) with e | e | e | e | e | e <;> subst e
    · exact Nat.le_trans (Fn_mono1 0 a) (Nat.le_trans (Fn_mono1 1 a) (Nat.le_trans (Fn_mono1 2 a) (Nat.le_trans (Fn_mono1 3 a) (Fn_mono1 4 a))))
    · exact Nat.le_trans (Fn_mono1 1 a) (Nat.le_trans (Fn_mono1 2 a) (Nat.le_trans (Fn_mono1 3 a) (Fn_mono1 4 a)))
    · exact Nat.le_trans (Fn_mono1 2 a) (Nat.le_trans (Fn_mono1 3 a) (Fn_mono1 4 a))
    · exact Nat.le_trans (Fn_mono1 3 a) (Fn_mono1 4 a)
    · exact Fn_mono1 4 a
    · exact Nat.le_refl _
  exact Nat.le_trans h1 (Nat.le_trans (Fn_mono 5 ha) (by decide))

/-! ### distinct items, in the order in which they come -/
def addK (ks : List α) (x : α) : List α := if x ∈ ks then ks else ks ++ [x]
def keysOf (L : List α) : List α := L.foldl addK []
theorem addK_mem {ks : List α} {x y : α} : y ∈ addK ks x ↔ y ∈ ks ∨ y = x := by
  unfold addK
  split
  · rename_i h
    constructor
    · exact .inl
    · rintro (q | q)
      · exact q
      · rw [q]; exact h
  · simp
theorem addK_nd {ks : List α} {x : α} (h : ks.Nodup) : (addK ks x).Nodup := by
  unfold addK
  split
  · exact h
  · rename_i hx
    rw [List.nodup_append]
    exact ⟨h, by simp, fun a ha b hb => by
      have : b = x := by simpa using hb
      rw [this]; intro e; exact hx (e ▸ ha)⟩
theorem fold_addK_mem (y : α) : ∀ (L ks : List α), y ∈ L.foldl addK ks ↔ y ∈ ks ∨ y ∈ L
  | [], ks => by simp
  | x :: L, ks => by
    rw [List.foldl_cons, fold_addK_mem y L, addK_mem, List.mem_cons, or_assoc]
theorem fold_addK_nd : ∀ (L ks : List α), ks.Nodup → (L.foldl addK ks).Nodup
  | [], _, h => h
  | x :: L, ks, h => fold_addK_nd L _ (addK_nd h)
theorem keysOf_mem {y : α} {L : List α} : y ∈ keysOf L ↔ y ∈ L := by
  unfold keysOf; rw [fold_addK_mem]; simp
theorem keysOf_nd (L : List α) : (keysOf L).Nodup := fold_addK_nd L [] List.nodup_nil
/-- two lists without repetition of the same items are of one length -/
theorem nd_len {l m : List α} (hl : l.Nodup) (hm : m.Nodup) (h : ∀ x, x ∈ l ↔ x ∈ m) : l.length = m.length := by
  have a := countP_sub hl (fun t ht => (h t).mp ht) (fun _ => true)
  have b := countP_sub hm (fun t ht => (h t).mpr ht) (fun _ => true)
  have e : ∀ l : List α, l.countP (fun _ => true) = l.length := fun l => by simp
  rw [e, e] at a b
  omega

/-- by how many claims of a group there are more than things -/
def shortI (U : List α) (fit : α → α → Bool) (g : List α) : Int := (g.length : Int) - ((keysOf (g.flatMap fun c => U.filter (fit c))).length : Int)
section
variable {C U : List α} {fit : α → α → Bool}
theorem keys_NN (hU : U.Nodup) {g : List α} (hg : ∀ c ∈ g, c ∈ C) : (keysOf (g.flatMap fun c => U.filter (fit c))).length = NN U [] (O C U fit) (fun c => decide (c ∈ g)) := by
  unfold NN
  rw [List.countP_eq_length_filter]
  refine nd_len (keysOf_nd _) (hU.sublist List.filter_sublist) fun x => ?_
  rw [keysOf_mem, List.mem_flatMap, List.mem_filter]
  constructor
  · rintro ⟨c, hc, hx⟩
    obtain ⟨h1, h2⟩ := List.mem_filter.mp hx
    refine ⟨h1, ?_⟩
    have : nb (O C U fit) (fun c => decide (c ∈ g)) x = true := nb_true.mpr ⟨(c, U.filter (fit c)), O_mem.mpr ⟨hg c hc, rfl⟩, by simpa using hc, hx⟩
    rw [this]; rfl
  · rintro ⟨_, h⟩
    obtain ⟨h, _⟩ := Bool.and_eq_true_iff.mp h
    obtain ⟨p, hp, h1, h2⟩ := nb_true.mp h
    refine ⟨p.1, by simpa using h1, ?_⟩
    rw [(O_mem.mp hp).2] at h2
    exact h2
theorem grp_cS (hC : C.Nodup) {g : List α} (hn : g.Nodup) (hg : ∀ c ∈ g, c ∈ C) : cS (O C U fit) (fun c => decide (c ∈ g)) = g.length := by
  unfold cS O
  rw [List.countP_map, List.countP_eq_length_filter]
  refine nd_len (hC.sublist List.filter_sublist) hn fun x => ?_
  rw [List.mem_filter]
  constructor
  · rintro ⟨_, h⟩; simpa using h
  · intro h; exact ⟨hg x h, by simpa using h⟩
/-- no group has a greater shortage -/
theorem short_le (hC : C.Nodup) (hU : U.Nodup) {g : List α} (hn : g.Nodup) (hg : ∀ c ∈ g, c ∈ C) : shortI U fit g ≤ (C.length : Int) - (nuO C U fit : Int) := by
  have := hall_le (U := U) (fun c => decide (c ∈ g)) (O C U fit) [] O_sub
  rw [grp_cS hC hn hg, O_length, ← keys_NN hU hg] at this
  unfold shortI nuO
  omega
/-- some group has it -/
theorem short_ex (hC : C.Nodup) (hU : U.Nodup) : ∃ S : α → Bool, shortI U fit (C.filter S) = (C.length : Int) - (nuO C U fit : Int) := by
  obtain ⟨S, h⟩ := hall_ex (U := U) hU (O C U fit) [] O_sub (O_lab hC)
  refine ⟨S, ?_⟩
  have hn : (C.filter S).Nodup := hC.sublist List.filter_sublist
  have hg : ∀ c ∈ C.filter S, c ∈ C := fun c hc => (List.mem_filter.mp hc).1
  have le := short_le (U := U) (fit := fit) hC hU hn hg
  unfold Tight at h
  have e1 : cS (O C U fit) S = (C.filter S).length := by
    unfold cS O
    rw [List.countP_map, List.countP_eq_length_filter]; rfl
  have e2 : NN U [] (O C U fit) S = (keysOf ((C.filter S).flatMap fun c => U.filter (fit c))).length := by
    rw [keys_NN hU hg]
    unfold NN
    refine List.countP_congr fun x _ => ?_
    have : nb (O C U fit) S x = nb (O C U fit) (fun c => decide (c ∈ C.filter S)) x := by
      rw [Bool.eq_iff_iff, nb_true, nb_true]
      constructor
      · rintro ⟨p, hp, h1, h2⟩
        exact ⟨p, hp, by simp [(O_mem.mp hp).1, h1], h2⟩
      · rintro ⟨p, hp, h1, h2⟩
        have h1 : p.1 ∈ C.filter S := by simpa using h1
        exact ⟨p, hp, (List.mem_filter.mp h1).2, h2⟩
    rw [this]
  rw [O_length, e1, e2] at h
  unfold shortI nuO at *
  omega
end

/-! ### all groups -/
def grow (gs : List (List α)) (c : α) : List (List α) := gs ++ gs.map fun g => g ++ [c]
def groups (C : List α) : List (List α) := C.foldl grow [[]]
theorem grow_fold_mem : ∀ (C : List α) (gs : List (List α)) (g : List α), g ∈ C.foldl grow gs ↔ ∃ h s, h ∈ gs ∧ s.Sublist C ∧ g = h ++ s
  | [], gs, g => by
    constructor
    · intro h; exact ⟨g, [], h, List.Sublist.refl _, by simp⟩
    · rintro ⟨h, s, h1, h2, rfl⟩
      have : s = [] := List.sublist_nil.mp h2
      subst this; simpa using h1
  | c :: C, gs, g => by
    rw [List.foldl_cons, grow_fold_mem C]
    constructor
    · rintro ⟨h, s, h1, h2, rfl⟩
      unfold grow at h1
      rcases List.mem_append.mp h1 with q | q
      · exact ⟨h, s, q, h2.cons _, rfl⟩
      · obtain ⟨h', q1, rfl⟩ := List.mem_map.mp q
        exact ⟨h', c :: s, q1, h2.cons_cons _, by simp⟩
    · rintro ⟨h, s, h1, h2, rfl⟩
      cases h2 with
      | cons _ h2 => exact ⟨h, s, List.mem_append_left _ h1, h2, rfl⟩
      | cons_cons _ h2 =>
        rename_i s
        exact ⟨h ++ [c], s, List.mem_append_right _ (List.mem_map.mpr ⟨h, h1, rfl⟩), h2, by simp⟩
theorem groups_mem {C g : List α} : g ∈ groups C ↔ g.Sublist C := by
  unfold groups
  rw [grow_fold_mem]
  constructor
  · rintro ⟨h, s, h1, h2, rfl⟩
    have : h = [] := by simpa using h1
    subst this; simpa using h2
  · intro h; exact ⟨[], g, by simp, h, by simp⟩
theorem groups_len (C : List α) : (groups C).length = 2 ^ C.length := by
  have : ∀ (C : List α) (gs : List (List α)), (C.foldl grow gs).length = 2 ^ C.length * gs.length := fun C => by
    induction C with
    | nil => intro gs; simp
    | cons c C ih =>
      intro gs
      rw [List.foldl_cons, ih]
      unfold grow
      rw [List.length_append, List.length_map, List.length_cons, Nat.pow_succ, ← Nat.two_mul, Nat.mul_assoc]
  rw [groups, this]; simp
end
end Ld
/-! Kr1 -/
namespace Lk
open PySem PySem.Spec PyProof.Rows L2

section
variable {X : Cx} {k : Nat} {C f : Addr} {fd : FuncData} {ps : List Str} {sp : Sp}

/-- the callee runs below: at another around with room -/
theorem run_below {A : Around} {pins : List (Addr × Obj)} {σ : L2.St} {H : Hp} {s : Shared} {Q : VK} {us : List Value} {vs : List V} {E' : Value → Shared → Prop} (F : FnOk X.prog X.w X.K X.mg X.base C8.CX0 k f fd ps sp) (hr : Room k A) (e0 : Env0 X.prog X.w X.K X.mg X.base A X.stack s H) (hb : Binds X.K fd ps [])
    (I : Inv X pins σ H s) (r : Vals vs us) (h : sp vs H Q C8.E0) : wpAny (model X.prog X.w) A (call (.ref f) us) (EP X pins σ Q) E' s := by
  have hl : (us ++ []).length = ps.length := by rw [List.append_nil, ← r.length]; exact F.len _ _ _ _ h
  have hb' := hb s us I.kIn hl
  rw [List.append_nil] at hb'
  refine wpAny_call (codeAny_mono (F.run A X.stack s H ⟨us, []⟩ us vs Q C8.E0 hr e0 hb' r h) fun r s' hq => ?_)
  cases r with
  | error e => exact False.elim hq
  | ok fl =>
    cases fl with
    | ret u => exact I.after hq
    | next => exact False.elim hq
    | brk => exact False.elim hq
    | cont => exact False.elim hq

/-- a special method of the class: found, a def -/
structure Spc (K : PySem.W.Frag) (C : Addr) (name : Str) (f : Addr) : Prop where
  at_ : PySem.W.findIn K (.ref C) name = some (some (.ref f))
  fn : PySem.W.isFn K (.ref f) = true
  fnI : PySem.W.fnIn K f = true

/-- x in o, o of an own class with __contains__ -/
def rInOwn (neg : Bool) (C : Addr) (sp : Sp) : R2 := fun x y H Q => ∃ a dx fs, y = .ref a ∧ H a = some (.ins C dx fs) ∧ sp [.ref a, x] H (fun v H' => ∃ b, v = .bl b ∧ Q (.bl (if neg then !b else b)) H') C8.E0
theorem op_inOwn (sc : Spc X.K C "__contains__" f) (F : FnOk X.prog X.w X.K X.mg X.base C8.CX0 k f fd ps sp) (hr : Room k X.A) (hb : Binds X.K fd ps []) : OpR X (compareOp .In) (rInOwn false C sp) := by
  intro pins s σ H x y v u Q I rx ry h
  obtain ⟨a, dx, fs, rfl, ha, q⟩ := h
  cases ry
  obtain ⟨mA, O, _⟩ := ins_get I.hok ha
  obtain ⟨od, J, _⟩ := O.look
  obtain ⟨m, hF⟩ := I.fr
  refine PySem.W.in_K hF I.ok.mod.kin J sc.at_ sc.fn (thn (run_below (vs := [.ref a, x]) F hr I.env0 hb I (.cons rfl (.cons rx .nil)) q) fun w s' z => ?_)
  obtain ⟨z', H', I', rz, b, eb, qz⟩ := z
  subst eb
  cases rz
  exact wpAny_truthy_bool ⟨.bl b, H', I', rfl, qz⟩
theorem op_notInOwn (sc : Spc X.K C "__contains__" f) (F : FnOk X.prog X.w X.K X.mg X.base C8.CX0 k f fd ps sp) (hr : Room k X.A) (hb : Binds X.K fd ps []) : OpR X (compareOp .NotIn) (rInOwn true C sp) := by
  intro pins s σ H x y v u Q I rx ry h
  obtain ⟨a, dx, fs, rfl, ha, q⟩ := h
  cases ry
  obtain ⟨mA, O, _⟩ := ins_get I.hok ha
  obtain ⟨od, J, _⟩ := O.look
  obtain ⟨m, hF⟩ := I.fr
  refine PySem.W.notIn_K hF I.ok.mod.kin J sc.at_ sc.fn (thn (run_below (vs := [.ref a, x]) F hr I.env0 hb I (.cons rfl (.cons rx .nil)) q) fun w s' z => ?_)
  obtain ⟨z', H', I', rz, b, eb, qz⟩ := z
  subst eb
  cases rz
  exact wpAny_truthy_bool ⟨.bl (!b), H', I', rfl, qz⟩
/-- o[x], o of an own class with __getitem__; x is written without a slice -/
def rIxOwn (C : Addr) (sp : Sp) : R2 := fun x y H Q => ∃ a dx fs, x = .ref a ∧ H a = some (.ins C dx fs) ∧ sp [.ref a, y] H Q C8.E0
def PlainIxP (b : Expr) : Prop := ∀ o i, subscripted b true o i = runValue (.builtin "lifetime.subscript" ⟨[o, i], []⟩)
theorem pe_ixOwn {a b : Expr} {ta tb : TE} {pos : Pos} (sc : Spc X.K C "__getitem__" f) (F : FnOk X.prog X.w X.K X.mg X.base C8.CX0 k f fd ps sp) (hr : Room (k + 1) X.A) (hb : Binds X.K fd ps []) (ha : PE X a ta) (hbb : PE X b tb) (hs : PlainIxP b) :
    PE X (.Subscript a b pos) (tOp (rIxOwn C sp) ta tb) := by
  refine ⟨fun pins s σ H Q I h => ?_⟩
  refine Subscript_ (binT ha hbb I h fun v u s2 x y H2 I2 rx ry q => ?_)
  obtain ⟨c, dx, fs, rfl, hc, q⟩ := q
  cases rx
  obtain ⟨mA, O, _⟩ := ins_get I2.hok hc
  obtain ⟨od, J, _⟩ := O.look
  obtain ⟨m, hF⟩ := I2.fr
  exact PySem.W.sub_K hF I2.ok.mod.kin J sc.at_ sc.fnI sc.fn (run_below (vs := [.ref c, y]) F hr.in1 I2.env0.in1 hb I2 (.cons rfl (.cons ry .nil)) q) (hs _ _)
/-- what != asks of a class with an own __eq__ and no __ne__ -/
structure NeC (K : PySem.W.Frag) (C f : Addr) : Prop where
  eq : PySem.W.findIn K (.ref C) "__eq__" = some (some (.ref f))
  fn : PySem.W.isFn K (.ref f) = true
  ne : PySem.W.findIn K (.ref C) "__ne__" = some (some (.builtin "object.__ne__"))
  ob : PySem.W.subIn K (.ref C) (.type "object") = some true
/-- x != y, both of that class -/
def rNeOwn (C : Addr) (sp : Sp) : R2 := fun x y H Q => ∃ a dx fs b dy gs, x = .ref a ∧ y = .ref b ∧ H a = some (.ins C dx fs) ∧ H b = some (.ins C dy gs) ∧ sp [.ref a, .ref b] H (fun v H' => ∃ c, v = .bl c ∧ Q (.bl (!c)) H') C8.E0
theorem op_neOwn (sc : NeC X.K C f) (F : FnOk X.prog X.w X.K X.mg X.base C8.CX0 k f fd ps sp) (hr : Room (k + 1) X.A) (hb : Binds X.K fd ps []) : OpR X (compareOp .NotEq) (rNeOwn C sp) := by
  intro pins s σ H x y v u Q I rx ry h
  obtain ⟨a, dx, fs, b, dy, gs, rfl, rfl, ha, hb2, q⟩ := h
  cases rx
  cases ry
  obtain ⟨mA, O, _⟩ := ins_get I.hok ha
  obtain ⟨od, J, _⟩ := O.look
  obtain ⟨mB, O', _⟩ := ins_get I.hok hb2
  obtain ⟨od', J', _⟩ := O'.look
  have KX := I.kIn
  have hu : X.A.units + 64 < cLine := hr.units
  -- the call of object.__ne__
  have objNe : wpAny (model X.prog X.w) X.A.in1 (Builtin.«object.__ne__» ⟨[.ref a, .ref b], []⟩) (fun fin s' => ∃ c, fin = .done (.ret (.bool (!c))) ∧ EP X pins σ Q (.bool (!c)) s') X.xe s := by
    unfold Builtin.«object.__ne__»
    have call1 : wpAny (model X.prog X.w) X.A.in1 (callSpecialIfBound? (.ref a) "__eq__" [.ref b]) (fun r s' => ∃ c, r = some (.bool c) ∧ EP X pins σ Q (.bool (!c)) s') X.xe s := by
      refine PySem.W.ifBound_K KX J sc.eq sc.fn (thn (run_below (vs := [.ref a, .ref b]) F hr.in1 I.env0.in1 hb I (.cons rfl (.cons rfl .nil)) q) fun w s' z => ?_)
      obtain ⟨z', H', I', rz, c, ec, qz⟩ := z
      subst ec
      cases rz
      exact ⟨c, rfl, .bl (!c), H', I', rfl, qz⟩
    repeat (first
      | with_reducible refine wpAny_cRoomFor (by show X.A.units + 1 < cLine; omega) ?_
      | (refine wpAny_bind (m := callSpecialIfBound? (.ref a) (Str.ofString "__eq__") [.ref b]) (thn call1 fun r s' hr => ?_)
         obtain ⟨c, rfl, hq⟩ := hr
         repeat (first | exact ⟨c, rfl, hq⟩ | exact wpAny_pure ⟨c, rfl, hq⟩ | (refine wpAny_bind (m := truthy (.bool _)) (wpAny_truthy_bool ?_)) | wp_step))
      | wp_step)
  have one : wpAny (model X.prog X.w) X.A (tryCompare (.ref a) "__ne__" (.ref b)) (fun r s' => ∃ c, r = some (.bool c) ∧ EP X pins σ Q (.bool c) s') X.xe s := by
    unfold tryCompare
    refine wpAny_bind ?_
    simp only [callSpecialIfBound?, bindSpecialIfBound?]
    refine wpAny_holding (wpAny_bind (wpAny_bind (wpAny_bind (J.type.here ((PySem.W.looks_findIn KX sc.ne).here ?_)))))
    refine wpAny_bind (wpAny_askSetting (wpAny_ite ?_))
    have called : wpAny (model X.prog X.w) X.A (call (.builtin "object.__ne__") [.ref a, .ref b]) (fun v s' => ∃ c, v = .bool c ∧ EP X pins σ Q (.bool c) s') X.xe s := by
      refine wpAny_call (codeAny_call_builtin PySem.F.cmp_object.ne.plain PySem.F.cmpEntry_ne (PySem.W.check_slot PySem.F.cmpKind_ne PySem.F.cmpSplit_ne (J.type.andThen (PySem.W.looks_subIn KX sc.ob)) (PySem.F.cmpArgs_ne _ _) (thn objNe fun fin s' z => ?_)))
      obtain ⟨c, rfl, hq⟩ := z
      exact ⟨!c, rfl, hq⟩
    have fin : wpAny (model X.prog X.w) X.A (call (.builtin "object.__ne__") ([.ref a] ++ [.ref b]) >>= fun v => pure (some v)) (fun r s' => wpAny (model X.prog X.w) X.A (match r with
        | some .notImplemented | none => pure none
        | some v => pure (some v)) (fun r s' => ∃ c, r = some (.bool c) ∧ EP X pins σ Q (.bool c) s') X.xe s') X.xe s :=
      wpAny_bind (thn called fun v s' z => by
        obtain ⟨c, rfl, hq⟩ := z
        exact wpAny_pure (wpAny_pure ⟨c, rfl, hq⟩))
    have hbnd := PySem.F.cmp_object.ne.bind
    split
    · rw [hbnd]
      exact wpAny_bind (wpAny_pure (wpAny_pure fin))
    · rw [hbnd]
      exact wpAny_tryCatch (wpAny_bind (wpAny_pure (wpAny_pure fin)))
  show wpAny (model X.prog X.w) X.A (richCompare .NotEq (.ref a) (.ref b)) (EP X pins σ Q) X.xe s
  unfold richCompare
  simp only [oneThing_ref]
  refine wpAny_holding (wpAny_bind (wpAny_cRoomFor (by omega) ?_))
  refine wpAny_bind (J.type.here (wpAny_bind (J'.type.here ?_)))
  rw [show (Value.ref C != Value.ref C) = false from by simp]
  simp only [Bool.false_eq_true, if_false]
  refine wpAny_bind (wpAny_pure ?_)
  simp only [Bool.false_eq_true, if_false]
  refine wpAny_bind (thn one fun r s' z => ?_)
  obtain ⟨c, rfl, hq⟩ := z
  exact wpAny_pure hq
end
end Lk
/-! Kr2 -/
namespace Lk
open PySem PySem.Spec PyProof.Rows L2

section
variable {X : Cx}
/-- the dict (or list) that e gives is known from here on as it stands: for one that nobody else has -/
def tFrz (te : TE) : TE := fun σ H Q => te σ H fun x H1 => ∃ d u, x = .ref d ∧ H1 d = some u ∧ Mut (some u) ∧ ∀ od, Q x (upd H1 d (.frz od u))
theorem pe_frz {e : Expr} {te : TE} (he : PE X e te) : PE X e (tFrz te) := by
  refine ⟨fun pins s σ H Q I h => ?_⟩
  refine thn (he.run pins s σ H _ I h) fun v s1 ⟨x, H1, I1, r1, d, u, ex, hd, mu, q⟩ => ?_
  obtain ⟨od, I2⟩ := I1.lock hd mu
  exact ⟨x, _, I2, r1, q od⟩

/-- *d, d a dict: its keys -/
def tStarD (te : TE) (t : TA) : TA := fun σ H Q => te σ H fun x H1 => ∃ p kvs, x = V.ref p ∧ Rd H1 p (.dK kvs) ∧ t σ H1 fun ys H2 => Q (kvs.map (fun kv => kV kv.1) ++ ys) H2
theorem pa_starD {e : Expr} {es : List Expr} {te : TE} {t : TA} {p : Pos} (hc : X.calm = true) (he : PE X e te) (hr : PA X es t) (hs : starEach (.Starred e p :: es) X.env = (true, eval e X.env) :: starEach es X.env := by rfl) : PA X (.Starred e p :: es) (tStarD te t) := by
  refine ⟨fun pos pins s σ H Q I h => ?_⟩
  refine PySem.W.items_star (thn (he.run pins s σ H _ I h) fun v s1 ⟨y, H1, I1, ry, a, kvs, ey, hd, q⟩ => ?_) hs
  subst ey
  obtain rfl : v = Value.ref a := ry
  obtain ⟨z, lo, vs, rel, dd⟩ := dk_rd I1.hok hd
  obtain ⟨ep, hat⟩ := dd.dictAt
  have ek : (kvs.map fun kv => kV kv.1) = vs.map fun p => kV p.1 := by
    have e := congrArg (List.map kV) rel.keys
    rw [List.map_map, List.map_map] at e
    exact e
  unfold PySem.W.StarOf notIterableAtAll
  refine wpAny_bind (wpAny_specialOf dd.typeIs PySem.F.slot_dict_iter.lookup (wpAny_pure ⟨rfl, ?_⟩))
  refine PySem.W.kdu_collect (PySem.W.kdl_dict (knd := mixKind X.prog X.w) (kvs := vs) (ep := ep) lo) (I.ok.hd hc) hat (by rw [← rel.length]; exact z) fun h' tk acc hk hacc => ?_
  have hv : Vals (vs.map fun p => kV p.1) acc.toList := keys_at (by rw [Array.length_toList]; exact hacc.1) fun j v e => hacc.2 j v (by rw [← Array.getElem?_toList]; exact e)
  have I2 : Inv X pins σ H1 { s1 with heap := h', toks := tk } := I1.kept hk
  refine thn (hr.run pos pins _ σ H1 _ I2 q) fun ws s3 ⟨zs, H3, I3, r3, q3⟩ => ⟨_, H3, I3, (by rw [ek]; exact hv.append r3), q3⟩

/-- xs[i], by values: a list -/
def gItL (K : PySem.W.Frag) : V → V → Hp → VK → Prop := fun o i H Q => ∃ p xs k j v, o = .ref p ∧ i = .int k ∧ 0 ≤ k ∧ k.toNat = j ∧ SqL K H p xs ∧ xs[j]? = some v ∧ Q v H
theorem get_list : PGet X (gItL X.K) := by
  intro pins s σ H o i ov iv Q I ro ri h
  obtain ⟨p, xs, k, j, v, rfl, rfl, h0, hj, hq, hx, q⟩ := h
  cases ro
  obtain ⟨t, rfl⟩ := ri
  obtain ⟨its, r, pl, hz⟩ := I.list hq
  obtain ⟨w, ew, rw'⟩ := r.get hx
  have hl := r.length
  have hn := line63
  have hlt : j < its.length := (List.getElem?_eq_some_iff.mp ew).1
  exact wpAny_getItem_list pl.isList h0 (by omega) (by rw [hj]; simpa using ew) ⟨v, H, I, rw', q⟩
end

/-! ### enumerate(tuple) -/
theorem meets_enumerate_newT (l : Addr) (items : Array Value) (n : Nat) (dct : Option Addr) (sl : Array (Option Value)) :
    Meets (Builtin.«enumerate.__new__» ⟨[.type "enumerate", .ref l], []⟩) (fun _ R s => s.heap.get? l = some { cls := .type "tuple", dict := dct, data := .seq items n, slots := sl } ∧
      R (.ok (.ret (.ref (s.heap.push { cls := .type "tuple_iterator", data := .fields #[.ref l, .int 0 0] }).objs.size)))
        { s with heap := (s.heap.push { cls := .type "tuple_iterator", data := .fields #[.ref l, .int 0 0] }).push { cls := .type "enumerate", data := .fields #[.none, .bool false, .ref s.heap.objs.size, rawInt 0, .none, .none] } }) :=
  .of_wp fun prog w A R s h => by
    obtain ⟨hp, g, d, tk, os⟩ := s; obtain ⟨hl, h⟩ := h
    have hsub := sub_enumerate
    have hL : Heap.IsTuple (Shared.heap ⟨hp, g, d, tk, os⟩) l items := ⟨_, hl, rfl, n, rfl⟩
    wp_walk using AutoSeq1.wpAny_loadPart' hl
    refine wpAny_stack_any fun st => wpAny_pure ?_
    split
    · rename_i c _ _ _ _ _
      cases (c == Value.type "enumerate")
      · wp_walk using AutoSeq1.wpAny_loadPart' hl, wpAny_pyIter_tuple hL
        exact ⟨_, rfl, h⟩
      · wp_walk using AutoSeq1.wpAny_loadPart' hl, wpAny_pyIter_tuple hL
        exact ⟨_, rfl, h⟩
    · wp_walk using AutoSeq1.wpAny_loadPart' hl, wpAny_pyIter_tuple hL
      exact ⟨_, rfl, h⟩
theorem call_enumerate_tuple {prog : Program} {w : World} {A : Around} {E : Value → Shared → Prop} {s : Shared} {l : Addr} {items : Array Value} {Q : Value → Shared → Prop} (hL : s.heap.IsTuple l items)
    (h : ∀ h', IsEnum h' (s.heap.objs.size + 1) s.heap.objs.size 0 .none → h'.IsTupleIter s.heap.objs.size l 0 → h'.objs.size = s.heap.objs.size + 2 →
      (∀ b o, s.heap.get? b = some o → h'.get? b = some o) → Q (.ref (s.heap.objs.size + 1)) { s with heap := h' }) :
    wpAny (model prog w) A (call (.type "enumerate") [.ref l]) Q E s := by
  obtain ⟨⟨c, dct, dt, sl⟩, hl, hc, n, hd⟩ := hL
  replace hc : c = .type "tuple" := hc
  replace hd : dt = .seq items n := hd
  subst hc hd
  refine callType_new F.called_enumerate (by decide) (F.typeCall_enumerate_1 _) (F.newCall_enumerate_1 _) (fun obj => F.args_object_init_2 obj _) F.entry_enumerate_new
    (meets_enumerate_newT l items n dct sl) ⟨hl, ?_⟩
  have hz : (s.heap.push { cls := .type "tuple_iterator", data := .fields #[.ref l, .int 0 0] }).objs.size = s.heap.objs.size + 1 := Heap.size_push ..
  show _ ∧ _
  rw [hz]
  have he : IsEnum ((s.heap.push { cls := .type "tuple_iterator", data := .fields #[.ref l, .int 0 0] }).push
      { cls := .type "enumerate", data := .fields #[.none, .bool false, .ref s.heap.objs.size, rawInt 0, .none, .none] }) (s.heap.objs.size + 1) s.heap.objs.size 0 .none := by
    have := Heap.get?_push_size (s.heap.push { cls := .type "tuple_iterator", data := .fields #[.ref l, .int 0 0] })
      (o := { cls := .type "enumerate", data := .fields #[.none, .bool false, .ref s.heap.objs.size, rawInt 0, .none, .none] }) rfl
    rw [hz] at this; exact this
  refine ⟨⟨_, he, rfl⟩, h _ he ⟨_, Heap.get?_push_of_some _ (Heap.get?_push_size _ rfl), rfl, rfl⟩ (by rw [Heap.size_push, hz]) fun b o x => Heap.get?_push_of_some _ (Heap.get?_push_of_some _ x)⟩

/-- the tuple at a, each item in a new pair -/
def IteT (K : PySem.W.Frag) (a : Addr) : It :=
  ⟨fun i H => ∃ (xs : List V) (x : V), SqT K H a xs ∧ xs[i]? = some x, fun i H v H' => ∃ T x, v = .ref T ∧ H T = none ∧ H' = upd H T (.tup [.int (i : Nat), x]) ∧ ∀ xs, SqT K H a xs → xs[i]? = some x, fun i H => ∃ xs : List V, SqT K H a xs ∧ xs.length = i⟩
theorem turn_enumT {P : Program} {w : World} {K : PySem.W.Frag} {elts : List Expr} {kk : Nat} {tpos : Pos} (a e it : Addr) (hai : a ≠ it) (hae : e ≠ a) :
    Turn P w K (.Tuple elts kk tpos) (IteT K a) [e, it] e (fun i h => (∃ old, IsEnum h e it ((i : Nat) : Int) old) ∧ h.IsTupleIter it a i ∧ e ≠ it) where
  mem := by simp
  obj := fun i h st b hb => by
    obtain ⟨⟨old, he⟩, ⟨o, ho, hc, hd⟩, _⟩ := st
    have e' : b = e ∨ b = it := by simpa using hb
    rcases e' with z | z
    · rw [z]; exact ⟨_, he, fun v q => nomatch q⟩
    · rw [z]; exact ⟨o, ho, fun v q => by rw [hd] at q; cases q⟩
  keep := fun i h h' st k => let ⟨⟨old, he⟩, hi, hne⟩ := st; ⟨⟨old, k e (by simp) _ he⟩, hi.at fun o q => k it (by simp) o q, hne⟩
  item := by
    intro X hP hw hK hc i pins s σ H E I hf st hg
    subst hP hw hK
    obtain ⟨⟨old, he⟩, hit, hne⟩ := st
    obtain ⟨xs, x, hq, hx⟩ := hg
    obtain ⟨its, rv, p, hz⟩ := I.tuple hq
    obtain ⟨u, hu, ru⟩ := rv.get hx
    have hel : e < s.heap.objs.size := Heap.lt_size he
    have hil : it < s.heap.objs.size := by obtain ⟨_, q, _⟩ := hit; exact Heap.lt_size q
    have hlt : i < its.toArray.size := by have := (List.getElem?_eq_some_iff.mp hu).1; simpa using this
    refine wpAny_pyNext_enum_itemD (D := Draws.tuple (A := X.A.in1) (I.ok.hd hc) it a hai its.toArray) he ⟨hit, p⟩ hlt hne (by simp [hne, hae]) fun v h' tk hv ho hit' hT hsz hk => ?_
    have hvu : v = u := by
      have : its.toArray[i]? = some v := hv
      have q : its[i]? = some v := by simpa using this
      rw [hu] at q; exact (Option.some.inj q).symm
    subst hvu
    refine ⟨_, rfl, wpAny_letOwnedTupleGo_enum (s := { s with heap := h', toks := tk + 1 }) ho fun h'' he' sb => ?_⟩
    have hT2 : h''.get? s.heap.objs.size = some { cls := .type "tuple", data := .seq #[.int i tk, v] } := (sb.2 _ (Nat.ne_of_gt hel)).trans hT
    have new : ObjOk X.prog X.w (upd H s.heap.objs.size (.tup [.int (i : Nat), x])) h'' s.heap.objs.size (.tup [.int (i : Nat), x]) :=
      ⟨by show 2 ≤ sizeLine; decide, [.int i tk, v], .cons ⟨_, rfl⟩ (.cons ru .nil), ⟨_, hT2, rfl, _, rfl⟩⟩
    have I1 : Inv X pins σ (upd H s.heap.objs.size (.tup [.int (i : Nat), x])) { s with heap := h'', toks := tk + 1 } :=
      I.turnedNew (ch := [e, it]) (fun b ob hb q => (sb.2 b (fun z => hb (by simp [z]))).trans (hk b ob (fun z => hb (by simp [z])) (fun z => hb (by simp [z])) q)) hf (Nat.le_refl _) new
    refine ⟨.ref s.heap.objs.size, _, I1, rfl, ⟨_, x, rfl, I.hok.fresh (Nat.le_refl _), rfl, fun ys hy => by rw [I.tuple_inj hy hq]; exact hx⟩, ⟨⟨v, ?_⟩, hit'.1.at fun o q => (sb.2 it (Ne.symm hne)).trans q, hne⟩, fun b hb => ?_⟩
    · have e1 : ((i + 1 : Nat) : Int) = (i : Int) + 1 := by omega
      rw [e1]; exact he'
    · have hb' : b < s.heap.objs.size := by
        have e' : b = e ∨ b = it := by simpa using hb
        rcases e' with z | z
        · rw [z]; exact hel
        · rw [z]; exact hil
      rw [upd_ne (Nat.ne_of_lt hb')]
      exact (hf b hb).1
  done := by
    intro X hP hw hK hc i pins s σ H E I hf st hg
    subst hP hw hK
    obtain ⟨⟨old, he⟩, hit, hne⟩ := st
    obtain ⟨xs, hq, hx⟩ := hg
    obtain ⟨its, rv, p, hz⟩ := I.tuple hq
    obtain ⟨f0, f1, f2, f3, f4, f5⟩ := hf it (by simp)
    have hl := rv.length
    have D := Draws.tuple (prog := X.prog) (w := X.w) (A := X.A.in1) (I.ok.hd hc) it a hai its.toArray
    have hi : i = its.toArray.size := by rw [List.size_toArray]; omega
    subst hi
    exact wpAny_pyNext_enum_endD D he ⟨hit, p⟩ fun h' eb => ⟨rfl, I.turned (t' := s.toks) (fun b o hb q => eb b o hb q) f0 f1 f3 f4 f5⟩
  self := fun A i s Q E st h => let ⟨⟨_, he⟩, _⟩ := st; wpAny_pyIter_enum he h
def iEnumT (K : PySem.W.Frag) (ta : TA) : TI := fun σ H R => ta σ H fun vs H1 => ∃ a xs, vs = [.ref a] ∧ SqT K H1 a xs ∧ R (IteT K a) H1
theorem pi_enumT {X : Cx} {e : Expr} {ta : TA} {p pos tpos : Pos} {elts : List Expr} {kk : Nat} (hg : Gl X "enumerate") (hm : X.mg "enumerate" = none) (ha : PA X [e] ta) (hs : starEach [e] X.env = [(false, eval e X.env)] := by rfl) :
    PI X (.Tuple elts kk tpos) (.Call (.Name "enumerate" p) [e] [] pos) (iEnumT X.K ta) := by
  refine ⟨fun pins s σ H R I h => ?_⟩
  refine Call_ (ld_blt I hg hm boot_enumerate (PyProof.Rows.callWith_type1 (thn (ha.run pos pins s σ H _ I h) fun us s1 ⟨vs, H1, I1, r1, q1⟩ => ?_) hs rfl))
  obtain ⟨a, xs, ex, hq, q⟩ := q1
  subst ex
  cases r1 with
  | cons r rr =>
    cases rr
    cases r
    obtain ⟨its, rv, p', hz⟩ := I1.tuple hq
    have hal : a < s1.heap.objs.size := p'.lt
    refine call_enumerate_tuple p' fun h' he hit hsz hk => wpAny_pyIter_enum he ?_
    have I2 : Inv X pins σ H1 { s1 with heap := h' } := I1.kept (t' := s1.toks) hk
    refine ⟨s1.heap.objs.size + 1, [s1.heap.objs.size + 1, s1.heap.objs.size], _, _, H1, rfl, I2, turn_enumT a (s1.heap.objs.size + 1) s1.heap.objs.size (Nat.ne_of_lt hal) (Nat.ne_of_gt (Nat.lt_succ_of_lt hal)), ⟨⟨.none, he⟩, hit, Nat.succ_ne_self _⟩, fun b hb => ?_, q⟩
    have e' : b = s1.heap.objs.size + 1 ∨ b = s1.heap.objs.size := by simpa using hb
    have hle : s1.heap.objs.size ≤ b := by
      rcases e' with z | z
      · rw [z]; exact Nat.le_add_right _ _
      · rw [z]; exact Nat.le_refl _
    exact I1.fpOk hle (I1.hok.fresh hle)
theorem walk_enumT {K : PySem.W.Frag} {a : Addr} {xs : List V} : Walk (IteT K a) xs.length (fun H => SqT K H a xs) (YPair (fun i => some (.int (i : Nat))) (fun i => xs[i]?)) := by
  refine ⟨fun i _ hi q => ⟨xs, xs[i], q, by simp [hi]⟩, fun _ q => ⟨xs, q, rfl⟩, fun i H v H' _ q y => ?_⟩
  obtain ⟨T, x, h1, h2, h3, h4⟩ := y
  exact ⟨T, .int (i : Nat), x, h1, h2, h3, rfl, h4 xs q⟩
/-- zip(tuple, tuple): as many turns as the shorter has -/
theorem walk_zipT {K : PySem.W.Frag} {a b : Addr} {xs ys : List V} {n : Nat} (hn : n = min xs.length ys.length) : Walk (RZ.ItzT K a b) n (fun H => SqT K H a xs ∧ SqT K H b ys) (YPair (fun i => xs[i]?) (fun i => ys[i]?)) := by
  subst hn
  refine ⟨fun i _ hi q => ?_, fun _ q => ⟨xs, ys, q.1, q.2, by omega⟩, fun i H v H' _ q y => ?_⟩
  · have h1 : i < xs.length := by omega
    have h2 : i < ys.length := by omega
    exact ⟨xs, ys, xs[i], ys[i], q.1, q.2, by simp [h1], by simp [h2]⟩
  · obtain ⟨T, x, z, h1, h2, h3, h4, h5⟩ := y
    exact ⟨T, x, z, h1, h2, h3, h4 xs q.1, h5 ys q.2⟩
end Lk
/-! Kb -/
namespace Lk
open PySem PySem.Spec PyProof.Rows L2

def top (i : Nat) : Stmt := PySem.Challenge.pw_lostdesk_k18_whole_pairs_and_groups.main.body.getD i (.Pass ⟨0, 0, 0, 0⟩)
abbrev sIsNumber : Stmt := top 18
abbrev sIsWord : Stmt := top 19
abbrev sIsRising : Stmt := top 20
abbrev sIsFeature : Stmt := top 21
abbrev sCatInit : Stmt := inClass (top 22) 0
abbrev sCatFeatures : Stmt := inClass (top 22) 1
abbrev sCatNames : Stmt := inClass (top 22) 2
abbrev sCatContains : Stmt := inClass (top 22) 4
abbrev sCatEq : Stmt := inClass (top 22) 7
abbrev sNoteInit : Stmt := inClass (top 24) 0
abbrev sNoteCatalog : Stmt := inClass (top 24) 1
abbrev sNoteGet : Stmt := inClass (top 24) 3
abbrev sCommon : Stmt := top 25
abbrev sValClaim : Stmt := top 27
abbrev sValPair : Stmt := top 28
abbrev sValLabel : Stmt := top 29
abbrev sMisfits : Stmt := top 30
abbrev sIsFitting : Stmt := top 31
abbrev sFitThings : Stmt := top 32
abbrev sCandidates : Stmt := top 33
abbrev sLonely : Stmt := top 34
abbrev sRivals : Stmt := top 35
abbrev sChoices : Stmt := top 37
abbrev sShortage : Stmt := top 38
abbrev sShortGroup : Stmt := top 39
abbrev sShownGroup : Stmt := top 40
abbrev sMatInit : Stmt := inClass (top 44) 0
abbrev sMatCounts : Stmt := inClass (top 44) 1
abbrev sMatHas : Stmt := inClass (top 44) 2
abbrev sMatMost : Stmt := inClass (top 44) 3
abbrev sMatWalked : Stmt := inClass (top 44) 4
abbrev sMatchCount : Stmt := top 45
abbrev sMostPairs : Stmt := top 46
abbrev sFirstMatch : Stmt := top 47
abbrev sMatches : Stmt := top 48
abbrev sJudged : Stmt := top 49
abbrev sJudge : Stmt := top 50
abbrev sSurePairs : Stmt := top 51
abbrev sService : Stmt := top 52
abbrev sServed : Stmt := top 53
abbrev sValFitting : Stmt := top 55
abbrev sRestOf : Stmt := top 57
abbrev sHanded : Stmt := top 58
abbrev sPairLoss : Stmt := top 59
abbrev sThingInit : Stmt := inClass (top 67) 0
abbrev sThingNote : Stmt := inClass (top 67) 1
abbrev sThingDay : Stmt := inClass (top 67) 2
abbrev sClaimInit : Stmt := inClass (top 68) 0
abbrev sClaimNote : Stmt := inClass (top 68) 1
abbrev sClaimDay : Stmt := inClass (top 68) 2
abbrev sClaimSlips : Stmt := inClass (top 68) 3
abbrev sOrdered : Stmt := top 69
abbrev sOffInit : Stmt := inClass (top 70) 0
abbrev sOffThings : Stmt := inClass (top 70) 2
abbrev sOffClaims : Stmt := inClass (top 70) 3
abbrev sOffContains : Stmt := inClass (top 70) 4
abbrev sOffWithout : Stmt := inClass (top 70) 7
abbrev sLawMix : Stmt := top 72
abbrev sLawNext : Stmt := top 73
abbrev sLawFeatures : Stmt := top 74
abbrev sLawSome : Stmt := top 75
abbrev sLawSets : Stmt := top 76
abbrev sLawDrawn : Stmt := top 77
abbrev sLawNote : Stmt := top 78
abbrev sLawOffice : Stmt := top 79
abbrev sLawPairRight : Stmt := top 80
abbrev sLaw : Stmt := top 81

/-! ### where the classes stand -/
abbrev cCat (K : PySem.W.Frag) : Addr := He.ga K "Catalog"
abbrev cNote (K : PySem.W.Frag) : Addr := He.ga K "Note"
abbrev cThing (K : PySem.W.Frag) : Addr := He.ga K "Thing"
abbrev cClaim (K : PySem.W.Frag) : Addr := He.ga K "Claim"
abbrev cOff (K : PySem.W.Frag) : Addr := He.ga K "Office"
abbrev cMat (K : PySem.W.Frag) : Addr := He.ga K "Matcher"

/-- a module's constant -/
def Gc (mg : Str → Option Value) (x : Str) (v : V) : Prop := ∃ u, mg x = some u ∧ RelV v u
def letters : Str := "abcdefghijklmnopqrstuvwxyz"

/-- facts of the top -/
structure Txt (K : PySem.W.Frag) (mg : Str → Option Value) : Prop where
  isinstance : mg "isinstance" = none
  int : mg "int" = none
  bool : mg "bool" = none
  len : mg "len" = none
  all : mg "all" = none
  zip : mg "zip" = none
  enumerate : mg "enumerate" = none
  sorted : mg "sorted" = none
  tuple : mg "tuple" = none
  list : mg "list" = none
  dict : mg "dict" = none
  range : mg "range" = none
  max : mg "max" = none
  gLetters : Gc mg "LETTERS" (.str letters)
  gMaxLetters : Gc mg "MAX_LETTERS" (.int 8)
  gMaxFeatures : Gc mg "MAX_FEATURES" (.int 6)
  gMaxValues : Gc mg "MAX_VALUES" (.int 8)
  gMaxYielded : Gc mg "MAX_YIELDED" (.int 5000)
  gMaxSize : Gc mg "MAX_SIZE" (.int 1000000000000000000)
  gMaxDay : Gc mg "MAX_DAY" (.int 1000000000000000000)
  gMaxSlips : Gc mg "MAX_SLIPS" (.int 2)
  gMaxWorth : Gc mg "MAX_WORTH" (.int 1000000000)
  gMaxLabels : Gc mg "MAX_LABELS" (.int 8)
  gThings : Gc mg "THINGS" (.str "things")
  gClaims : Gc mg "CLAIMS" (.str "claims")
  mCat : mg "Catalog" = some (.ref (cCat K))
  mNote : mg "Note" = some (.ref (cNote K))
  mThing : mg "Thing" = some (.ref (cThing K))
  mClaim : mg "Claim" = some (.ref (cClaim K))
  mOff : mg "Office" = some (.ref (cOff K))
  mMat : mg "Matcher" = some (.ref (cMat K))
  clCat : Cls K (cCat K)
  clNote : Cls K (cNote K)
  clThing : Cls K (cThing K)
  clClaim : Cls K (cClaim K)
  clOff : Cls K (cOff K)
  clMat : Cls K (cMat K)
  naParts : NoAttr K (cCat K) "parts"
  naOwnCat : NoAttr K (cNote K) "own_catalog"
  naSets : NoAttr K (cNote K) "sets"
  naTNote : NoAttr K (cThing K) "own_note"
  naTDay : NoAttr K (cThing K) "own_day"
  naCNote : NoAttr K (cClaim K) "own_note"
  naCDay : NoAttr K (cClaim K) "own_day"
  naCSlips : NoAttr K (cClaim K) "own_slips"
  naCWorth : NoAttr K (cClaim K) "own_worth"
  naOCat : NoAttr K (cOff K) "own_catalog"
  naFound : NoAttr K (cOff K) "found"
  naLost : NoAttr K (cOff K) "lost"
  naOptions : NoAttr K (cMat K) "options"
  naKnown : NoAttr K (cMat K) "known"
  isCat : C8.InsC K (cCat K)
  catNote : cNote K ≠ cCat K
  catOff : cOff K ≠ cCat K
  noteOff : cOff K ≠ cNote K
  thingOff : cOff K ≠ cThing K
  claimOff : cOff K ≠ cClaim K

/-! ### a def of the text -/
structure Df (K : PySem.W.Frag) (x qual : Str) (st : Stmt) (f : Addr) : Prop where
  ex : ∃ fd, FunD K x qual (defArgs st) (defBody st) (defScope st) [] [] f fd
section
variable {P : Program} {w : World} {K : PySem.W.Frag} {mg : Str → Option Value} {base : Heap} {x qual : Str} {st : Stmt} {f C : Addr} {N ps : List Str} {k : Nat} {sp : Sp}
/-- how the parameters are bound: by `fun _ _ _ _ _ _ us hl => match us, hl with | [_], _ => rfl` -/
abbrev BindsBy (x qual : Str) (st : Stmt) (ps : List Str) : Prop := ∀ (kV doc pm : Value) (an : Option Addr) (cdv ct : Value) (us : List Value), us.length = ps.length →
  bindArgs (PySem.W.fnOf x qual (defArgs st) (defBody st) (defScope st) .none kV doc pm an cdv ct) ⟨us, []⟩ = pure (ps.zip us)
/-- the body keeps the promise -/
abbrev BodyOk (P : Program) (w : World) (K : PySem.W.Frag) (mg : Str → Option Value) (base : Heap) (N : List Str) (qual : Str) (st : Stmt) (f : Addr) (k : Nat) (sp : Sp) : Prop :=
  ∀ (cdv : Value) (A : Around) (outer : List Env) (s : Shared) (H : Hp) (vs : List V) (Q : VK) (E : XK), Room k (A.deeper (envOfC qual (defScope st) s.heap.objs.size f cdv)) → sp vs H Q E →
    ∃ t, PSs (cxOf C8.CX0 P w K mg base N qual (defScope st) f cdv A outer s H E).nox (defBody st) t ∧ t { nx := fun _ H' => Q .non H', rt := Q } (start N vs) H
theorem Df.fn (F : Df K x qual st f) (S : FnScope N ps (defScope st)) (b : BindsBy x qual st ps) (len : ∀ vs H Q E, sp vs H Q E → vs.length = ps.length) (body : BodyOk P w K mg base N qual st f k sp) :
    ∃ fd, FnOk P w K mg base C8.CX0 (k + 1) f fd ps sp ∧ PySem.W.keepIn K (.ref f) = true ∧ Binds K fd ps [] := by
  obtain ⟨fd, F⟩ := F.ex
  refine ⟨fd, F.ok S len fun cdv A outer s H vs Q E hr h => ?_, F.kp, F.bindsN b⟩
  obtain ⟨t, h1, h2⟩ := body cdv A outer s H vs Q E hr h
  exact ⟨t, h1.nox, h2⟩
theorem Df.cal (F : Df K x x st f) (hm : mg x = some (.ref f)) (S : FnScope N ps (defScope st)) (b : BindsBy x x st ps) (len : ∀ vs H Q E, sp vs H Q E → vs.length = ps.length) (body : BodyOk P w K mg base N x st f k sp) :
    C8.Cal P w K mg base (k + 1) x sp [] := by
  obtain ⟨fd, h1, h2, h3⟩ := F.fn S b len body
  exact ⟨f, fd, ps, [], h1, hm, h2, h3, .nil⟩
theorem Df.met (F : Df K x qual st f) (c : Cls K C) (me : Meth K C x f) (S : FnScope N ps (defScope st)) (b : BindsBy x qual st ps) (len : ∀ vs H Q E, sp vs H Q E → vs.length = ps.length) (body : BodyOk P w K mg base N qual st f k sp) :
    C8.Met P w K mg base (k + 1) C x sp [] := by
  obtain ⟨fd, h1, h2, h3⟩ := F.fn S b len body
  exact ⟨f, fd, ps, [], c, me, h1, h3, .nil⟩
theorem Df.mak {y : Str} (F : Df K "__init__" qual st f) (M : Mk K C f) (hm : mg y = some (.ref C)) (S : FnScope N ps (defScope st)) (b : BindsBy "__init__" qual st ps) (len : ∀ vs H Q E, sp vs H Q E → vs.length = ps.length) (body : BodyOk P w K mg base N qual st f k sp) :
    C8.Mak P w K mg base (k + 1) y C sp [] := by
  obtain ⟨fd, h1, h2, h3⟩ := F.fn S b len body
  exact ⟨f, fd, ps, [], M, h1, hm, h3, .nil⟩
/-- a property -/
structure Pro (P : Program) (w : World) (K : PySem.W.Frag) (mg : Str → Option Value) (base : Heap) (k : Nat) (C : Addr) (x : Str) (sp : Sp) : Prop where
  ex : ∃ (p g : Addr) (fd : FuncData) (ps : List Str), Cls K C ∧ PropOf K C x p g ∧ FnOk P w K mg base C8.CX0 k g fd ps sp ∧ Binds K fd ps []
theorem Df.pro {p : Addr} (F : Df K x qual st f) (c : Cls K C) (pr : PropOf K C x p f) (S : FnScope N ps (defScope st)) (b : BindsBy x qual st ps) (len : ∀ vs H Q E, sp vs H Q E → vs.length = ps.length) (body : BodyOk P w K mg base N qual st f k sp) :
    Pro P w K mg base (k + 1) C x sp := by
  obtain ⟨fd, h1, h2, h3⟩ := F.fn S b len body
  exact ⟨p, f, fd, ps, c, pr, h1, h3⟩
/-- a special method -/
structure SpM (P : Program) (w : World) (K : PySem.W.Frag) (mg : Str → Option Value) (base : Heap) (k : Nat) (C : Addr) (x : Str) (sp : Sp) : Prop where
  ex : ∃ (f : Addr) (fd : FuncData) (ps : List Str), Spc K C x f ∧ FnOk P w K mg base C8.CX0 k f fd ps sp ∧ Binds K fd ps []
theorem Df.spm (F : Df K x qual st f) (sc : Spc K C x f) (S : FnScope N ps (defScope st)) (b : BindsBy x qual st ps) (len : ∀ vs H Q E, sp vs H Q E → vs.length = ps.length) (body : BodyOk P w K mg base N qual st f k sp) :
    SpM P w K mg base (k + 1) C x sp := by
  obtain ⟨fd, h1, h2, h3⟩ := F.fn S b len body
  exact ⟨f, fd, ps, sc, h1, h3⟩
/-- __eq__ of a class without __ne__ -/
structure NeM (P : Program) (w : World) (K : PySem.W.Frag) (mg : Str → Option Value) (base : Heap) (k : Nat) (C : Addr) (sp : Sp) : Prop where
  ex : ∃ (f : Addr) (fd : FuncData) (ps : List Str), NeC K C f ∧ FnOk P w K mg base C8.CX0 k f fd ps sp ∧ Binds K fd ps []
theorem Df.nem (F : Df K "__eq__" qual st f) (sc : NeC K C f) (S : FnScope N ps (defScope st)) (b : BindsBy "__eq__" qual st ps) (len : ∀ vs H Q E, sp vs H Q E → vs.length = ps.length) (body : BodyOk P w K mg base N qual st f k sp) :
    NeM P w K mg base (k + 1) C sp := by
  obtain ⟨fd, h1, h2, h3⟩ := F.fn S b len body
  exact ⟨f, fd, ps, sc, h1, h3⟩
end
section
variable {X : Cx} {k j : Nat} {C : Addr} {sp : Sp}
theorem pe_pr {e : Expr} {f : Str} {pos : Pos} {ta : TE} (c : Pro X.prog X.w X.K X.mg X.base k C f sp) (hr : Room j X.A) (hk : k + 1 ≤ j) (he : PE X e ta) (hab : attributeBase e f X.env (eval e X.env) = eval e X.env := by rfl) : PE X (.Attribute e f pos) (tProp C sp [] C8.E0 ta) := by
  obtain ⟨p, g, fd, ps, h1, h2, h3, h4⟩ := c.ex
  exact pe_prop he h1 h2 h3 (hr.mono hk) h4 .nil C8.pass0 hab
theorem op_inM (c : SpM X.prog X.w X.K X.mg X.base k C "__contains__" sp) (hr : Room j X.A) (hk : k ≤ j) : OpR X (compareOp .In) (rInOwn false C sp) := by
  obtain ⟨f, fd, ps, h1, h2, h3⟩ := c.ex
  exact op_inOwn h1 h2 (hr.mono hk) h3
theorem op_notInM (c : SpM X.prog X.w X.K X.mg X.base k C "__contains__" sp) (hr : Room j X.A) (hk : k ≤ j) : OpR X (compareOp .NotIn) (rInOwn true C sp) := by
  obtain ⟨f, fd, ps, h1, h2, h3⟩ := c.ex
  exact op_notInOwn h1 h2 (hr.mono hk) h3
theorem pe_ixM {a b : Expr} {ta tb : TE} {pos : Pos} (c : SpM X.prog X.w X.K X.mg X.base k C "__getitem__" sp) (hr : Room j X.A) (hk : k + 1 ≤ j) (ha : PE X a ta) (hb : PE X b tb) (hs : PlainIxP b) : PE X (.Subscript a b pos) (tOp (rIxOwn C sp) ta tb) := by
  obtain ⟨f, fd, ps, h1, h2, h3⟩ := c.ex
  exact pe_ixOwn h1 h2 (hr.mono hk) h3 ha hb hs
theorem op_neM (c : NeM X.prog X.w X.K X.mg X.base k C sp) (hr : Room j X.A) (hk : k + 1 ≤ j) : OpR X (compareOp .NotEq) (rNeOwn C sp) := by
  obtain ⟨f, fd, ps, h1, h2, h3⟩ := c.ex
  exact op_neOwn h1 h2 (hr.mono hk) h3
end
end Lk
/-! Kh -/
namespace Lk
open PySem PySem.Spec PyProof.Rows L2
open He
/-! ### defs by datum -/
def dIsNumber : DefD := ⟨("is_number", none), "is_number", "is_number", defArgs sIsNumber, defBody sIsNumber, defScope sIsNumber, [], []⟩
def dIsWord : DefD := ⟨("is_word", none), "is_word", "is_word", defArgs sIsWord, defBody sIsWord, defScope sIsWord, [], []⟩
def dIsRising : DefD := ⟨("is_rising", none), "is_rising", "is_rising", defArgs sIsRising, defBody sIsRising, defScope sIsRising, [], []⟩
def dIsFeature : DefD := ⟨("is_feature", none), "is_feature", "is_feature", defArgs sIsFeature, defBody sIsFeature, defScope sIsFeature, [], []⟩
def dCatInit : DefD := ⟨("Catalog", some "__init__"), "__init__", "Catalog.__init__", defArgs sCatInit, defBody sCatInit, defScope sCatInit, [], []⟩
def dCatContains : DefD := ⟨("Catalog", some "__contains__"), "__contains__", "Catalog.__contains__", defArgs sCatContains, defBody sCatContains, defScope sCatContains, [], []⟩
def dCatEq : DefD := ⟨("Catalog", some "__eq__"), "__eq__", "Catalog.__eq__", defArgs sCatEq, defBody sCatEq, defScope sCatEq, [], []⟩
def dNoteInit : DefD := ⟨("Note", some "__init__"), "__init__", "Note.__init__", defArgs sNoteInit, defBody sNoteInit, defScope sNoteInit, [], []⟩
def dNoteGet : DefD := ⟨("Note", some "__getitem__"), "__getitem__", "Note.__getitem__", defArgs sNoteGet, defBody sNoteGet, defScope sNoteGet, [], []⟩
def dCommon : DefD := ⟨("common", none), "common", "common", defArgs sCommon, defBody sCommon, defScope sCommon, [], []⟩
def dValClaim : DefD := ⟨("validate_claim", none), "validate_claim", "validate_claim", defArgs sValClaim, defBody sValClaim, defScope sValClaim, [], []⟩
def dValPair : DefD := ⟨("validate_pair", none), "validate_pair", "validate_pair", defArgs sValPair, defBody sValPair, defScope sValPair, [], []⟩
def dValLabel : DefD := ⟨("validate_label", none), "validate_label", "validate_label", defArgs sValLabel, defBody sValLabel, defScope sValLabel, [], []⟩
def dMisfits : DefD := ⟨("misfits_of", none), "misfits_of", "misfits_of", defArgs sMisfits, defBody sMisfits, defScope sMisfits, [], []⟩
def dIsFitting : DefD := ⟨("is_fitting", none), "is_fitting", "is_fitting", defArgs sIsFitting, defBody sIsFitting, defScope sIsFitting, [], []⟩
def dFitThings : DefD := ⟨("fitting_things", none), "fitting_things", "fitting_things", defArgs sFitThings, defBody sFitThings, defScope sFitThings, [], []⟩
def dCandidates : DefD := ⟨("candidates", none), "candidates", "candidates", defArgs sCandidates, defBody sCandidates, defScope sCandidates, [], []⟩
def dLonely : DefD := ⟨("lonely", none), "lonely", "lonely", defArgs sLonely, defBody sLonely, defScope sLonely, [], []⟩
def dRivals : DefD := ⟨("rivals", none), "rivals", "rivals", defArgs sRivals, defBody sRivals, defScope sRivals, [], []⟩
def dChoices : DefD := ⟨("choices", none), "choices", "choices", defArgs sChoices, defBody sChoices, defScope sChoices, [], []⟩
def dShortage : DefD := ⟨("shortage", none), "shortage", "shortage", defArgs sShortage, defBody sShortage, defScope sShortage, [], []⟩
def dShortGroup : DefD := ⟨("short_group", none), "short_group", "short_group", defArgs sShortGroup, defBody sShortGroup, defScope sShortGroup, [], []⟩
def dShownGroup : DefD := ⟨("shown_group", none), "shown_group", "shown_group", defArgs sShownGroup, defBody sShownGroup, defScope sShownGroup, [], []⟩
def dMatInit : DefD := ⟨("Matcher", some "__init__"), "__init__", "Matcher.__init__", defArgs sMatInit, defBody sMatInit, defScope sMatInit, [], []⟩
def dMatCounts : DefD := ⟨("Matcher", some "counts"), "counts", "Matcher.counts", defArgs sMatCounts, defBody sMatCounts, defScope sMatCounts, [], []⟩
def dMatHas : DefD := ⟨("Matcher", some "has"), "has", "Matcher.has", defArgs sMatHas, defBody sMatHas, defScope sMatHas, [], []⟩
def dMatMost : DefD := ⟨("Matcher", some "most"), "most", "Matcher.most", defArgs sMatMost, defBody sMatMost, defScope sMatMost, [], []⟩
def dMatWalked : DefD := ⟨("Matcher", some "walked"), "walked", "Matcher.walked", defArgs sMatWalked, defBody sMatWalked, defScope sMatWalked, [], []⟩
def dMatchCount : DefD := ⟨("match_count", none), "match_count", "match_count", defArgs sMatchCount, defBody sMatchCount, defScope sMatchCount, [], []⟩
def dMostPairs : DefD := ⟨("most_pairs", none), "most_pairs", "most_pairs", defArgs sMostPairs, defBody sMostPairs, defScope sMostPairs, [], []⟩
def dFirstMatch : DefD := ⟨("first_match", none), "first_match", "first_match", defArgs sFirstMatch, defBody sFirstMatch, defScope sFirstMatch, [], []⟩
def dMatches : DefD := ⟨("matches", none), "matches", "matches", defArgs sMatches, defBody sMatches, defScope sMatches, [], []⟩
def dJudged : DefD := ⟨("judged", none), "judged", "judged", defArgs sJudged, defBody sJudged, defScope sJudged, [], []⟩
def dJudge : DefD := ⟨("judge", none), "judge", "judge", defArgs sJudge, defBody sJudge, defScope sJudge, [], []⟩
def dSurePairs : DefD := ⟨("sure_pairs", none), "sure_pairs", "sure_pairs", defArgs sSurePairs, defBody sSurePairs, defScope sSurePairs, [], []⟩
def dService : DefD := ⟨("service", none), "service", "service", defArgs sService, defBody sService, defScope sService, [], []⟩
def dServed : DefD := ⟨("served", none), "served", "served", defArgs sServed, defBody sServed, defScope sServed, [], []⟩
def dValFitting : DefD := ⟨("validate_fitting", none), "validate_fitting", "validate_fitting", defArgs sValFitting, defBody sValFitting, defScope sValFitting, [], []⟩
def dRestOf : DefD := ⟨("rest_of", none), "rest_of", "rest_of", defArgs sRestOf, defBody sRestOf, defScope sRestOf, [], []⟩
def dHanded : DefD := ⟨("handed", none), "handed", "handed", defArgs sHanded, defBody sHanded, defScope sHanded, [], []⟩
def dPairLoss : DefD := ⟨("pair_loss", none), "pair_loss", "pair_loss", defArgs sPairLoss, defBody sPairLoss, defScope sPairLoss, [], []⟩
def dThingInit : DefD := ⟨("Thing", some "__init__"), "__init__", "Thing.__init__", defArgs sThingInit, defBody sThingInit, defScope sThingInit, [], []⟩
def dClaimInit : DefD := ⟨("Claim", some "__init__"), "__init__", "Claim.__init__", defArgs sClaimInit, defBody sClaimInit, defScope sClaimInit, [.int 0, .int 1], []⟩
def dOrdered : DefD := ⟨("ordered", none), "ordered", "ordered", defArgs sOrdered, defBody sOrdered, defScope sOrdered, [], []⟩
def dOffInit : DefD := ⟨("Office", some "__init__"), "__init__", "Office.__init__", defArgs sOffInit, defBody sOffInit, defScope sOffInit, [], []⟩
def dOffContains : DefD := ⟨("Office", some "__contains__"), "__contains__", "Office.__contains__", defArgs sOffContains, defBody sOffContains, defScope sOffContains, [], []⟩
def dOffWithout : DefD := ⟨("Office", some "without"), "without", "Office.without", defArgs sOffWithout, defBody sOffWithout, defScope sOffWithout, [], []⟩
def dLawMix : DefD := ⟨("_law_mix", none), "_law_mix", "_law_mix", defArgs sLawMix, defBody sLawMix, defScope sLawMix, [], []⟩
def dLawNext : DefD := ⟨("_law_next", none), "_law_next", "_law_next", defArgs sLawNext, defBody sLawNext, defScope sLawNext, [], []⟩
def dLawFeatures : DefD := ⟨("_law_features", none), "_law_features", "_law_features", defArgs sLawFeatures, defBody sLawFeatures, defScope sLawFeatures, [], []⟩
def dLawSome : DefD := ⟨("_law_some", none), "_law_some", "_law_some", defArgs sLawSome, defBody sLawSome, defScope sLawSome, [], []⟩
def dLawSets : DefD := ⟨("_law_sets", none), "_law_sets", "_law_sets", defArgs sLawSets, defBody sLawSets, defScope sLawSets, [], []⟩
def dLawDrawn : DefD := ⟨("_law_drawn", none), "_law_drawn", "_law_drawn", defArgs sLawDrawn, defBody sLawDrawn, defScope sLawDrawn, [], []⟩
def dLawNote : DefD := ⟨("_law_note", none), "_law_note", "_law_note", defArgs sLawNote, defBody sLawNote, defScope sLawNote, [], []⟩
def dLawOffice : DefD := ⟨("_law_office", none), "_law_office", "_law_office", defArgs sLawOffice, defBody sLawOffice, defScope sLawOffice, [], []⟩
def dLawPairRight : DefD := ⟨("_law_pair_right", none), "_law_pair_right", "_law_pair_right", defArgs sLawPairRight, defBody sLawPairRight, defScope sLawPairRight, [], []⟩
def dLaw : DefD := ⟨("law", none), "law", "law", defArgs sLaw, defBody sLaw, defScope sLaw, [], []⟩
def fnL : List DefD := [dIsNumber, dIsWord, dIsRising, dIsFeature, dCatInit, dCatContains, dCatEq, dNoteInit, dNoteGet, dCommon, dValClaim, dValPair, dValLabel, dMisfits, dIsFitting, dFitThings, dCandidates, dLonely, dRivals, dChoices, dShortage, dShortGroup, dShownGroup, dMatInit, dMatCounts, dMatHas, dMatMost, dMatWalked, dMatchCount, dMostPairs, dFirstMatch, dMatches, dJudged, dJudge, dSurePairs, dService, dServed, dValFitting, dRestOf, dHanded, dPairLoss, dThingInit, dClaimInit, dOrdered, dOffInit, dOffContains, dOffWithout, dLawMix, dLawNext, dLawFeatures, dLawSome, dLawSets, dLawDrawn, dLawNote, dLawOffice, dLawPairRight, dLaw]
/-- a getter of a property -/
structure PrD where
  cls : Str
  nm : Str
  qual : Str
  st : Stmt
def PrD.val (d : PrD) : FnW := some (d.nm, d.qual, defArgs d.st, .stmts (defBody d.st), defScope d.st, mainGlobals, [], builtinsNs)
def PrD.pA (K : PySem.W.Frag) (d : PrD) : Addr := ma K (ga K d.cls) d.nm
def PrD.gA (K : PySem.W.Frag) (d : PrD) : Addr := match PySem.W.recIn K (d.pA K) "property" with
  | some (.ref g :: _) => g
  | _ => 0
def fnWa (K : PySem.W.Frag) (a : Addr) : FnW := match K.lookup a with
  | some ⟨_, _, .func fd, _⟩ => some (fd.name, fd.qualname, fd.params, fd.body, fd.scope, fd.globals, fd.closure, fd.builtins)
  | _ => none
def PrD.ok (K : PySem.W.Frag) (d : PrD) : Bool := eqO (PySem.W.findIn K (.ref (ga K d.cls)) d.nm) (some (some (.ref (d.pA K)))) && (eqO (PySem.W.specialIn K (.ref (d.pA K)) "__get__") (some (some (.builtin "property.__get__"))) && (decide (PySem.W.takesIn K (.ref (d.pA K)) = some true) &&
  ((match PySem.W.recIn K (d.pA K) "property" with
    | some (.ref _ :: _) => true
    | _ => false) && (PySem.W.keepIn K (.ref (d.gA K)) && (match K.lookup (d.gA K) with
    | some ⟨_, _, .func fd, _⟩ => PySem.W.codeIn K fd.code d.qual && (dflB K fd.defaults [] && kwdB K fd.kwdefaults [])
    | _ => false)))))
theorem PrD.propOf {K : PySem.W.Frag} {d : PrD} (h : d.ok K = true) : PropOf K (ga K d.cls) d.nm (d.pA K) (d.gA K) := by
  obtain ⟨h1, h⟩ := ba h
  obtain ⟨h2, h⟩ := ba h
  obtain ⟨h3, h⟩ := ba h
  obtain ⟨h4, _⟩ := ba h
  refine ⟨eqO_ok h1, eqO_ok h2, of_decide_eq_true h3, ?_⟩
  unfold PrD.gA
  cases q : PySem.W.recIn K (d.pA K) "property" with
  | none => rw [q] at h4; cases h4
  | some l =>
    rw [q] at h4
    cases l with
    | nil => cases h4
    | cons v r =>
      cases v with
      | ref g => exact ⟨r, rfl⟩
      | _ => cases h4
theorem PrD.df {K : PySem.W.Frag} {d : PrD} (h : d.ok K = true) (e : fnWa K (d.gA K) = d.val) : Df K d.nm d.qual d.st (d.gA K) := by
  obtain ⟨_, h⟩ := ba h
  obtain ⟨_, h⟩ := ba h
  obtain ⟨_, h⟩ := ba h
  obtain ⟨_, h⟩ := ba h
  obtain ⟨kp, c2⟩ := ba h
  unfold fnWa at e
  cases q : K.lookup (d.gA K) with
  | none => rw [q] at c2; cases c2
  | some ob =>
    obtain ⟨oc, od, dt, osl⟩ := ob
    rw [q] at c2 e
    cases dt with
    | func fd =>
      obtain ⟨n1, n2, n3, n4, n5, n6, n7, n8, n9, n10, n11, n12, n13, n14, n15⟩ := fd
      have e2 : (some (n1, n2, n3, n4, n5, n6, n7, n15) : FnW) = some (d.nm, d.qual, defArgs d.st, .stmts (defBody d.st), defScope d.st, mainGlobals, [], builtinsNs) := e
      simp only [Option.some.injEq, Prod.mk.injEq] at e2
      obtain ⟨a1, a2, a3, a4, a5, a6, a7, a8⟩ := e2
      subst a1 a2 a3 a4 a5 a6 a7 a8
      obtain ⟨b1, b2⟩ := ba (show (PySem.W.codeIn K n13 d.qual && (dflB K n8 [] && kwdB K n9 [])) = true from c2)
      obtain ⟨b3, b4⟩ := ba b2
      exact ⟨_, ⟨oc, od, n8, n9, n10, n11, n12, n13, n14, osl, rfl, q, b1, dflB_ok b3, kwdB_ok b4⟩, kp⟩
    | _ => cases c2
/-- a special method of a class -/
def spB (K : PySem.W.Frag) (c m : Str) : Bool := eqO (PySem.W.findIn K (.ref (ga K c)) m) (some (some (.ref (ma K (ga K c) m)))) && (PySem.W.isFn K (.ref (ma K (ga K c) m)) && PySem.W.fnIn K (ma K (ga K c) m))
theorem spB_ok {K : PySem.W.Frag} {c m : Str} (h : spB K c m = true) : Spc K (ga K c) m (ma K (ga K c) m) := by
  obtain ⟨h1, h⟩ := ba h
  obtain ⟨h2, h3⟩ := ba h
  exact ⟨eqO_ok h1, h2, h3⟩
def neB (K : PySem.W.Frag) (c : Str) : Bool := eqO (PySem.W.findIn K (.ref (ga K c)) "__eq__") (some (some (.ref (ma K (ga K c) "__eq__")))) && (PySem.W.isFn K (.ref (ma K (ga K c) "__eq__")) && (eqO (PySem.W.findIn K (.ref (ga K c)) "__ne__") (some (some (.builtin "object.__ne__"))) && decide (PySem.W.subIn K (.ref (ga K c)) (.type "object") = some true)))
theorem neB_ok {K : PySem.W.Frag} {c : Str} (h : neB K c = true) : NeC K (ga K c) (ma K (ga K c) "__eq__") := by
  obtain ⟨h1, h⟩ := ba h
  obtain ⟨h2, h⟩ := ba h
  obtain ⟨h3, h4⟩ := ba h
  exact ⟨eqO_ok h1, h2, eqO_ok h3, of_decide_eq_true h4⟩
def isB (K : PySem.W.Frag) (c : Str) : Bool := eqO (PySem.W.findIn K (.ref (ga K c)) "__class__") (some (some (.builtin "object.__class__"))) && (eqO (PySem.W.specialIn K (.builtin "object.__class__") "__get__") (some (some (.builtin "getset_descriptor.__get__"))) && (decide (PySem.W.takesIn K (.builtin "object.__class__") = some true) &&
  (decide (PySem.W.mroIn K (ga K c) (.type "object") = some true) && decide (PySem.W.kitOne K (.ref (ga K c)) (.ref (ga K c)) = some true))))
theorem isB_ok {K : PySem.W.Frag} {c : Str} (cl : Cls K (ga K c)) (h : isB K c = true) : C8.InsC K (ga K c) := by
  obtain ⟨h1, h⟩ := ba h
  obtain ⟨h2, h⟩ := ba h
  obtain ⟨h3, h⟩ := ba h
  obtain ⟨h4, h5⟩ := ba h
  exact ⟨cl, eqO_ok h1, eqO_ok h2, of_decide_eq_true h3, of_decide_eq_true h4, of_decide_eq_true h5⟩
def pCatFeatures : PrD := ⟨"Catalog", "features", "Catalog.features", sCatFeatures⟩
def pCatNames : PrD := ⟨"Catalog", "names", "Catalog.names", sCatNames⟩
def pNoteCatalog : PrD := ⟨"Note", "catalog", "Note.catalog", sNoteCatalog⟩
def pThingNote : PrD := ⟨"Thing", "note", "Thing.note", sThingNote⟩
def pThingDay : PrD := ⟨"Thing", "day", "Thing.day", sThingDay⟩
def pClaimNote : PrD := ⟨"Claim", "note", "Claim.note", sClaimNote⟩
def pClaimDay : PrD := ⟨"Claim", "day", "Claim.day", sClaimDay⟩
def pClaimSlips : PrD := ⟨"Claim", "slips", "Claim.slips", sClaimSlips⟩
def pOffThings : PrD := ⟨"Office", "things", "Office.things", sOffThings⟩
def pOffClaims : PrD := ⟨"Office", "claims", "Office.claims", sOffClaims⟩
def prL : List PrD := [pCatFeatures, pCatNames, pNoteCatalog, pThingNote, pThingDay, pClaimNote, pClaimDay, pClaimSlips, pOffThings, pOffClaims]
def faL : List Fa := [.glo "is_number", .glo "is_word", .glo "is_rising", .glo "is_feature", .glo "common", .glo "validate_claim", .glo "validate_pair", .glo "validate_label", .glo "misfits_of", .glo "is_fitting", .glo "fitting_things", .glo "candidates", .glo "lonely", .glo "rivals", .glo "choices", .glo "shortage", .glo "short_group", .glo "shown_group", .glo "match_count", .glo "most_pairs", .glo "first_match", .glo "matches", .glo "judged", .glo "judge", .glo "sure_pairs", .glo "service", .glo "served", .glo "validate_fitting", .glo "rest_of", .glo "handed", .glo "pair_loss", .glo "ordered", .glo "_law_mix", .glo "_law_next", .glo "_law_features", .glo "_law_some", .glo "_law_sets", .glo "_law_drawn", .glo "_law_note", .glo "_law_office", .glo "_law_pair_right", .glo "law", .glo "Catalog", .cls "Catalog", .mkr "Catalog", .glo "Note", .cls "Note", .mkr "Note", .glo "Thing", .cls "Thing", .mkr "Thing", .glo "Claim", .cls "Claim", .mkr "Claim", .glo "Office", .cls "Office", .mkr "Office", .glo "Matcher", .cls "Matcher", .mkr "Matcher", .free "isinstance", .free "int", .free "bool", .free "len", .free "all", .free "zip", .free "enumerate", .free "sorted", .free "tuple", .free "list", .free "dict", .free "range", .free "max", .int "MAX_LETTERS" 8, .int "MAX_FEATURES" 6, .int "MAX_VALUES" 8, .int "MAX_YIELDED" 5000, .int "MAX_SIZE" 1000000000000000000, .int "MAX_DAY" 1000000000000000000, .int "MAX_SLIPS" 2, .int "MAX_WORTH" 1000000000, .int "MAX_LABELS" 8, .str "LETTERS" letters, .str "THINGS" "things", .str "CLAIMS" "claims", .noat "Catalog" "parts", .noat "Note" "own_catalog", .noat "Note" "sets", .noat "Thing" "own_note", .noat "Thing" "own_day", .noat "Claim" "own_note", .noat "Claim" "own_day", .noat "Claim" "own_slips", .noat "Claim" "own_worth", .noat "Office" "own_catalog", .noat "Office" "found", .noat "Office" "lost", .noat "Matcher" "options", .noat "Matcher" "known", .meth "Matcher" "counts", .meth "Matcher" "has", .meth "Matcher" "most", .meth "Matcher" "walked", .meth "Office" "without"]
def exL (K : PySem.W.Frag) : List Bool := [spB K "Catalog" "__contains__", spB K "Note" "__getitem__", spB K "Office" "__contains__", neB K "Catalog", isB K "Catalog", !(ga K "Note" == ga K "Catalog"), !(ga K "Office" == ga K "Catalog"), !(ga K "Office" == ga K "Note"), !(ga K "Office" == ga K "Thing"), !(ga K "Office" == ga K "Claim")]
abbrev AlL : Type := Bool × (AlD × List FnW)
def obsK (K : PySem.W.Frag) : AlL := ((exL K).all id && prL.all fun d => d.ok K, obsD faL fnL K, prL.map fun d => fnWa K (d.gA K))
def valL : AlL := (true, valD fnL, prL.map PrD.val)
structure Says (K : PySem.W.Frag) : Prop where
  d : SaysD faL fnL K
  ex : ∀ b ∈ exL K, b = true
  pr : ∀ d ∈ prL, d.ok K = true ∧ fnWa K (d.gA K) = d.val
theorem map_eq {α β : Type} {f g : α → β} : ∀ {l : List α}, l.map f = l.map g → ∀ x ∈ l, f x = g x
  | [], _, x, h => by cases h
  | a :: l, e, x, h => by
    injection e with e1 e2
    rcases List.mem_cons.mp h with z | z
    · rw [z]; exact e1
    · exact map_eq e2 x z
theorem says_of {K : PySem.W.Frag} (e : obsK K = valL) : Says K := by
  have e1 : ((exL K).all id && prL.all fun d => d.ok K) = true := congrArg (fun z : AlL => z.1) e
  have e2 : obsD faL fnL K = valD fnL := congrArg (fun z : AlL => z.2.1) e
  have e3 : (prL.map fun d => fnWa K (d.gA K)) = prL.map PrD.val := congrArg (fun z : AlL => z.2.2) e
  obtain ⟨h1, h2⟩ := ba e1
  exact ⟨e2, fun b hb => List.all_eq_true.mp h1 b hb, fun d hd => ⟨List.all_eq_true.mp h2 d hd, map_eq e3 d hd⟩⟩
def frD (g : Addr → Option Obj) (as : List Addr) : List Addr := as.flatMap fun a => match g a with
  | some o => refsD o
  | none => []
def layD (g : Addr → Option Obj) : Nat → List Addr → List Addr
  | 0, as => as
  | n + 1, as => as ++ layD g n (frD g as)
def obsL (g : Addr → Option Obj) : AlL := obsK (frG g (layD g 5 [mainGlobals]))
def hookL : PySem.W.Hook where
  α := AlL
  obs := fun s => obsL s.heap.get?
  val := fun _ => valL
  says := fun _ h => ∃ K : PySem.W.Frag, K.In h ∧ Says K
  of := fun _ _ e => ⟨_, frG_in, says_of e⟩
  keeps := fun _ _ _ ⟨K, hK, c⟩ k => ⟨K, PySem.W.Frag.In.keeps hK k, c⟩
def obL (s : PySem.W.SharedT) : AlL := obsL (HandSHeadRun.getT s)
theorem obL_eq (s : PySem.W.SharedT) : obL s = hookL.obs s.abs := by
  have e : HandSHeadRun.getT s = s.abs.heap.get? := funext (HandSHeadRun.getT_eq s)
  show obsL (HandSHeadRun.getT s) = obsL s.abs.heap.get?
  rw [e]
end Lk
/-! Kz1 -/
namespace Lk
open PySem PySem.Spec PyProof.Rows L2
abbrev Rr : PySem.W.OpenRow := PySem.W.OpenLaw.row PySem.Challenge.rw_lostdesk_k18_whole_pairs_and_groups
def nms0 : List PySem.Str := ["_wall", "__name__", "DeskError", "InvalidCatalog", "UnknownFeature", "InvalidNote", "InvalidEntry", "InvalidOffice", "UnknownLabel", "InvalidNumber", "TooMany", "NotFitting", "InvalidGroup", "LETTERS", "MAX_LETTERS", "MAX_FEATURES", "MAX_VALUES", "is_number", "is_word", "is_rising", "is_feature", "Catalog", "Note", "common", "validate_claim", "validate_pair", "validate_label", "misfits_of", "is_fitting", "fitting_things"]
def nms1 : List PySem.Str := ["candidates", "lonely", "rivals", "choices", "shortage", "short_group", "shown_group", "MAX_YIELDED", "MAX_SIZE", "Matcher", "match_count", "most_pairs", "first_match", "matches", "judged", "judge", "sure_pairs", "service", "served", "validate_fitting", "rest_of", "handed", "pair_loss", "MAX_DAY", "MAX_SLIPS", "MAX_WORTH", "MAX_LABELS", "THINGS", "CLAIMS", "Thing"]
def nms2 : List PySem.Str := ["Claim", "ordered", "Office", "_law_mix", "_law_next", "_law_features", "_law_some", "_law_sets", "_law_drawn", "_law_note", "_law_office", "_law_pair_right"]
def nms : List PySem.Str := nms0 ++ nms1 ++ nms2
theorem headRun (w : World) : HandSHeadRun.RunEq Rr (PySem.W.view Rr.prog [81]) hookL obL 9000 nms w := by
  intro os
  kernel_rfl
end Lk
/-! Ku -/
namespace Lk
open PySem PySem.Spec PyProof.Rows L2

theorem Same.upd {H : Hp} {p : Addr} {o : HO} (h : H p = none) : Same H (upd H p o) := fun b u e => by rw [upd_ne (ne_of_none e h)]; exact e
theorem Same.upd' {H H1 : Hp} {p : Addr} {o : HO} (s : Same H H1) (h : H1 p = none) : Same H (L2.upd H1 p o) := s.trans (Same.upd h)
theorem Same.updN {H H1 : Hp} {p : Addr} {o : HO} (s : Same H H1) (h : H p = none) : Same H (L2.upd H1 p o) := fun b u e => by rw [upd_ne (ne_of_none e h)]; exact s b u e
theorem Same.seqT {K : PySem.W.Frag} {H H' : Hp} {a : Addr} {xs : List V} (e : Same H H') (h : SqT K H a xs) : SqT K H' a xs := by
  rcases h with (h | ⟨o, h⟩) | h
  · exact .inl (.inl (e _ _ h))
  · exact .inl (.inr ⟨o, e _ _ h⟩)
  · exact .inr h
theorem pg_n2 {X : Cx} (Kf : PySem.W.Frag) {pos p1 p2 : Pos} {i j k : Nat} {x y : Str} (hK : X.K = Kf) (hc : X.calm = true) (hN : X.N.Nodup) (hi : X.N[i]? = some x) (hj : X.N[j]? = some y) (hx : Loc X.env.scope x) (hy : Loc X.env.scope y)
    (hf : X.fn x = true ∨ X.env.scope.names.lookup x = some .local) (hg : X.fn y = true ∨ X.env.scope.names.lookup y = some .local) :
    PG X (.Tuple [.Name x p1, .Name y p2] k pos) (gTup Kf 2 (gCons (gName i) (gCons (gName j) gNil))) := by
  subst hK
  exact pg_tup hc (pgs_cons (pg_name hN hi hx hf) (pgs_cons (pg_name hN hj hy hg) pgs_nil))

theorem tyes {σ : L2.St} {H : Hp} {A B : Hp → Prop} (h : A H) : tYes σ H (fun b H3 => if b = true then A H3 else B H3) := h
theorem yes_ {σ : L2.St} {H : Hp} {k : Bool → Hp → Prop} (h : k true H) : tYes σ H k := h
theorem ix_tupK (Kf : PySem.W.Frag) {X : Cx} (h : X.K = Kf) : IxR X (rIxT Kf) := by subst h; exact ix_tup
theorem ix_listK (Kf : PySem.W.Frag) {X : Cx} (h : X.K = Kf) : IxR X (rIxL Kf) := by subst h; exact ix_list
theorem op_inK (Kf : PySem.W.Frag) {X : Cx} (h : X.K = Kf) : OpR X (compareOp .In) (rIn Kf false) := by subst h; exact op_in_seq
theorem op_notInK (Kf : PySem.W.Frag) {X : Cx} (h : X.K = Kf) : OpR X (compareOp .NotIn) (rIn Kf true) := by subst h; exact op_notIn_seq
theorem op_eqK (Kf : PySem.W.Frag) {X : Cx} (h : X.K = Kf) (hu : X.A.units + 64 < cLine) : OpR X (compareOp .Eq) (rEqD Kf) := by subst h; exact op_eqD hu
theorem op_neK (Kf : PySem.W.Frag) {X : Cx} (h : X.K = Kf) (hu : X.A.units + 64 < cLine) : OpR X (compareOp .NotEq) (rNeD Kf) := by subst h; exact op_neD hu
theorem pe_fldK (Kf : PySem.W.Frag) {X : Cx} {e : Expr} {f : Str} {pos : Pos} {ta : TE} (h : X.K = Kf) (he : PE X e ta) (hb : attributeBase e f X.env (eval e X.env) = eval e X.env) : PE X (.Attribute e f pos) (tFld Kf ta f) := by subst h; exact pe_fld he hb
theorem gen_heap {P : Hp → Prop} {H0 : Hp} (φ : Hp → Prop) (h0 : φ H0) (h : ∀ H, φ H → P H) : P H0 := h H0 h0
theorem gen_for {wi : TI} {g : TG} {tb : TS} {D : Ends} {σ : L2.St} {H0 : Hp} (φ : Hp → Prop) (h0 : φ H0) (h : ∀ H, φ H → tFor wi g tb D σ H) : tFor wi g tb D σ H0 := h H0 h0
theorem upd_keep {H : Hp} {D p : Addr} {o u : HO} (h : H D = some o) (hp : H p = none) : upd H p u D = some o := by rw [upd_ne (ne_of_none h hp)]; exact h
theorem back_none {H : Hp} {p b : Addr} {u : HO} (h : upd H p u b = none) : H b = none := by
  by_cases e : b = p
  · rw [e, upd_same] at h; cases h
  · rw [upd_ne e] at h; exact h
theorem none_of {H H' : Hp} {d : Addr} (s : Same H H') (h : H' d = none) : H d = none := by
  cases e : H d with
  | none => rfl
  | some u => rw [s d u e] at h; cases h
/-- a growing list at D; all that stood in H stands -/
def PvS (H : Hp) (D : Addr) (out : Nat → List V) : Nat → Hp → Prop := fun i H' => Same H H' ∧ H' D = some (.lst (out i))
theorem PvS.zero {H : Hp} {D : Addr} {out : Nat → List V} (hD : H D = none) (h0 : out 0 = []) : PvS H D out 0 (upd H D (.lst [])) := ⟨Same.upd hD, by rw [upd_same, h0]⟩
theorem PvS.add {H H4 : Hp} {D : Addr} {out : Nat → List V} {i : Nat} {y : V} (hD : H D = none) (s : Same H H4) (d : H4 D = some (.lst (out i))) (hl : (out i).length ≤ 100000) (e : out (i + 1) = out i ++ [y]) :
    ∃ acc, H4 D = some (.lst acc) ∧ acc.length < sizeLine ∧ PvS H D out (i + 1) (L2.upd H4 D (.lst (acc ++ [y]))) :=
  ⟨out i, d, by rw [sizeLine_eq]; omega, Same.updN s hD, by rw [upd_same, e]⟩
theorem PvS.skip {H H4 : Hp} {D : Addr} {out : Nat → List V} {i : Nat} (s : Same H H4) (d : H4 D = some (.lst (out i))) (e : out (i + 1) = out i) : PvS H D out (i + 1) H4 := ⟨s, by rw [e]; exact d⟩

section
variable {α : Type} {xs : List α} {p : α → Bool} {f : α → V} {i : Nat} {x : α}
/-- what a comprehension has after i turns -/
def outF (xs : List α) (p : α → Bool) (f : α → V) (i : Nat) : List V := ((xs.take i).filter p).map f
theorem outF_zero : outF xs p f 0 = [] := by simp [outF]
theorem outF_step (h : xs[i]? = some x) : outF xs p f (i + 1) = outF xs p f i ++ (if p x = true then [f x] else []) := by
  unfold outF
  rw [List.take_add_one, h, List.filter_append, List.map_append]
  by_cases hp : p x = true <;> simp [hp]
theorem outF_yes (h : xs[i]? = some x) (hp : p x = true) : outF xs p f (i + 1) = outF xs p f i ++ [f x] := by rw [outF_step h, if_pos hp]
theorem outF_no (h : xs[i]? = some x) (hp : p x = false) : outF xs p f (i + 1) = outF xs p f i := by rw [outF_step h, hp]; simp
theorem outF_len (h : xs.length ≤ 100000) : (outF xs p f i).length ≤ 100000 := by
  unfold outF
  rw [List.length_map]
  exact Nat.le_trans (List.length_filter_le _ _) (by rw [List.length_take]; omega)
theorem outF_all (n : Nat) (hn : n = xs.length) : outF xs p f n = (xs.filter p).map f := by
  subst hn; unfold outF; rw [List.take_length]
/-- without a test -/
def outM (xs : List α) (f : α → V) (i : Nat) : List V := (xs.take i).map f
theorem outM_zero : outM xs f 0 = [] := rfl
theorem outM_step (h : xs[i]? = some x) : outM xs f (i + 1) = outM xs f i ++ [f x] := by
  unfold outM
  rw [List.take_add_one, h, List.map_append]; rfl
theorem outM_len (h : xs.length ≤ 100000) : (outM xs f i).length ≤ 100000 := by
  unfold outM
  rw [List.length_map, List.length_take]; omega
theorem outM_all (n : Nat) (hn : n = xs.length) : outM xs f n = xs.map f := by
  subst hn; unfold outM; rw [List.take_length]
end
theorem get_map {α β : Type} {f : α → β} {xs : List α} {i : Nat} {y : β} (h : (xs.map f)[i]? = some y) : ∃ x, xs[i]? = some x ∧ y = f x := by
  rw [List.getElem?_map] at h
  obtain ⟨x, e, h⟩ := Option.map_eq_some_iff.mp h
  exact ⟨x, e, h.symm⟩
theorem inV_strs (n : Str) (ys : List Str) : inV (.str n) (ys.map V.str) = decide (n ∈ ys) := by
  unfold inV
  rw [List.any_map, Bool.eq_iff_iff, List.any_eq_true, decide_eq_true_iff]
  constructor
  · rintro ⟨y, hy, e⟩
    have e' : (y == n) = true := e
    rw [beq_iff_eq.mp e'] at hy; exact hy
  · intro h
    exact ⟨n, h, show (n == n) = true from beq_self_eq_true n⟩
theorem mem_of_get {α : Type} {xs : List α} {i : Nat} {x : α} (h : xs[i]? = some x) : x ∈ xs := List.mem_of_getElem? h
theorem map_true {α : Type} {xs : List α} (f : α → Bool) (h : ∀ x ∈ xs, f x = true) : (xs.map f).all id = true := by
  rw [List.all_map]; exact List.all_eq_true.mpr h
end Lk
/-! Kd1 -/
namespace Lk
open PySem PySem.Spec PyProof.Rows L2

section
variable {P : Program} {w : World} {K : PySem.W.Frag} {mg : Str → Option Value} {base : Heap} {f : Addr}

def spIsNumber : Sp := fun vs H Q _ => ∃ v a b : Int, vs = [.int v, .int a, .int b] ∧ Q (.bl (decide (a ≤ v) && decide (v ≤ b))) H
theorem sc_isNumber : FnScope ["value", "smallest", "largest"] ["value", "smallest", "largest"] (defScope sIsNumber) := ⟨rfl, rfl, rfl, by decide +kernel, rfl, by decide +kernel, by decide +kernel⟩
theorem ok_isNumber (F : Df K "is_number" "is_number" sIsNumber f) (hm : mg "is_number" = some (.ref f)) (T : Txt K mg) : C8.Cal P w K mg base 1 "is_number" spIsNumber [] := by
  refine F.cal hm sc_isNumber (fun _ _ _ _ _ _ us hl => match us, hl with | [_, _, _], _ => rfl) (fun vs H Q E h => ?_) (fun cdv A outer s H vs Q E hr h => ?_)
  · obtain ⟨v, a, b, rfl, _⟩ := h; rfl
  · obtain ⟨v, a, b, rfl, q⟩ := h
    refine ⟨_, pss_one (ps_ret (pe_and (pe_callB call_isi (by rfl) T.isinstance boot_isinstance (pa_cons (pv 0) (pa_cons (pe_bltn (v := .ty "int") (by rfl) T.int boot_int rfl) pa_nil)))
      (pe_and (pe_not (pe_callB call_isi (by rfl) T.isinstance boot_isinstance (pa_cons (pv 0) (pa_cons (pe_bltn (v := .ty "bool") (by rfl) T.bool boot_bool rfl) pa_nil))))
      (pe_one (pe_chain op_le op_le (pv 1) (pv 0) (pv 2)))))), ?_⟩
    refine ⟨_, rfl, _, _, _, _, true, rfl, .ty _, .base (.int v), kit_ty (by decide +kernel), _, rfl, iteT ?_⟩
    refine ⟨_, rfl, _, _, _, _, false, rfl, .ty _, .base (.int v), kit_ty (by decide +kernel), _, rfl, _, rfl, iteT ?_⟩
    refine ⟨_, rfl, _, rfl, _, _, rfl, rfl, _, rfl, ?_⟩
    by_cases h1 : a ≤ v
    · rw [decide_eq_true h1] at q ⊢
      exact iteT ⟨_, rfl, _, _, rfl, rfl, q⟩
    · rw [decide_eq_false h1] at q ⊢
      exact iteF q

/-- a word -/
def wordOk (z : Str) : Prop := 1 ≤ z.length ∧ z.length ≤ 8 ∧ ∀ c ∈ z.cps.toList, c ∈ letters.cps.toList
def spIsWord : Sp := fun vs H Q _ => ∃ z : Str, vs = [.str z] ∧ wordOk z ∧ ∀ H', Same H H' → Q (.bl true) H'
theorem sc_isWord : FnScope ["text", "letter"] ["text"] (defScope sIsWord) := ⟨rfl, rfl, rfl, by decide +kernel, rfl, by decide +kernel, by decide +kernel⟩
theorem ok_isWord (F : Df K "is_word" "is_word" sIsWord f) (hm : mg "is_word" = some (.ref f)) (T : Txt K mg) : C8.Cal P w K mg base 1 "is_word" spIsWord [] := by
  refine F.cal hm sc_isWord (fun _ _ _ _ _ _ us hl => match us, hl with | [_], _ => rfl) (fun vs H Q E h => ?_) (fun cdv A outer s H vs Q E hr h => ?_)
  · obtain ⟨z, rfl, _⟩ := h; rfl
  · obtain ⟨z, rfl, ⟨h1, h2, h3⟩, q⟩ := h
    refine ⟨_, pss_one (ps_ret (pe_and (pe_chain op_le op_le pe_int (pe_callB call_len_str (by rfl) T.len boot_len (pa_cons (pv 0) pa_nil)) (C8.pe_gc (by rfl) T.gMaxLetters))
      (pe_one (pe_cmpR (op_eqD hr.units) (pe_lc (own := [("letter", 1)]) rfl sc_isWord.nd (pi_str (pv 0)) (blkOk_by (N := ["text", "letter"]) (sc := defScope sIsWord) (by decide +kernel))
        (fun _ _ _ _ _ => pg_name (i := 1) sc_isWord.nd rfl (Or.inl rfl)) (fun _ _ _ _ _ => pts_one (pt_cmpR op_notIn_sign (pv 1) (C8.pe_gc (by rfl) T.gLetters) rfl)) (fun _ _ _ _ _ => pv 1)) (pe_lst pa_nil) (nomark _))))), ?_⟩
    have hz : z.length ≤ sizeLine := Nat.le_trans h2 (by decide)
    refine ⟨_, rfl, z, rfl, hz, _, _, rfl, rfl, _, rfl, ?_⟩
    rw [decide_eq_true (show (1 : Int) ≤ (z.length : Int) by omega)]
    refine iteT ⟨_, _, rfl, rfl, _, rfl, ?_⟩
    rw [decide_eq_true (show (z.length : Int) ≤ 8 by omega)]
    refine iteT ?_
    refine ⟨_, rfl, z, rfl, fun D hD => lc_it walk_str (fun _ H' => Same H H' ∧ H' D = some (.lst [])) ⟨Same.upd hD, upd_same⟩ (fun _ _ _ _ => trivial) ?_ ?_⟩
    · rintro i x H1 H2 hi ⟨s1, d1⟩ ⟨rfl, c, hc, rfl⟩
      refine ⟨rfl, _, rfl, c, letters, rfl, rfl, _, rfl, ?_⟩
      have hin : c ∈ letters.cps.toList := h3 c (by rw [← Array.getElem?_toList] at hc; exact List.mem_of_getElem? hc)
      rw [decide_eq_true hin]
      exact iteF ⟨s1, d1⟩
    · rintro H1 ⟨s1, d1⟩
      refine ⟨by show 0 ≤ sizeLine; decide, fun p hp => ?_⟩
      have np : D ≠ p := ne_of_none d1 hp
      refine ⟨.list [], .list [], .lst (.inl (.inl (by rw [upd_ne np]; exact d1))) .nil, .lst (.inl (.inl upd_same)) .nil, rfl, rfl, ?_⟩
      exact q _ (Same.upd' s1 hp)

/-- texts ascend -/
def asc : List Str → Prop := List.Pairwise fun a b => a.cps.toList < b.cps.toList
def spIsRising : Sp := fun vs H Q _ => ∃ (a : Addr) (ws : List Str), vs = [.ref a] ∧ H a = some (.tup (ws.map V.str)) ∧ ws ≠ [] ∧ ws.length ≤ 1000 ∧ asc ws ∧ ∀ H', Same H H' → Q (.bl true) H'
theorem sc_isRising : FnScope ["words", "one", "other"] ["words"] (defScope sIsRising) := ⟨rfl, rfl, rfl, by decide +kernel, rfl, by decide +kernel, by decide +kernel⟩
theorem asc_next {ws : List Str} (h : asc ws) {i : Nat} {x y : Str} (hx : ws[i]? = some x) (hy : ws[i + 1]? = some y) : x.cps.toList < y.cps.toList := by
  obtain ⟨h1, e1⟩ := List.getElem?_eq_some_iff.mp hx
  obtain ⟨h2, e2⟩ := List.getElem?_eq_some_iff.mp hy
  have := List.pairwise_iff_getElem.mp h i (i + 1) h1 h2 (by omega)
  rw [e1, e2] at this
  exact this
theorem ok_isRising (F : Df K "is_rising" "is_rising" sIsRising f) (hm : mg "is_rising" = some (.ref f)) (T : Txt K mg) : C8.Cal P w K mg base 1 "is_rising" spIsRising [] := by
  refine F.cal hm sc_isRising (fun _ _ _ _ _ _ us hl => match us, hl with | [_], _ => rfl) (fun vs H Q E h => ?_) (fun cdv A outer s H vs Q E hr h => ?_)
  · obtain ⟨a, ws, rfl, _⟩ := h; rfl
  · obtain ⟨a, ws, rfl, ha, hne, hlen, hasc, q⟩ := h
    refine ⟨_, pss_one (ps_ret (pe_callB (cr_all rfl) (by rfl) T.all boot_all (pa_cons
      (pe_lc (own := [("one", 1), ("other", 2)]) rfl sc_isRising.nd (RZ.pi_zipA (by rfl) T.zip (pa_cons (pv 0) (pa_cons (pe_slice sl_tupA (pv 0) (po_some pe_int) po_none) pa_nil)))
        (blkOk_by (N := ["words", "one", "other"]) (sc := defScope sIsRising) (by decide +kernel))
        (fun _ _ _ _ _ => pg_n2 K (i := 1) (j := 2) rfl rfl sc_isRising.nd rfl rfl (Or.inl rfl) (Or.inl rfl) (Or.inr rfl) (Or.inr rfl))
        (fun _ _ _ _ _ => pts_nil) (fun _ _ _ _ _ => pe_cmpR op_lt_str (pv 1) (pv 2) (nomark _))) pa_nil))), ?_⟩
    refine ⟨_, rfl, _, rfl, _, rfl, a, ws.map V.str, rfl, SqT.of ha, fun hw => ?_, fun _ p hp => ?_⟩
    · exfalso
      obtain ⟨w1, w2⟩ := hw
      have h0 : 0 < ws.length := List.length_pos_iff.mpr hne
      rw [List.length_map] at w1
      have : HT.sIx ws.length 0 (some 1) = 1 := by unfold HT.sIx; simp; omega
      omega
    · have ecut : cutV (ws.map V.str) (some 1) none = (ws.drop 1).map V.str := by
        have h0 : 0 < ws.length := List.length_pos_iff.mpr hne
        have e1 : HT.sIx (ws.map V.str).length 0 (some 1) = 1 := by unfold HT.sIx; simp; omega
        have e2 : HT.sIx (ws.map V.str).length (ws.map V.str).length none = (ws.map V.str).length := rfl
        unfold cutV
        rw [e1, e2, List.map_drop, List.take_of_length_le (by simp)]
      rw [ecut]
      have nap : a ≠ p := ne_of_none ha hp
      have ha1 : ∀ H', Same (upd H p (.tup ((ws.drop 1).map V.str))) H' → H' a = some (.tup (ws.map V.str)) := fun H' s1 => s1 _ _ (by rw [upd_ne nap]; exact ha)
      have hp1 : ∀ H', Same (upd H p (.tup ((ws.drop 1).map V.str))) H' → H' p = some (.tup ((ws.drop 1).map V.str)) := fun H' s1 => s1 _ _ upd_same
      refine ⟨a, p, ws.map V.str, (ws.drop 1).map V.str, rfl, .inr ⟨SqT.of (by rw [upd_ne nap]; exact ha), SqT.of upd_same, fun D hD => ?_⟩⟩
      have hn : ws.length - 1 = min (ws.map V.str).length ((ws.drop 1).map V.str).length := by simp
      refine lc_it (walk_zipT (xs := ws.map V.str) (ys := (ws.drop 1).map V.str) hn) (PvS (upd H p (.tup ((ws.drop 1).map V.str))) D (fun i => (List.replicate i true).map V.bl)) (.zero hD rfl) (fun i H' _ s1 => ⟨SqT.of (ha1 H' s1.1), SqT.of (hp1 H' s1.1)⟩) ?_ ?_
      · rintro i v H1 H2 hi ⟨s1, d1⟩ ⟨T', x, y, rfl, hT', rfl, hx, hy⟩
        obtain ⟨x', ex, rfl⟩ := get_map hx
        obtain ⟨y', ey, rfl⟩ := get_map hy
        rw [List.getElem?_drop] at ey
        rw [Nat.add_comm] at ey
        refine ⟨T', _, rfl, SqT.of upd_same, rfl, _, _, rfl, _, _, rfl, ⟨rfl, rfl, ?_⟩⟩
        refine yes_ (iteT ?_)
        refine ⟨_, rfl, _, rfl, x', y', rfl, rfl, ?_⟩
        rw [decide_eq_true (asc_next hasc ex ey)]
        exact PvS.add hD (Same.upd' s1 hT') (by rw [upd_ne (ne_of_none d1 hT')]; exact d1) (by simp; omega) (by simp [List.replicate_succ'])
      · rintro H1 ⟨s1, d1⟩
        refine ⟨D, List.replicate (ws.length - 1) true, rfl, SqL.of d1, ?_⟩
        rw [show (List.replicate (ws.length - 1) true).all id = true by simp]
        exact q H1 ((Same.upd hp).trans s1)

/-- a feature: name, values -/
def spIsFeature : Sp := fun vs H Q _ => ∃ (a wa : Addr) (n : Str) (ws : List Str), vs = [.ref a] ∧ H a = some (.tup [.str n, .ref wa]) ∧ H wa = some (.tup (ws.map V.str)) ∧ wordOk n ∧ 2 ≤ ws.length ∧ ws.length ≤ 8 ∧ (∀ x ∈ ws, wordOk x) ∧ asc ws ∧
  ∀ H', Same H H' → Q (.bl true) H'
theorem sc_isFeature : FnScope ["feature", "name", "values", "word"] ["feature"] (defScope sIsFeature) := ⟨rfl, rfl, rfl, by decide +kernel, rfl, by decide +kernel, by decide +kernel⟩
theorem ok_isFeature (F : Df K "is_feature" "is_feature" sIsFeature f) (hm : mg "is_feature" = some (.ref f)) (T : Txt K mg) (cW : C8.Cal P w K mg base 1 "is_word" spIsWord []) (cR : C8.Cal P w K mg base 1 "is_rising" spIsRising []) :
    C8.Cal P w K mg base 2 "is_feature" spIsFeature [] := by
  refine F.cal hm sc_isFeature (fun _ _ _ _ _ _ us hl => match us, hl with | [_], _ => rfl) (fun vs H Q E h => ?_) (fun cdv A outer s H vs Q E hr h => ?_)
  · obtain ⟨a, wa, n, ws, rfl, _⟩ := h; rfl
  · obtain ⟨a, wa, n, ws, rfl, ha, hwa, hn, h2, h8, hws, hasc, q⟩ := h
    refine ⟨_, pss_cons (ps_asg (pv 0) (pg_tup rfl (pgs_cons (pg_name (i := 1) sc_isFeature.nd rfl (Or.inl rfl)) (pgs_cons (pg_name (i := 2) sc_isFeature.nd rfl (Or.inl rfl)) pgs_nil))))
      (pss_cons (ps_if (PW.pt (pw_or (pt_not (pt_val (C8.pe_c cW hr (by decide) (by rfl) (pa_cons (pv 1) pa_nil)))) (pw_or1 (pt_not (pt_chain op_le op_le pe_int (pe_callB call_len (by rfl) T.len boot_len (pa_cons (pv 2) pa_nil)) (C8.pe_gc (by rfl) T.gMaxValues))))))
        (pss_one (ps_ret pe_bl)) pss_nil)
      (pss_one (ps_ret (pe_and (pe_callB (cr_all rfl) (by rfl) T.all boot_all (pa_cons
        (pe_lc (own := [("word", 3)]) rfl sc_isFeature.nd (pi_tup (pv 2)) (blkOk_by (N := ["feature", "name", "values", "word"]) (sc := defScope sIsFeature) (by decide +kernel))
          (fun _ _ _ _ _ => pg_name (i := 3) sc_isFeature.nd rfl (Or.inl rfl)) (fun _ _ _ _ _ => pts_nil) (fun _ _ _ _ _ => C8.pe_c cW hr (by decide) (by rfl) (pa_cons (pv 3) pa_nil))) pa_nil))
        (pe_one (C8.pe_c cR hr (by decide) (by rfl) (pa_cons (pv 2) pa_nil))))))), ?_⟩
    refine ⟨_, rfl, a, _, rfl, SqT.of ha, rfl, _, _, rfl, _, _, rfl, rfl, ?_⟩
    refine ⟨_, rfl, n, rfl, hn, fun H1 s1 => ⟨_, rfl, iteF ?_⟩⟩
    refine ⟨_, rfl, _, ws.length, rfl, (.inr ⟨_, SqT.of (s1 _ _ hwa), by simp⟩), _, _, rfl, rfl, _, rfl, ?_⟩
    rw [decide_eq_true (show (2 : Int) ≤ (ws.length : Int) by omega)]
    refine iteT ⟨_, _, rfl, rfl, _, rfl, ?_⟩
    rw [decide_eq_true (show (ws.length : Int) ≤ 8 by omega)]
    refine iteF ?_
    refine ⟨_, rfl, wa, rfl, ⟨_, SqT.of (s1 _ _ hwa)⟩, fun D hD => ?_⟩
    refine lc_it walk_tup (PvS H1 D (outM (ws.map fun _ => true) V.bl)) (.zero hD outM_zero) (fun i H2 _ z => SqT.of (z.1 _ _ (s1 _ _ hwa))) ?_ ?_
    · rintro i x H2 H3 hi ⟨z1, z2⟩ ⟨rfl, hx⟩
      obtain ⟨y, hy, rfl⟩ := get_map hx
      refine ⟨rfl, tyes ⟨_, rfl, y, rfl, hws _ (mem_of_get hy), fun H4 s4 => ?_⟩⟩
      exact PvS.add hD (z1.trans s4) (s4 _ _ z2) (outM_len (by simp; omega)) (outM_step (x := true) (by simp [hy]))
    · rintro H2 ⟨z1, z2⟩
      rw [outM_all _ (by simp)] at z2
      refine ⟨D, ws.map fun _ => true, rfl, SqL.of z2, ?_⟩
      rw [map_true _ fun _ _ => rfl]
      refine ⟨_, rfl, iteT ⟨_, rfl, wa, ws, rfl, z1 _ _ (s1 _ _ hwa), ?_, ?_, hasc, fun H4 s4 => q _ ((s1.trans z1).trans s4)⟩⟩
      · intro e; rw [e] at h2; simp at h2
      · omega
end
end Lk
/-! Kp -/
namespace Lk
open PySem PySem.Spec PyProof.Rows L2
abbrev Fe := Str × List Str
def feOk (f : Fe) : Prop := wordOk f.1 ∧ 2 ≤ f.2.length ∧ f.2.length ≤ 8 ∧ (∀ x ∈ f.2, wordOk x) ∧ asc f.2
def fsOk (fs : List Fe) : Prop := fs ≠ [] ∧ fs.length ≤ 6 ∧ (∀ f ∈ fs, feOk f) ∧ (fs.map (·.1)).Nodup
structure FeAt (H : Hp) (a : Addr) (f : Fe) : Prop where
  ex : ∃ wa, H a = some (.tup [.str f.1, .ref wa]) ∧ H wa = some (.tup (f.2.map V.str))
structure FsAt (H : Hp) (a : Addr) (fs : List Fe) : Prop where
  ex : ∃ L : List (Addr × Fe), H a = some (.tup (L.map fun p => V.ref p.1)) ∧ L.map (·.2) = fs ∧ ∀ p ∈ L, FeAt H p.1 p.2
structure CatAt (K : PySem.W.Frag) (H : Hp) (c : Addr) (fs : List Fe) : Prop where
  ex : ∃ dx a, H c = some (.ins (cCat K) dx [("parts", .ref a)]) ∧ FsAt H a fs
structure NoteAt (K : PySem.W.Frag) (H : Hp) (n c : Addr) (fs : List Fe) (S : Str → List Str) : Prop where
  ex : ∃ dx d kvs, H n = some (.ins (cNote K) dx [("own_catalog", .ref c), ("sets", .ref d)]) ∧ H d = some (.dK kvs) ∧
    ∀ f ∈ fs, ((S f.1).length ≤ 8 ∧ ∀ x ∈ S f.1, wordOk x) ∧ ∃ wa, valV kvs (.inr f.1) = some (.ref wa) ∧ H wa = some (.tup ((S f.1).map V.str))
/-- what one round has -/
structure Rnd where
  c : Addr
  fs : List Fe
  ta : Str → Addr
  tn : Str → Addr
  tS : Str → Str → List Str
  td : Str → Int
  ca : Str → Addr
  cn : Str → Addr
  cS : Str → Str → List Str
  cd : Str → Int
  sl : Str → Int
structure ThingAt (K : PySem.W.Frag) (H : Hp) (R : Rnd) (l : Str) : Prop where
  ex : ∃ dx, H (R.ta l) = some (.ins (cThing K) dx [("own_note", .ref (R.tn l)), ("own_day", .int (R.td l))])
  note : NoteAt K H (R.tn l) R.c R.fs (R.tS l)
structure ClaimAt (K : PySem.W.Frag) (H : Hp) (R : Rnd) (l : Str) : Prop where
  ex : ∃ dx wo, H (R.ca l) = some (.ins (cClaim K) dx [("own_note", .ref (R.cn l)), ("own_day", .int (R.cd l)), ("own_slips", .int (R.sl l)), ("own_worth", wo)])
  note : NoteAt K H (R.cn l) R.c R.fs (R.cS l)
abbrev tL : List Str := ["bag", "cap", "key", "mug", "pen", "urn"]
abbrev cL : List Str := ["ann", "bob", "cy", "dot", "eve", "fay"]
structure LabOk (T C : List Str) : Prop where
  t : T.Sublist tL
  c : C.Sublist cL
  tlen : T.length ≤ 5
  clen : C.length ≤ 5
def tKvs (R : Rnd) (T : List Str) : List (Key × V) := T.map fun l => (.inr l, .ref (R.ta l))
def cKvs (R : Rnd) (C : List Str) : List (Key × V) := C.map fun l => (.inr l, .ref (R.ca l))
structure OffAt (K : PySem.W.Frag) (H : Hp) (R : Rnd) (o : Addr) (T C : List Str) : Prop where
  ex : ∃ dx f l, H o = some (.ins (cOff K) dx [("own_catalog", .ref R.c), ("found", .ref f), ("lost", .ref l)]) ∧ H f = some (.dK (tKvs R T)) ∧ H l = some (.dK (cKvs R C))
  cat : CatAt K H R.c R.fs
  fs : fsOk R.fs
  th : ∀ l ∈ T, ThingAt K H R l
  cl : ∀ l ∈ C, ClaimAt K H R l
  lab : LabOk T C

section
variable {K : PySem.W.Frag} {H H' : Hp}
theorem FeAt.same {a : Addr} {f : Fe} (h : FeAt H a f) (s : Same H H') : FeAt H' a f := by
  obtain ⟨wa, h1, h2⟩ := h.ex
  exact ⟨wa, s _ _ h1, s _ _ h2⟩
theorem FsAt.same {a : Addr} {fs : List Fe} (h : FsAt H a fs) (s : Same H H') : FsAt H' a fs := by
  obtain ⟨L, h1, h2, h3⟩ := h.ex
  exact ⟨L, s _ _ h1, h2, fun p hp => (h3 p hp).same s⟩
theorem CatAt.same {c : Addr} {fs : List Fe} (h : CatAt K H c fs) (s : Same H H') : CatAt K H' c fs := by
  obtain ⟨dx, a, h1, h2⟩ := h.ex
  exact ⟨dx, a, s _ _ h1, h2.same s⟩
theorem NoteAt.same {n c : Addr} {fs : List Fe} {S : Str → List Str} (h : NoteAt K H n c fs S) (s : Same H H') : NoteAt K H' n c fs S := by
  obtain ⟨dx, d, kvs, h1, h2, h3⟩ := h.ex
  refine ⟨dx, d, kvs, s _ _ h1, s _ _ h2, fun f hf => ?_⟩
  obtain ⟨hl, wa, h4, h5⟩ := h3 f hf
  exact ⟨hl, wa, h4, s _ _ h5⟩
theorem ThingAt.same {R : Rnd} {l : Str} (h : ThingAt K H R l) (s : Same H H') : ThingAt K H' R l := by
  obtain ⟨dx, h1⟩ := h.ex
  exact ⟨⟨dx, s _ _ h1⟩, h.note.same s⟩
theorem ClaimAt.same {R : Rnd} {l : Str} (h : ClaimAt K H R l) (s : Same H H') : ClaimAt K H' R l := by
  obtain ⟨dx, wo, h1⟩ := h.ex
  exact ⟨⟨dx, wo, s _ _ h1⟩, h.note.same s⟩
theorem OffAt.same {R : Rnd} {o : Addr} {T C : List Str} (h : OffAt K H R o T C) (s : Same H H') : OffAt K H' R o T C := by
  obtain ⟨dx, f, l, h1, h2, h3⟩ := h.ex
  exact ⟨⟨dx, f, l, s _ _ h1, s _ _ h2, s _ _ h3⟩, h.cat.same s, h.fs, fun l hl => (h.th l hl).same s, fun l hl => (h.cl l hl).same s, h.lab⟩

theorem asc_tL : asc tL := by unfold asc tL; simp only [List.pairwise_cons]; decide
theorem asc_cL : asc cL := by unfold asc cL; simp only [List.pairwise_cons]; decide
theorem words_tL : ∀ x ∈ tL, wordOk x := by unfold wordOk; decide +kernel
theorem words_cL : ∀ x ∈ cL, wordOk x := by unfold wordOk; decide +kernel
theorem nodup_tL : tL.Nodup := by decide +kernel
theorem nodup_cL : cL.Nodup := by decide +kernel
theorem apart : ∀ x ∈ tL, x ∉ cL := by decide +kernel
end
end Lk
/-! Kd2 -/
namespace Lk
open PySem PySem.Spec PyProof.Rows L2
/-- all but the thing at n stand -/
def SameX (n : Addr) (H H' : Hp) : Prop := ∀ b o, b ≠ n → H b = some o → H' b = some o
section
variable {P : Program} {w : World} {K : PySem.W.Frag} {mg : Str → Option Value} {base : Heap} {f : Addr}
theorem sc_catInit : FnScope ["self", "features", "index", "feature", "is_known", "earlier"] ["self", "features"] (defScope sCatInit) := ⟨rfl, rfl, rfl, by decide +kernel, rfl, by decide +kernel, by decide +kernel⟩
abbrev nm_catInit : List Str := ["self", "features", "index", "feature", "is_known", "earlier"]
theorem sc_catFeatures : FnScope ["self"] ["self"] (defScope sCatFeatures) := ⟨rfl, rfl, rfl, by decide +kernel, rfl, by decide +kernel, by decide +kernel⟩
abbrev nm_catFeatures : List Str := ["self"]
theorem sc_catNames : FnScope ["self", "name", "words"] ["self"] (defScope sCatNames) := ⟨rfl, rfl, rfl, by decide +kernel, rfl, by decide +kernel, by decide +kernel⟩
abbrev nm_catNames : List Str := ["self", "name", "words"]
theorem sc_catContains : FnScope ["self", "name"] ["self", "name"] (defScope sCatContains) := ⟨rfl, rfl, rfl, by decide +kernel, rfl, by decide +kernel, by decide +kernel⟩
abbrev nm_catContains : List Str := ["self", "name"]
theorem sc_catEq : FnScope ["self", "other"] ["self", "other"] (defScope sCatEq) := ⟨rfl, rfl, rfl, by decide +kernel, rfl, by decide +kernel, by decide +kernel⟩
abbrev nm_catEq : List Str := ["self", "other"]
/-- a property that gives an attribute -/
def spAttr (C : Addr) (x : Str) : Sp := fun vs H Q _ => ∃ a dx fs v, vs = [.ref a] ∧ H a = some (.ins C dx fs) ∧ fs.lookup x = some v ∧ Q v H
theorem ok_catFeatures {p : Addr} (F : Df K "features" "Catalog.features" sCatFeatures f) (c : Cls K (cCat K)) (pr : PropOf K (cCat K) "features" p f) (T : Txt K mg) : Pro P w K mg base 1 (cCat K) "features" (spAttr (cCat K) "parts") := by
  refine F.pro c pr sc_catFeatures (fun _ _ _ _ _ _ us hl => match us, hl with | [_], _ => rfl) (fun vs H Q E h => ?_) (fun cdv A outer s H vs Q E hr h => ?_)
  · obtain ⟨a, dx, fs, v, rfl, _⟩ := h; rfl
  · obtain ⟨a, dx, fs, v, rfl, ha, hl, q⟩ := h
    exact ⟨_, pss_one (ps_ret (pe_fld (pv 0) rfl)), _, rfl, a, _, dx, fs, v, rfl, ha, c, T.naParts, hl, q⟩

/-- the names -/
def spCatNames (K : PySem.W.Frag) : Sp := fun vs H Q _ => ∃ c fs, vs = [.ref c] ∧ CatAt K H c fs ∧ fs.length ≤ 6 ∧ ∀ p H', Same H H' → H' p = some (.tup (fs.map fun f => V.str f.1)) → Q (.ref p) H'
theorem ok_catNames {p : Addr} (F : Df K "names" "Catalog.names" sCatNames f) (c : Cls K (cCat K)) (pr : PropOf K (cCat K) "names" p f) (T : Txt K mg) : Pro P w K mg base 1 (cCat K) "names" (spCatNames K) := by
  refine F.pro c pr sc_catNames (fun _ _ _ _ _ _ us hl => match us, hl with | [_], _ => rfl) (fun vs H Q E h => ?_) (fun cdv A outer s H vs Q E hr h => ?_)
  · obtain ⟨a, fs, rfl, _⟩ := h; rfl
  · obtain ⟨a, fs, rfl, hc, h6, q⟩ := h
    refine ⟨_, pss_one (ps_ret (pe_callTy call_tuple_of (by rfl) T.tuple boot_tuple (pa_cons
      (pe_lc (own := [("name", 1), ("words", 2)]) rfl sc_catNames.nd (pi_tup (pe_fld (pv 0) rfl)) (blkOk_by (N := nm_catNames) (sc := defScope sCatNames) (by decide +kernel))
        (fun _ _ _ _ _ => pg_n2 K (i := 1) (j := 2) rfl rfl sc_catNames.nd rfl rfl (Or.inl rfl) (Or.inl rfl) (Or.inr rfl) (Or.inr rfl)) (fun _ _ _ _ _ => pts_nil) (fun _ _ _ _ _ => pv 1)) pa_nil))), ?_⟩
    obtain ⟨dx, pa, h1, L, h2, rfl, h3⟩ := hc.ex
    refine ⟨_, rfl, a, _, dx, _, _, rfl, h1, c, T.naParts, rfl, pa, rfl, ⟨_, SqT.of h2⟩, fun D hD => ?_⟩
    refine lc_it walk_tup (PvS H D (outM (L.map (·.2)) fun f => .str f.1)) (.zero hD outM_zero) (fun i H2 _ z => SqT.of (z.1 _ _ h2)) ?_ ?_
    · rintro i x H2 H3 hi ⟨z1, z2⟩ ⟨rfl, hx⟩
      obtain ⟨y, hy, rfl⟩ := get_map hx
      obtain ⟨wa, h4, h5⟩ := (h3 y (mem_of_get hy)).ex
      refine ⟨y.1, _, rfl, SqT.of (z1 _ _ h4), rfl, _, _, rfl, _, _, rfl, ⟨rfl, rfl, ?_⟩⟩
      refine tyes ⟨_, rfl, ?_⟩
      refine PvS.add hD z1 z2 (outM_len (by simpa using Nat.le_trans h6 (by decide))) (outM_step (x := y.2) (by simp [hy]))
    · rintro H2 ⟨z1, z2⟩
      rw [outM_all _ (by simp)] at z2
      refine ⟨D, _, rfl, .inl ⟨SqL.of z2, fun p hp => ?_⟩⟩
      exact q p _ (Same.upd' z1 hp) upd_same

def spCatContains (K : PySem.W.Frag) : Sp := fun vs H Q _ => ∃ c fs n, vs = [.ref c, .str n] ∧ CatAt K H c fs ∧ fs.length ≤ 6 ∧ ∀ H', Same H H' → Q (.bl (decide (n ∈ fs.map (·.1)))) H'
theorem ok_catContains (F : Df K "__contains__" "Catalog.__contains__" sCatContains f) (sc : Spc K (cCat K) "__contains__" f) (T : Txt K mg) (cN : Pro P w K mg base 1 (cCat K) "names" (spCatNames K)) : SpM P w K mg base 3 (cCat K) "__contains__" (spCatContains K) := by
  refine F.spm sc sc_catContains (fun _ _ _ _ _ _ us hl => match us, hl with | [_, _], _ => rfl) (fun vs H Q E h => ?_) (fun cdv A outer s H vs Q E hr h => ?_)
  · obtain ⟨a, fs, n, rfl, _⟩ := h; rfl
  · obtain ⟨a, fs, n, rfl, hc, h6, q⟩ := h
    refine ⟨_, pss_one (ps_ret (pe_cmpR op_in_seq (pv 1) (pe_pr cN hr (by decide) (pv 0)) rfl)), ?_⟩
    obtain ⟨dx, pa, h1, _⟩ := hc.ex
    refine ⟨_, rfl, _, rfl, a, dx, _, rfl, h1, a, fs, rfl, hc, h6, fun p H' s' hp => ?_⟩
    rw [show fs.map (fun f => V.str f.1) = (fs.map (·.1)).map V.str by simp] at hp
    refine ⟨p, _, rfl, .inr (SqT.of hp), rfl, flat_strs _, ?_⟩
    show Q (.bl (inV (.str n) _)) H'
    rw [inV_strs]
    exact q H' s'

/-- ==, of one and the same -/
def spCatEq (K : PySem.W.Frag) : Sp := fun vs H Q _ => ∃ c fs, vs = [.ref c, .ref c] ∧ CatAt K H c fs ∧ fsOk fs ∧ Q (.bl true) H
theorem dp_strs {H : Hp} : ∀ ws : List Str, DpAll K H (ws.map V.str) (ws.map PyData.str)
  | [] => .nil
  | w :: ws => .cons (.str w) (dp_strs ws)
def feD (f : Fe) : PyData := .tuple [.str f.1, .tuple (f.2.map PyData.str)]
theorem dp_fe {H : Hp} {a : Addr} {f : Fe} (h : FeAt H a f) : Dp K H (.ref a) (feD f) := by
  obtain ⟨wa, h1, h2⟩ := h.ex
  exact .tup (SqT.of h1) (.cons (.str _) (.cons (.tup (SqT.of h2) (dp_strs _)) .nil))
theorem dp_fes {H : Hp} : ∀ L : List (Addr × Fe), (∀ p ∈ L, FeAt H p.1 p.2) → DpAll K H (L.map fun p => V.ref p.1) (L.map fun p => feD p.2)
  | [], _ => .nil
  | p :: L, h => .cons (dp_fe (h p List.mem_cons_self)) (dp_fes L fun q hq => h q (List.mem_cons_of_mem _ hq))
theorem dp_fs {H : Hp} {a : Addr} {fs : List Fe} (h : FsAt H a fs) : Dp K H (.ref a) (.tuple (fs.map feD)) := by
  obtain ⟨L, h1, rfl, h3⟩ := h.ex
  rw [List.map_map]
  exact .tup (SqT.of h1) (dp_fes L h3)
theorem strOk_word {z : Str} (h : wordOk z) : PyData.strOk z = true := by
  have h0 : ∀ c ∈ letters.cps.toList, c < 1114112 := by decide +kernel
  show z.cps.all (fun x => decide (x < 1114112)) = true
  rw [← Array.all_toList, List.all_eq_true]
  intro c hc
  exact decide_eq_true (h0 c (h.2.2 c hc))
theorem can_strs : ∀ ws : List Str, (∀ x ∈ ws, wordOk x) → PyData.canLayAll0 (ws.map PyData.str) = true
  | [], _ => by simp [PyData.canLayAll0]
  | w :: ws, h => by simp [PyData.canLayAll0, PyData.canLay0, strOk_word (h w List.mem_cons_self), can_strs ws fun x hx => h x (List.mem_cons_of_mem _ hx)]
theorem dep_strs : ∀ ws : List Str, PyData.depthAll (ws.map PyData.str) ≤ 1
  | [] => by simp [PyData.depthAll]
  | w :: ws => by
    have := dep_strs ws
    simp only [List.map_cons, PyData.depthAll, PyData.depth]; omega
theorem can_fes : ∀ fs : List Fe, (∀ f ∈ fs, feOk f) → PyData.canLayAll0 (fs.map feD) = true
  | [], _ => by simp [PyData.canLayAll0]
  | f :: fs, h => by
    have hf := h f List.mem_cons_self
    simp [PyData.canLayAll0, PyData.canLay0, feD, strOk_word hf.1, can_strs f.2 hf.2.2.2.1, can_fes fs fun x hx => h x (List.mem_cons_of_mem _ hx)]
theorem dep_fes : ∀ fs : List Fe, PyData.depthAll (fs.map feD) ≤ 3
  | [] => by simp [PyData.depthAll]
  | f :: fs => by
    have h1 := dep_fes fs
    have h2 := dep_strs f.2
    simp only [List.map_cons, PyData.depthAll, PyData.depth, feD]; omega
theorem shaped_fs {fs : List Fe} (h : fsOk fs) : SeqAt.shaped (.tuple (fs.map feD)) = true := by
  unfold SeqAt.shaped
  rw [Bool.and_eq_true]
  have h1 := dep_fes fs
  refine ⟨by simp only [PyData.canLay0]; exact can_fes fs h.2.2.1, decide_eq_true (by simp only [PyData.depth]; omega)⟩
theorem ok_catEq (F : Df K "__eq__" "Catalog.__eq__" sCatEq f) (nc : NeC K (cCat K) f) (T : Txt K mg) (cF : Pro P w K mg base 1 (cCat K) "features" (spAttr (cCat K) "parts")) : NeM P w K mg base 3 (cCat K) (spCatEq K) := by
  refine F.nem nc sc_catEq (fun _ _ _ _ _ _ us hl => match us, hl with | [_, _], _ => rfl) (fun vs H Q E h => ?_) (fun cdv A outer s H vs Q E hr h => ?_)
  · obtain ⟨c, fs, rfl, _⟩ := h; rfl
  · obtain ⟨c, fs, rfl, hc, hf, q⟩ := h
    refine ⟨_, pss_one (ps_ret (pe_and (pe_callB (C8.call_isC T.isCat) (by rfl) T.isinstance boot_isinstance (pa_cons (pv 1) (pa_cons (pe_glob (v := .ref (cCat K)) (by rfl) T.mCat rfl) pa_nil)))
      (pe_one (pe_cmpR (op_eqD hr.units) (pe_fld (pv 0) rfl) (pe_pr cF hr (by decide) (pv 1)) (nomark _))))), ?_⟩
    obtain ⟨dx, pa, h1, h2⟩ := hc.ex
    refine ⟨_, rfl, c, dx, _, rfl, h1, true, rfl, iteT ?_⟩
    refine ⟨_, rfl, c, _, dx, _, _, rfl, h1, T.isCat.cl, T.naParts, rfl, ?_⟩
    refine ⟨_, rfl, c, dx, _, rfl, h1, c, dx, _, _, rfl, h1, rfl, ?_⟩
    refine ⟨_, _, dp_fs h2, dp_fs h2, shaped_fs hf, shaped_fs hf, ?_⟩
    rw [SeqAt.eqv_refl _ (SeqAt.canLay_of_shaped (shaped_fs hf))]
    exact q
end
end Lk
/-! Kd3 -/
namespace Lk
open PySem PySem.Spec PyProof.Rows L2
theorem SameX.trans {n : Addr} {H H1 H2 : Hp} (a : SameX n H H1) (b : SameX n H1 H2) : SameX n H H2 := fun x o h e => b x o h (a x o h e)
theorem Same.x {n : Addr} {H H' : Hp} (s : Same H H') : SameX n H H' := fun b o _ e => s b o e
theorem SameX.upd {n : Addr} {H H' : Hp} {u : HO} (s : SameX n H H') : SameX n H (L2.upd H' n u) := fun b o h e => by rw [upd_ne h]; exact s b o h e
theorem cut_take {xs : List V} {i : Nat} (hi : i ≤ xs.length) : cutV xs none (some (i : Int)) = xs.take i := by
  have e1 : HT.sIx xs.length 0 none = 0 := rfl
  have e2 : HT.sIx xs.length xs.length (some (i : Int)) = i := by unfold HT.sIx; simp; rw [if_neg (by omega)]; omega
  unfold cutV
  rw [e1, e2]; simp
theorem cut_not_whole {n i : Nat} (hi : i < n) : ¬ (HT.sIx n 0 none = 0 ∧ HT.sIx n n (some (i : Int)) = n) := by
  rintro ⟨_, h⟩
  have e2 : HT.sIx n n (some (i : Int)) = i := by unfold HT.sIx; simp; rw [if_neg (by omega)]; omega
  omega
section
variable {P : Program} {w : World} {K : PySem.W.Frag} {mg : Str → Option Value} {base : Heap} {f : Addr}
def spCatInit (K : PySem.W.Frag) : Sp := fun vs H Q _ => ∃ c a dx fs, vs = [.ref c, .ref a] ∧ H c = some (.ins (cCat K) dx []) ∧ FsAt H a fs ∧ fsOk fs ∧
  ∀ H', SameX c H H' → H' c = some (.ins (cCat K) dx [("parts", .ref a)]) → Q .non H'
theorem ok_catInit (F : Df K "__init__" "Catalog.__init__" sCatInit f) (M : Mk K (cCat K) f) (T : Txt K mg) (cF : C8.Cal P w K mg base 2 "is_feature" spIsFeature []) : C8.Mak P w K mg base 3 "Catalog" (cCat K) (spCatInit K) [] := by
  refine F.mak M T.mCat sc_catInit (fun _ _ _ _ _ _ us hl => match us, hl with | [_, _], _ => rfl) (fun vs H Q E h => ?_) (fun cdv A outer s H vs Q E hr h => ?_)
  · obtain ⟨c, a, dx, fs, rfl, _⟩ := h; rfl
  · obtain ⟨c, a, dx, fs, rfl, hc, hfs, hok, q⟩ := h
    obtain ⟨hne, h6, hfe, hnd⟩ := hok
    refine ⟨_, pss_cons (ps_for PassesOwn.never rfl (pi_enumT (by rfl) T.enumerate (pa_cons (pv 1) pa_nil)) (pg_n2 K (i := 2) (j := 3) rfl rfl sc_catInit.nd rfl rfl (by first | exact Or.inl rfl | exact Or.inr rfl) (by first | exact Or.inl rfl | exact Or.inr rfl) (by first | exact Or.inr rfl | exact Or.inl rfl) (by first | exact Or.inr rfl | exact Or.inl rfl))
      (pss_cons (ps_set sc_catInit.nd (i := 4) rfl (Or.inl rfl) (pe_cmpR op_in_seq (pe_ix ix_tup (pv 3) pe_int (fun _ _ => rfl))
          (pe_lc (own := [("earlier", 5)]) rfl sc_catInit.nd (pi_tup (pe_slice sl_tupA (pv 1) po_none (po_some (pv 2)))) (blkOk_by (N := nm_catInit) (sc := defScope sCatInit) (by decide +kernel)) (fun _ _ _ _ _ => pg_name (i := 5) sc_catInit.nd rfl (Or.inl rfl)) (fun _ _ _ _ _ => pts_nil) (fun _ _ _ _ _ => pe_ix (ix_tupK K rfl) (pv 5) pe_int (fun _ _ => rfl))) rfl))
        (pss_one (ps_if (PW.pt (pw_or (pt_cmpR op_eq (pv 2) (C8.pe_gc (by rfl) T.gMaxFeatures) (nomark _)) (pw_or (pt_val (pv 4)) (pw_or1 (pt_not (pt_val (C8.pe_c cF hr (by decide) (by rfl) (pa_cons (pv 3) pa_nil))))))))
          pss_never pss_nil))))
      (pss_cons (ps_if (pt_cmpR op_eq (pe_callB call_len (by rfl) T.len boot_len (pa_cons (pv 1) pa_nil)) pe_int (nomark _)) pss_never pss_nil)
      (pss_one (ps_fld (pv 0) (pv 1) rfl))), ?_⟩
    obtain ⟨L, hL, rfl, hp⟩ := hfs.ex
    refine ⟨_, rfl, a, _, rfl, SqT.of hL, ?_⟩
    refine for_it walk_enumT (fun i σ H' => Same H H' ∧ ∃ x y z, σ = [some (.ref c), some (.ref a), x, y, z, none]) ⟨Same.refl _, _, _, _, rfl⟩ (fun i σ H' _ z => SqT.of (z.1 _ _ hL)) ?_ ?_
    · rintro i x σ H1 H2 hi ⟨s1, x2, x3, x4, rfl⟩ ⟨T', u, v, rfl, hT, rfl, hu, hv⟩
      cases hu
      obtain ⟨y, hy, rfl⟩ := get_map hv
      have s2 : Same H (upd H1 T' (.tup [.int (i : Nat), .ref y.1])) := Same.upd' s1 hT
      obtain ⟨wa, h4, h5⟩ := (hp y (mem_of_get hy)).ex
      refine ⟨T', _, rfl, SqT.of upd_same, rfl, _, _, rfl, _, _, rfl, rfl, ?_⟩
      refine ⟨_, rfl, y.1, _, _, _, rfl, rfl, SqT.of (s2 _ _ h4), rfl, ?_⟩
      refine ⟨_, rfl, _, rfl, _, rfl, a, _, rfl, SqT.of (s2 _ _ hL), fun hw => absurd hw (cut_not_whole hi), fun _ p hp2 => ?_⟩
      rw [cut_take (Nat.le_of_lt hi)]
      have s3 : Same H (upd (upd H1 T' (.tup [.int (i : Nat), .ref y.1])) p (.tup ((L.map fun p => V.ref p.1).take i))) := Same.upd' s2 hp2
      refine ⟨p, rfl, ⟨_, SqT.of upd_same⟩, fun D hD => ?_⟩
      refine lc_it walk_tup (PvS _ D (outM (((L.map (·.2)).take i).map (·.1)) V.str)) (.zero hD outM_zero) (fun j H3 _ z => SqT.of (z.1 _ _ upd_same)) ?_ ?_
      · rintro j v H3 H4 hj ⟨z1, z2⟩ ⟨rfl, hv⟩
        rw [← List.map_take] at hv
        obtain ⟨e, he, rfl⟩ := get_map hv
        have heL : e ∈ L := List.mem_of_mem_take (mem_of_get he)
        obtain ⟨wb, h6', h7⟩ := (hp e heL).ex
        refine ⟨rfl, tyes ⟨_, rfl, e.1, _, _, _, rfl, rfl, SqT.of (z1 _ _ (s3 _ _ h6')), rfl, ?_⟩⟩
        exact PvS.add hD z1 z2 (outM_len (by have h6 : L.length ≤ 6 := by simpa using h6
                                             simp; omega)) (outM_step (x := e.2.1) (by rw [← List.map_take, List.getElem?_map, List.getElem?_map, he]; rfl))
      · rintro H3 ⟨z1, z2⟩
        rw [outM_all _ (by simp)] at z2
        refine ⟨D, _, rfl, .inl (SqL.of z2), rfl, flat_strs _, ?_⟩
        have fresh : y.2.1 ∉ ((L.map (·.2)).take i).map (·.1) := by
          intro hm
          have hget : (((L.map (·.2)).map (·.1)))[i]? = some y.2.1 := by simp [hy]
          rw [List.map_take] at hm
          obtain ⟨j, hj, hj2⟩ := List.mem_take_iff_getElem.mp hm
          obtain ⟨hlt, hj3⟩ := List.getElem?_eq_some_iff.mp hget
          exact List.pairwise_iff_getElem.mp hnd j i _ hlt (by omega) (hj2.trans hj3.symm)
        have e0 : inV (.str y.2.1) ((((L.map (·.2)).take i).map (·.1)).map V.str) = false := by rw [inV_strs, decide_eq_false fresh]
        refine ⟨_, rfl, rfl, _, rfl, ?_⟩
        have h6 : L.length ≤ 6 := by simpa using h6
        have hi' : i < L.length := by simpa using hi
        rw [decide_eq_false (fun e => by injection e with e; omega)]
        refine iteF ⟨_, rfl, false, congrArg V.bl e0, iteF ?_⟩
        obtain ⟨f1, f2, f3, f4, f5⟩ := hfe y.2 (List.mem_map_of_mem (mem_of_get hy))
        have s4 := s3.trans z1
        exact ⟨_, rfl, y.1, wa, _, _, rfl, s4 _ _ h4, s4 _ _ h5, f1, f2, f3, f4, f5, fun H5 s5 => ⟨true, rfl, iteF ⟨s4.trans s5, _, _, _, rfl⟩⟩⟩
    · rintro σ H1 ⟨s1, x2, x3, x4, rfl⟩
      refine ⟨_, rfl, .ref a, L.length, rfl, .inr ⟨_, SqT.of (s1 _ _ hL), by simp⟩, rfl, _, rfl, ?_⟩
      have : L.length ≠ 0 := fun e => hne (by rw [List.length_eq_zero_iff.mp e]; rfl)
      rw [decide_eq_false (fun e => by injection e with e; omega)]
      refine iteF ?_
      refine ⟨_, rfl, _, rfl, c, _, dx, [], rfl, s1 _ _ hc, T.clCat, T.naParts, by decide, ?_⟩
      exact q _ (SameX.upd (Same.x s1)) upd_same
end
end Lk
/-! Kd4 -/
namespace Lk
open PySem PySem.Spec PyProof.Rows L2
theorem FsAt.sameD {H H' : Hp} {t a : Addr} {kvs : List (Key × V)} {fs : List Fe} (h : FsAt H a fs) (ht : H t = some (.dK kvs)) (s : SameX t H H') : FsAt H' a fs := by
  have ne : ∀ {b xs}, H b = some (.tup xs) → b ≠ t := fun e => ne_of e ht (by intro z; cases z)
  obtain ⟨L, h1, h2, h3⟩ := h.ex
  refine ⟨L, s _ _ (ne h1) h1, h2, fun p hp => ?_⟩
  obtain ⟨wa, h4, h5⟩ := (h3 p hp).ex
  exact ⟨wa, s _ _ (ne h4) h4, s _ _ (ne h5) h5⟩
theorem CatAt.sameD {K : PySem.W.Frag} {H H' : Hp} {t c : Addr} {kvs : List (Key × V)} {fs : List Fe} (h : CatAt K H c fs) (ht : H t = some (.dK kvs)) (s : SameX t H H') : CatAt K H' c fs := by
  obtain ⟨dx, a, h1, h2⟩ := h.ex
  exact ⟨dx, a, s _ _ (ne_of h1 ht (by intro z; cases z)) h1, h2.sameD ht s⟩
theorem Same.frz {H : Hp} {t : Addr} {u : HO} : SameX t H (L2.upd H t u) := fun b o h e => by rw [upd_ne h]; exact e
theorem Same.unlock {H H' : Hp} {t : Addr} {u u' : HO} (ht : H t = some u) (s : Same (L2.upd H t u') H') : Same H (L2.upd H' t u) := fun b o e => by
  by_cases hb : b = t
  · subst hb; rw [upd_same]; rw [ht] at e; exact e
  · rw [upd_ne hb]; exact s b o (by rw [upd_ne hb]; exact e)
section
variable {P : Program} {w : World} {K : PySem.W.Frag} {mg : Str → Option Value} {base : Heap} {f : Addr}
theorem sc_noteInit : FnScope ["self", "catalog", "told", "name", "unknown", "words", "some", "word"] ["self", "catalog", "told"] (defScope sNoteInit) := ⟨rfl, rfl, rfl, by decide +kernel, rfl, by decide +kernel, by decide +kernel⟩
abbrev nm_noteInit : List Str := ["self", "catalog", "told", "name", "unknown", "words", "some", "word"]
theorem sc_noteCatalog : FnScope ["self"] ["self"] (defScope sNoteCatalog) := ⟨rfl, rfl, rfl, by decide +kernel, rfl, by decide +kernel, by decide +kernel⟩
abbrev nm_noteCatalog : List Str := ["self"]
theorem sc_noteGet : FnScope ["self", "name"] ["self", "name"] (defScope sNoteGet) := ⟨rfl, rfl, rfl, by decide +kernel, rfl, by decide +kernel, by decide +kernel⟩
abbrev nm_noteGet : List Str := ["self", "name"]
theorem ok_noteCatalog {p : Addr} (F : Df K "catalog" "Note.catalog" sNoteCatalog f) (c : Cls K (cNote K)) (pr : PropOf K (cNote K) "catalog" p f) (T : Txt K mg) : Pro P w K mg base 1 (cNote K) "catalog" (spAttr (cNote K) "own_catalog") := by
  refine F.pro c pr sc_noteCatalog (fun _ _ _ _ _ _ us hl => match us, hl with | [_], _ => rfl) (fun vs H Q E h => ?_) (fun cdv A outer s H vs Q E hr h => ?_)
  · obtain ⟨a, dx, fs, v, rfl, _⟩ := h; rfl
  · obtain ⟨a, dx, fs, v, rfl, ha, hl, q⟩ := h
    exact ⟨_, pss_one (ps_ret (pe_fld (pv 0) rfl)), _, rfl, a, _, dx, fs, v, rfl, ha, c, T.naOwnCat, hl, q⟩
/-- a note's words of a feature -/
def spNoteGet (K : PySem.W.Frag) : Sp := fun vs H Q _ => ∃ n c fs S x, vs = [.ref n, .str x] ∧ NoteAt K H n c fs S ∧ x ∈ fs.map (·.1) ∧ ∀ wa, H wa = some (.tup ((S x).map V.str)) → (S x).length ≤ 8 → Q (.ref wa) H
theorem ok_noteGet (F : Df K "__getitem__" "Note.__getitem__" sNoteGet f) (sc : Spc K (cNote K) "__getitem__" f) (T : Txt K mg) : SpM P w K mg base 1 (cNote K) "__getitem__" (spNoteGet K) := by
  refine F.spm sc sc_noteGet (fun _ _ _ _ _ _ us hl => match us, hl with | [_, _], _ => rfl) (fun vs H Q E h => ?_) (fun cdv A outer s H vs Q E hr h => ?_)
  · obtain ⟨n, c, fs, S, x, rfl, _⟩ := h; rfl
  · obtain ⟨n, c, fs, S, x, rfl, hn, hx, q⟩ := h
    obtain ⟨dx, d, kvs, h1, h2, h3⟩ := hn.ex
    obtain ⟨y, hy, rfl⟩ := List.mem_map.mp hx
    obtain ⟨hl, wa, h4, h5⟩ := h3 y hy
    have g : DGet H d (.str y.1) (some (.ref wa)) := h4 ▸ DGet.k (k := .inr y.1) h2
    refine ⟨_, pss_cons (ps_if (pt_cmp (pc_dnotin (hu_of hr) (pv 1) (pe_fld (pv 0) rfl))) pss_never pss_nil) (pss_one (ps_ret (pe_dget (hu_of hr) (pe_fld (pv 0) rfl) (pv 1) (fun _ _ => rfl)))), ?_⟩
    refine ⟨_, rfl, _, rfl, n, _, dx, _, _, rfl, h1, T.clNote, T.naSets, rfl, d, _, rfl, g, _, rfl, iteF ?_⟩
    exact ⟨_, rfl, n, _, dx, _, _, rfl, h1, T.clNote, T.naSets, rfl, _, rfl, d, _, rfl, g, q wa h5 hl.1⟩

structure SetOk (f : Fe) (ws : List Str) : Prop where
  ne : ws ≠ []
  len : ws.length ≤ 8
  asc : asc ws
  sub : ∀ x ∈ ws, x ∈ f.2
def spNoteInit (K : PySem.W.Frag) : Sp := fun vs H Q _ => ∃ n c t dx fs kvs S, vs = [.ref n, .ref c, .ref t] ∧ H n = some (.ins (cNote K) dx []) ∧ CatAt K H c fs ∧ fsOk fs ∧ H t = some (.dK kvs) ∧
  (∀ kv ∈ kvs, ∃ f ∈ fs, kv.1 = .inr f.1) ∧ (∀ f ∈ fs, SetOk f (S f.1) ∧ ((∃ wa, valV kvs (.inr f.1) = some (.ref wa) ∧ H wa = some (.tup ((S f.1).map V.str))) ∨ (valV kvs (.inr f.1) = none ∧ S f.1 = f.2))) ∧
  ∀ H', SameX n H H' → NoteAt K H' n c fs S → Q .non H'
theorem ok_noteInit (F : Df K "__init__" "Note.__init__" sNoteInit f) (M : Mk K (cNote K) f) (T : Txt K mg) (cC : SpM P w K mg base 3 (cCat K) "__contains__" (spCatContains K)) (cF : Pro P w K mg base 1 (cCat K) "features" (spAttr (cCat K) "parts"))
    (cR : C8.Cal P w K mg base 1 "is_rising" spIsRising []) : C8.Mak P w K mg base 4 "Note" (cNote K) (spNoteInit K) [] := by
  refine F.mak M T.mNote sc_noteInit (fun _ _ _ _ _ _ us hl => match us, hl with | [_, _, _], _ => rfl) (fun vs H Q E h => ?_) (fun cdv A outer s H vs Q E hr h => ?_)
  · obtain ⟨n, c, t, dx, fs, kvs, S, rfl, _⟩ := h; rfl
  · obtain ⟨n, c, t, dx, fs, kvs, S, rfl, hn, hc, hok, ht, hk, hS, q⟩ := h
    have h6 : fs.length ≤ 6 := hok.2.1
    refine ⟨_, pss_cons (ps_set sc_noteInit.nd (i := 4) rfl (Or.inl rfl) (pe_callB cr_sortedS (by rfl) T.sorted boot_sorted (pa_cons
        (pe_lock (pe_lc (own := [("name", 3)]) rfl sc_noteInit.nd (pi_keys (pv 2)) (blkOk_by (N := nm_noteInit) (sc := defScope sNoteInit) (by decide +kernel)) (fun _ _ _ _ _ => pg_name (i := 3) sc_noteInit.nd rfl (Or.inl rfl)) (fun _ _ _ _ _ => pts_one (pt_cmpR (op_notInM cC hr (by decide)) (pv 3) (pv 1) rfl)) (fun _ _ _ _ _ => pv 3))) pa_nil)))
      (pss_cons (ps_if (pt_cmpR (op_neD hr.units) (pv 4) (pe_lst pa_nil) (nomark _)) pss_never pss_nil)
      (pss_cons (ps_fld (pv 0) (pv 1) rfl)
      (pss_cons (ps_fld (pv 0) pe_dnewK rfl)
      (pss_one (ps_for PassesOwn.never rfl (pi_tup (pe_pr cF hr (by decide) (pv 1))) (pg_n2 K (i := 3) (j := 5) rfl rfl sc_noteInit.nd rfl rfl (by first | exact Or.inl rfl | exact Or.inr rfl) (by first | exact Or.inl rfl | exact Or.inr rfl) (by first | exact Or.inr rfl | exact Or.inl rfl) (by first | exact Or.inr rfl | exact Or.inl rfl))
        (pss_cons (ps_set sc_noteInit.nd (i := 6) rfl (Or.inl rfl) (pe_dget2 (hu_of hr) (pv 2) (pv 3) (pv 5) ⟨rfl, rfl, rfl, rfl⟩))
        (pss_cons (ps_if (PW.pt (pw_or (pt_cmpR op_eq (pe_callB call_len (by rfl) T.len boot_len (pa_cons (pv 6) pa_nil)) pe_int (nomark _)) (pw_or (pt_not (pt_val (C8.pe_c cR hr (by decide) (by rfl) (pa_cons (pv 6) pa_nil))))
            (pw_or1 (pt_cmpR (op_neD hr.units) (pe_lc (own := [("word", 7)]) rfl sc_noteInit.nd (pi_tup (pv 6)) (blkOk_by (N := nm_noteInit) (sc := defScope sNoteInit) (by decide +kernel)) (fun _ _ _ _ _ => pg_name (i := 7) sc_noteInit.nd rfl (Or.inl rfl)) (fun _ _ _ _ _ => pts_one (pt_cmpR (op_notInK K rfl) (pv 7) (pv 5) rfl)) (fun _ _ _ _ _ => pv 7)) (pe_lst pa_nil) (nomark _))))))
          pss_never pss_nil)
        (pss_one (ps_dput (hu_of hr) (pe_fld (pv 0) rfl) (pv 3) (pv 6) rfl))))))))), ?_⟩
    have hcn : c ≠ n := by
      rintro rfl
      obtain ⟨dx', a, h1, _⟩ := hc.ex
      have hne := T.catNote
      rw [hn] at h1; injection h1 with h1; injection h1 with h1; exact hne h1
    refine ⟨t, _, ht, trivial, fun od => ?_⟩
    refine ⟨_, rfl, t, od, rfl, .inl ⟨kvs, upd_same, fun D hD => ?_⟩⟩
    refine lc_it walk_keys (PvS (upd H t (.frz od (.dK kvs))) D (fun _ => [])) (.zero hD rfl) (fun i H2 _ z => z.1 _ _ upd_same) ?_ ?_
    · rintro i x H1 H2 hi ⟨z1, z2⟩ ⟨eH, k, v, hg, rfl⟩
      subst eH
      obtain ⟨f, hf, e⟩ := hk _ (mem_of_get hg)
      obtain rfl : k = .inr f.1 := e
      have hc1 : CatAt K H2 c fs := (hc.sameD ht Same.frz).same z1
      obtain ⟨dx', a, h1, _⟩ := hc1.ex
      refine ⟨rfl, _, rfl, _, rfl, c, _, _, rfl, h1, c, fs, f.1, rfl, hc1, h6, fun H3 s3 => ⟨_, rfl, _, rfl, ?_⟩⟩
      rw [decide_eq_true (List.mem_map_of_mem hf)]
      exact iteF (.skip (z1.trans s3) (s3 _ _ z2) rfl)
    · rintro H1 ⟨z1, z2⟩
      have s1 : Same H (upd H1 t (.dK kvs)) := Same.unlock ht z1
      have hDt : D ≠ t := fun e => by rw [e] at hD; rw [upd_same] at hD; cases hD
      refine ⟨z1 _ _ upd_same, D, [], rfl, SqL.of (by rw [upd_ne hDt]; exact z2), by decide, fun ys p hperm _ hp => ?_⟩
      obtain rfl := List.perm_nil.mp hperm
      have s2 : Same H _ := Same.upd' (o := .lst []) s1 hp
      refine ⟨_, rfl, by show 0 ≤ sizeLine; decide, fun p2 hp2 => ?_⟩
      refine ⟨.list [], .list [], .lst (.inl (.inl (by rw [upd_ne (ne_of_none upd_same hp2)]; exact upd_same))) .nil, .lst (.inl (.inl upd_same)) .nil, rfl, rfl, _, rfl, iteF ?_⟩
      have s3 : Same H _ := Same.upd' (o := .lst []) s2 hp2
      refine ⟨_, rfl, _, rfl, n, _, dx, [], rfl, s3 _ _ hn, T.clNote, T.naOwnCat, by decide, fun d hd => ?_⟩
      have hdn : d ≠ n := fun e => by rw [e] at hd; rw [upd_same] at hd; cases hd
      refine ⟨_, rfl, n, _, dx, _, rfl, by rw [upd_ne hdn.symm]; exact upd_same, T.clNote, T.naSets, by show 1 < 1000; decide, ?_⟩
      dsimp only
      refine gen_for (fun Hb => SameX n H Hb ∧ Hb n = some (.ins (cNote K) dx [("own_catalog", .ref c), ("sets", .ref d)]) ∧ Hb d = some (.dK [])) ?_ ?_
      · refine ⟨?_, upd_same, by rw [upd_ne hdn]; exact upd_same⟩
        intro b o hb e
        have e' := s3 b o e
        rw [upd_ne hb]
        have hbd : b ≠ d := fun z => by
          rw [z] at e' hb
          rw [upd_ne hb] at hd; exact absurd (e'.symm.trans hd) (by intro z; cases z)
        rw [upd_ne hbd, upd_ne hb]; exact e'
      have hHd : H d = none := by
        cases e : H d with
        | none => rfl
        | some o =>
          have e' := s3 d o e
          rw [upd_ne hdn] at hd; exact absurd (e'.symm.trans hd) (by intro z; cases z)
      clear hd s3 hp2 s2 hp s1 z1 z2 hDt hD
      rintro Hb ⟨sb, hbn, hbd⟩
      obtain ⟨cdx, pa, c1, L, c2, rfl, c3⟩ := hc.ex
      have up : ∀ {b o}, H b = some o → b ≠ n → Hb b = some o := fun e h => sb _ _ h e
      have neT : ∀ {b xs}, H b = some (.tup xs) → b ≠ n := fun e => ne_of e hn (by intro z; cases z)
      have htn : t ≠ n := ne_of ht hn (by intro z; cases z)
      have bd : ∀ {b o}, H b = some o → b ≠ d := fun e z => by rw [z, hHd] at e; cases e
      refine ⟨_, rfl, c, cdx, _, rfl, up c1 hcn, c, cdx, _, _, rfl, up c1 hcn, rfl, pa, rfl, ⟨_, SqT.of (up c2 (neT c2))⟩, ?_⟩
      refine for_it walk_tup (fun i σ H' => SameX d Hb H' ∧ (∃ x3 x4 x5 x6, σ = [some (.ref n), some (.ref c), some (.ref t), x3, x4, x5, x6, none]) ∧ ∃ ks, H' d = some (.dK ks) ∧ ks.length ≤ i ∧
          ∀ j, j < i → ∀ y, L[j]? = some y → ∃ wb, valV ks (.inr y.2.1) = some (.ref wb) ∧ H wb = some (.tup ((S y.2.1).map V.str)))
        ⟨fun b o _ e => e, ⟨_, _, _, _, rfl⟩, [], hbd, Nat.le_refl _, fun j hj => absurd hj (Nat.not_lt_zero _)⟩ (fun i σ H' _ z => SqT.of (z.1 _ _ (bd c2) (up c2 (neT c2)))) ?_ ?_
      · rintro i x σ H1 H2 hi ⟨z1, ⟨x3, x4, x5, x6, rfl⟩, ks, kd, kl, kg⟩ ⟨rfl, hx⟩
        obtain ⟨y, hy, rfl⟩ := get_map hx
        have yL := mem_of_get hy
        obtain ⟨wa, h4, h5⟩ := (c3 y yL).ex
        have at1 : ∀ {b o}, H b = some o → b ≠ n → H2 b = some o := fun e h => z1 _ _ (bd e) (up e h)
        have yfs : y.2 ∈ L.map (·.2) := List.mem_map_of_mem yL
        obtain ⟨so, sv⟩ := hS y.2 yfs
        obtain ⟨wb, e1, e2⟩ : ∃ wb, (valV kvs (.inr y.2.1)).getD (.ref wa) = V.ref wb ∧ H wb = some (.tup ((S y.2.1).map V.str)) := by
          rcases sv with ⟨wb, g1, g2⟩ | ⟨g1, g2⟩
          · exact ⟨wb, by rw [g1]; rfl, g2⟩
          · exact ⟨wa, by rw [g1]; rfl, by rw [g2]; exact h5⟩
        refine ⟨y.1, _, rfl, SqT.of (at1 h4 (neT h4)), rfl, _, _, rfl, _, _, rfl, rfl, ?_⟩
        refine ⟨_, rfl, t, rfl, .inl ⟨kvs, .inl (at1 ht htn)⟩, _, rfl, _, rfl, _, DGet.k (k := .inr y.2.1) (at1 ht htn), ?_⟩
        rw [e1]
        refine ⟨_, rfl, _, (S y.2.1).length, rfl, .inr ⟨_, SqT.of (at1 e2 (neT e2)), by simp⟩, rfl, _, rfl, ?_⟩
        have hl0 : (S y.2.1).length ≠ 0 := fun e => so.ne (List.length_eq_zero_iff.mp e)
        rw [decide_eq_false (fun e => by injection e with e; omega)]
        refine iteF ⟨_, rfl, wb, _, rfl, at1 e2 (neT e2), so.ne, Nat.le_trans so.len (by decide), so.asc, fun H3 s3 => ⟨true, rfl, iteF ?_⟩⟩
        refine ⟨_, rfl, wb, rfl, ⟨_, SqT.of (s3 _ _ (at1 e2 (neT e2)))⟩, fun D hD => ?_⟩
        refine lc_it walk_tup (PvS H3 D (fun _ => [])) (.zero hD rfl) (fun j H4 _ z => SqT.of (z.1 _ _ (s3 _ _ (at1 e2 (neT e2))))) ?_ ?_
        · rintro j v H4 H5 hj ⟨u1, u2⟩ ⟨rfl, hv⟩
          obtain ⟨wd, hwd, rfl⟩ := get_map hv
          refine ⟨rfl, _, rfl, _, rfl, wa, _, rfl, .inr (SqT.of (u1 _ _ (s3 _ _ (at1 h5 (neT h5))))), rfl, flat_strs _, _, rfl, ?_⟩
          rw [inV_strs, decide_eq_true (so.sub _ (mem_of_get hwd))]
          exact iteF (.skip u1 u2 rfl)
        · rintro H4 ⟨u1, u2⟩
          refine ⟨by show 0 ≤ sizeLine; decide, fun p2 hp2 => ?_⟩
          refine ⟨.list [], .list [], .lst (.inl (.inl (by rw [upd_ne (ne_of_none u2 hp2)]; exact u2))) .nil, .lst (.inl (.inl upd_same)) .nil, rfl, rfl, _, rfl, iteF ?_⟩
          have s5 : Same H2 _ := Same.upd' (o := .lst []) (s3.trans u1) hp2
          have n2 : H2 n = _ := z1 _ _ hdn.symm hbn
          refine ⟨_, rfl, _, rfl, n, _, dx, _, _, rfl, s5 _ _ n2, T.clNote, T.naSets, rfl, _, rfl, d, _, rfl, DPut.k (k := .inr y.2.1) (s5 _ _ kd) ?_, ?_⟩
          · have : L.length ≤ 6 := by simpa using h6
            have : i < L.length := by simpa using hi
            rw [sizeLine_eq]; omega
          · refine ⟨fun b o hb e => by rw [upd_ne hb]; exact s5 _ _ (z1 _ _ hb e), ⟨_, _, _, _, rfl⟩, _, upd_same, ?_, ?_⟩
            · have := length_putK ks (.inr y.2.1) (V.ref wb); omega
            · intro j hj y' hy'
              rw [valV_put]
              by_cases hk : (Sum.inr y'.2.1 : Key) = .inr y.2.1
              · rw [if_pos hk]
                injection hk with hk
                exact ⟨wb, rfl, by rw [hk]; exact e2⟩
              · rw [if_neg hk]
                refine kg j ?_ y' hy'
                rcases Nat.lt_succ_iff_lt_or_eq.mp hj with h | h
                · exact h
                · rw [h, hy] at hy'; cases hy'; exact absurd rfl hk
      · rintro σ H1 ⟨z1, ⟨x3, x4, x5, x6, rfl⟩, ks, kd, kl, kg⟩
        have at1 : ∀ {b o}, H b = some o → b ≠ n → H1 b = some o := fun e h => z1 _ _ (bd e) (up e h)
        refine q _ (fun b o hb e => at1 e hb) ⟨dx, d, ks, z1 _ _ hdn.symm hbn, kd, fun f hf => ?_⟩
        obtain ⟨y, hy, rfl⟩ := List.mem_map.mp hf
        obtain ⟨j, hj⟩ := List.mem_iff_getElem?.mp hy
        have hjl : j < (L.map fun p => V.ref p.1).length := by rw [List.length_map]; exact (List.getElem?_eq_some_iff.mp hj).1
        obtain ⟨wb, g1, g2⟩ := kg j hjl y hj
        exact ⟨⟨(hS y.2 hf).1.len, fun x hx => (hok.2.2.1 y.2 hf).2.2.2.1 x ((hS y.2 hf).1.sub x hx)⟩, wb, g1, at1 g2 (neT g2)⟩
end
end Lk
/-! Kd5 -/
namespace Lk
open PySem PySem.Spec PyProof.Rows L2
def comm (a b : List Str) : List Str := a.filter fun x => decide (x ∈ b)
def missf (R : Rnd) (c t : Str) : List Str := (R.fs.map (·.1)).filter fun n => (comm (R.cS c n) (R.tS t n)).isEmpty
def fitR (R : Rnd) (c t : Str) : Bool := decide (R.cd c ≤ R.td t) && decide (((missf R c t).length : Int) ≤ R.sl c)
theorem eqv_nilL : ∀ ws : List Str, PyData.eqv (.list (ws.map PyData.str)) (.list []) = ws.isEmpty
  | [] => by simp [PyData.eqv, PyData.eqvAll]
  | w :: ws => by simp [PyData.eqv, PyData.eqvAll]
theorem shaped_strs {ws : List Str} (h : ∀ x ∈ ws, wordOk x) : SeqAt.shaped (.list (ws.map PyData.str)) = true := by
  unfold SeqAt.shaped
  have h1 := dep_strs ws
  rw [Bool.and_eq_true]
  exact ⟨by simp only [PyData.canLay0]; exact can_strs _ h, decide_eq_true (by simp only [PyData.depth]; omega)⟩
theorem eqv_nil : ∀ ws : List Str, PyData.eqv (.tuple (ws.map PyData.str)) (.tuple []) = ws.isEmpty
  | [] => by simp [PyData.eqv, PyData.eqvAll]
  | w :: ws => by simp [PyData.eqv, PyData.eqvAll]
section
variable {P : Program} {w : World} {K : PySem.W.Frag} {mg : Str → Option Value} {base : Heap} {f : Addr}
theorem sc_common : FnScope ["one", "other", "name", "word"] ["one", "other", "name"] (defScope sCommon) := ⟨rfl, rfl, rfl, by decide +kernel, rfl, by decide +kernel, by decide +kernel⟩
abbrev nm_common : List Str := ["one", "other", "name", "word"]
theorem sc_thingNote : FnScope ["self"] ["self"] (defScope sThingNote) := ⟨rfl, rfl, rfl, by decide +kernel, rfl, by decide +kernel, by decide +kernel⟩
abbrev nm_thingNote : List Str := ["self"]
theorem sc_thingDay : FnScope ["self"] ["self"] (defScope sThingDay) := ⟨rfl, rfl, rfl, by decide +kernel, rfl, by decide +kernel, by decide +kernel⟩
abbrev nm_thingDay : List Str := ["self"]
theorem sc_claimNote : FnScope ["self"] ["self"] (defScope sClaimNote) := ⟨rfl, rfl, rfl, by decide +kernel, rfl, by decide +kernel, by decide +kernel⟩
abbrev nm_claimNote : List Str := ["self"]
theorem sc_claimDay : FnScope ["self"] ["self"] (defScope sClaimDay) := ⟨rfl, rfl, rfl, by decide +kernel, rfl, by decide +kernel, by decide +kernel⟩
abbrev nm_claimDay : List Str := ["self"]
theorem sc_claimSlips : FnScope ["self"] ["self"] (defScope sClaimSlips) := ⟨rfl, rfl, rfl, by decide +kernel, rfl, by decide +kernel, by decide +kernel⟩
abbrev nm_claimSlips : List Str := ["self"]
theorem sc_misfits : FnScope ["claim", "thing", "name"] ["claim", "thing"] (defScope sMisfits) := ⟨rfl, rfl, rfl, by decide +kernel, rfl, by decide +kernel, by decide +kernel⟩
abbrev nm_misfits : List Str := ["claim", "thing", "name"]
theorem sc_isFitting : FnScope ["claim", "thing"] ["claim", "thing"] (defScope sIsFitting) := ⟨rfl, rfl, rfl, by decide +kernel, rfl, by decide +kernel, by decide +kernel⟩
abbrev nm_isFitting : List Str := ["claim", "thing"]
theorem ok_thingNote {p : Addr} (F : Df K "note" "Thing.note" sThingNote f) (c : Cls K (cThing K)) (pr : PropOf K (cThing K) "note" p f) (T : Txt K mg) : Pro P w K mg base 1 (cThing K) "note" (spAttr (cThing K) "own_note") := by
  refine F.pro c pr sc_thingNote (fun _ _ _ _ _ _ us hl => match us, hl with | [_], _ => rfl) (fun vs H Q E h => ?_) (fun cdv A outer s H vs Q E hr h => ?_)
  · obtain ⟨a, dx, fs, v, rfl, _⟩ := h; rfl
  · obtain ⟨a, dx, fs, v, rfl, ha, hl, q⟩ := h
    exact ⟨_, pss_one (ps_ret (pe_fld (pv 0) rfl)), _, rfl, a, _, dx, fs, v, rfl, ha, c, T.naTNote, hl, q⟩
theorem ok_thingDay {p : Addr} (F : Df K "day" "Thing.day" sThingDay f) (c : Cls K (cThing K)) (pr : PropOf K (cThing K) "day" p f) (T : Txt K mg) : Pro P w K mg base 1 (cThing K) "day" (spAttr (cThing K) "own_day") := by
  refine F.pro c pr sc_thingDay (fun _ _ _ _ _ _ us hl => match us, hl with | [_], _ => rfl) (fun vs H Q E h => ?_) (fun cdv A outer s H vs Q E hr h => ?_)
  · obtain ⟨a, dx, fs, v, rfl, _⟩ := h; rfl
  · obtain ⟨a, dx, fs, v, rfl, ha, hl, q⟩ := h
    exact ⟨_, pss_one (ps_ret (pe_fld (pv 0) rfl)), _, rfl, a, _, dx, fs, v, rfl, ha, c, T.naTDay, hl, q⟩
theorem ok_claimNote {p : Addr} (F : Df K "note" "Claim.note" sClaimNote f) (c : Cls K (cClaim K)) (pr : PropOf K (cClaim K) "note" p f) (T : Txt K mg) : Pro P w K mg base 1 (cClaim K) "note" (spAttr (cClaim K) "own_note") := by
  refine F.pro c pr sc_claimNote (fun _ _ _ _ _ _ us hl => match us, hl with | [_], _ => rfl) (fun vs H Q E h => ?_) (fun cdv A outer s H vs Q E hr h => ?_)
  · obtain ⟨a, dx, fs, v, rfl, _⟩ := h; rfl
  · obtain ⟨a, dx, fs, v, rfl, ha, hl, q⟩ := h
    exact ⟨_, pss_one (ps_ret (pe_fld (pv 0) rfl)), _, rfl, a, _, dx, fs, v, rfl, ha, c, T.naCNote, hl, q⟩
theorem ok_claimDay {p : Addr} (F : Df K "day" "Claim.day" sClaimDay f) (c : Cls K (cClaim K)) (pr : PropOf K (cClaim K) "day" p f) (T : Txt K mg) : Pro P w K mg base 1 (cClaim K) "day" (spAttr (cClaim K) "own_day") := by
  refine F.pro c pr sc_claimDay (fun _ _ _ _ _ _ us hl => match us, hl with | [_], _ => rfl) (fun vs H Q E h => ?_) (fun cdv A outer s H vs Q E hr h => ?_)
  · obtain ⟨a, dx, fs, v, rfl, _⟩ := h; rfl
  · obtain ⟨a, dx, fs, v, rfl, ha, hl, q⟩ := h
    exact ⟨_, pss_one (ps_ret (pe_fld (pv 0) rfl)), _, rfl, a, _, dx, fs, v, rfl, ha, c, T.naCDay, hl, q⟩
theorem ok_claimSlips {p : Addr} (F : Df K "slips" "Claim.slips" sClaimSlips f) (c : Cls K (cClaim K)) (pr : PropOf K (cClaim K) "slips" p f) (T : Txt K mg) : Pro P w K mg base 1 (cClaim K) "slips" (spAttr (cClaim K) "own_slips") := by
  refine F.pro c pr sc_claimSlips (fun _ _ _ _ _ _ us hl => match us, hl with | [_], _ => rfl) (fun vs H Q E h => ?_) (fun cdv A outer s H vs Q E hr h => ?_)
  · obtain ⟨a, dx, fs, v, rfl, _⟩ := h; rfl
  · obtain ⟨a, dx, fs, v, rfl, ha, hl, q⟩ := h
    exact ⟨_, pss_one (ps_ret (pe_fld (pv 0) rfl)), _, rfl, a, _, dx, fs, v, rfl, ha, c, T.naCSlips, hl, q⟩

def spCommon (K : PySem.W.Frag) : Sp := fun vs H Q _ => ∃ a b c fs S S2 x, vs = [.ref a, .ref b, .str x] ∧ NoteAt K H a c fs S ∧ NoteAt K H b c fs S2 ∧ x ∈ fs.map (·.1) ∧
  ∀ p H', Same H H' → H' p = some (.tup ((comm (S x) (S2 x)).map V.str)) → Q (.ref p) H'
theorem ok_common (F : Df K "common" "common" sCommon f) (hm : mg "common" = some (.ref f)) (T : Txt K mg) (cG : SpM P w K mg base 1 (cNote K) "__getitem__" (spNoteGet K)) : C8.Cal P w K mg base 3 "common" (spCommon K) [] := by
  refine F.cal hm sc_common (fun _ _ _ _ _ _ us hl => match us, hl with | [_, _, _], _ => rfl) (fun vs H Q E h => ?_) (fun cdv A outer s H vs Q E hr h => ?_)
  · obtain ⟨a, b, c, fs, S, S2, x, rfl, _⟩ := h; rfl
  · obtain ⟨a, b, c, fs, S, S2, x, rfl, ha, hb, hx, q⟩ := h
    refine ⟨_, pss_one (ps_ret (pe_callTy call_tuple_of (by rfl) T.tuple boot_tuple (pa_cons
      (pe_lc (own := [("word", 3)]) rfl sc_common.nd (pi_tup (pe_ixM cG hr (by decide) (pv 0) (pv 2) (fun _ _ => rfl))) (blkOk_by (N := nm_common) (sc := defScope sCommon) (by decide +kernel)) (fun _ _ _ _ _ => pg_name (i := 3) sc_common.nd rfl (Or.inl rfl))
        (fun _ _ _ _ _ => pts_one (pt_cmpR (op_inK K rfl) (pv 3) (pe_ixM cG hr (by decide) (pv 1) (pv 2) (fun _ _ => rfl)) rfl)) (fun _ _ _ _ _ => pv 3)) pa_nil))), ?_⟩
    obtain ⟨dx, d, kvs, h1, _⟩ := ha.ex
    obtain ⟨dx2, d2, kvs2, g1, _⟩ := hb.ex
    refine ⟨_, rfl, _, rfl, a, dx, _, rfl, h1, a, c, fs, S, x, rfl, ha, hx, fun wa hwa hl => ⟨wa, rfl, ⟨_, SqT.of hwa⟩, fun D hD => ?_⟩⟩
    refine lc_it walk_tup (PvS H D (outF (S x) (fun z => decide (z ∈ S2 x)) V.str)) (.zero hD outF_zero) (fun i H2 _ z => SqT.of (z.1 _ _ hwa)) ?_ ?_
    · rintro i v H2 H3 hi ⟨z1, z2⟩ ⟨rfl, hv⟩
      obtain ⟨y, hy, rfl⟩ := get_map hv
      refine ⟨rfl, _, rfl, _, rfl, _, rfl, b, dx2, _, rfl, z1 _ _ g1, b, c, fs, S2, x, rfl, hb.same z1, hx, fun wb hwb _ => ?_⟩
      refine ⟨wb, _, rfl, .inr (SqT.of hwb), rfl, flat_strs _, _, rfl, ?_⟩
      rw [inV_strs]
      by_cases hm : y ∈ S2 x
      · rw [decide_eq_true hm]
        exact iteT ⟨_, rfl, PvS.add hD z1 z2 (outF_len (by omega)) (outF_yes hy (decide_eq_true hm))⟩
      · rw [decide_eq_false hm]
        exact iteF (.skip z1 z2 (outF_no hy (decide_eq_false hm)))
    · rintro H2 ⟨z1, z2⟩
      rw [outF_all _ (by simp)] at z2
      exact ⟨D, _, rfl, .inl ⟨SqL.of z2, fun p hp => q p _ (Same.upd' z1 hp) upd_same⟩⟩

def spMisfits (K : PySem.W.Frag) : Sp := fun vs H Q _ => ∃ R c t, vs = [.ref (R.ca c), .ref (R.ta t)] ∧ ClaimAt K H R c ∧ ThingAt K H R t ∧ CatAt K H R.c R.fs ∧ R.fs.length ≤ 6 ∧
  ∀ D H', Same H H' → H' D = some (.lst ((missf R c t).map V.str)) → Q (.ref D) H'
theorem ok_misfits (F : Df K "misfits_of" "misfits_of" sMisfits f) (hm : mg "misfits_of" = some (.ref f)) (T : Txt K mg) (cC : C8.Cal P w K mg base 3 "common" (spCommon K) [])
    (pTN : Pro P w K mg base 1 (cThing K) "note" (spAttr (cThing K) "own_note")) (pCN : Pro P w K mg base 1 (cClaim K) "note" (spAttr (cClaim K) "own_note"))
    (pNC : Pro P w K mg base 1 (cNote K) "catalog" (spAttr (cNote K) "own_catalog")) (pCa : Pro P w K mg base 1 (cCat K) "names" (spCatNames K)) : C8.Cal P w K mg base 4 "misfits_of" (spMisfits K) [] := by
  refine F.cal hm sc_misfits (fun _ _ _ _ _ _ us hl => match us, hl with | [_, _], _ => rfl) (fun vs H Q E h => ?_) (fun cdv A outer s H vs Q E hr h => ?_)
  · obtain ⟨R, c, t, rfl, _⟩ := h; rfl
  · obtain ⟨R, c, t, rfl, hc, ht, hcat, h6, q⟩ := h
    refine ⟨_, pss_one (ps_ret (pe_lc (own := [("name", 2)]) rfl sc_misfits.nd (pi_tup (pe_pr pCa hr (by decide) (pe_pr pNC hr (by decide) (pe_pr pTN hr (by decide) (pv 1))))) (blkOk_by (N := nm_misfits) (sc := defScope sMisfits) (by decide +kernel)) (fun _ _ _ _ _ => pg_name (i := 2) sc_misfits.nd rfl (Or.inl rfl))
        (fun _ _ _ _ _ => pts_one (pt_cmpR (op_eqK K rfl hr.units) (C8.pe_c cC hr (by decide) (by rfl) (pa_cons (pe_pr pCN hr (by decide) (pv 0)) (pa_cons (pe_pr pTN hr (by decide) (pv 1)) (pa_cons (pv 2) pa_nil)))) (pe_tup pa_nil) (nomark _))) (fun _ _ _ _ _ => pv 2))), ?_⟩
    obtain ⟨dt, t1⟩ := ht.ex
    obtain ⟨dc, wo, c1⟩ := hc.ex
    obtain ⟨dx, d, kvs, h1, _⟩ := ht.note.ex
    obtain ⟨da, pa, a1, _⟩ := hcat.ex
    refine ⟨_, rfl, _, dt, _, rfl, t1, _, dt, _, _, rfl, t1, rfl, _, dx, _, rfl, h1, _, dx, _, _, rfl, h1, rfl, _, da, _, rfl, a1, R.c, R.fs, rfl, hcat, h6, fun p H1 s1 hp => ⟨p, rfl, ⟨_, SqT.of hp⟩, fun D hD => ?_⟩⟩
    rw [show R.fs.map (fun f => V.str f.1) = (R.fs.map (·.1)).map V.str by simp] at hp
    refine lc_it walk_tup (PvS H1 D (outF (R.fs.map (·.1)) (fun n => (comm (R.cS c n) (R.tS t n)).isEmpty) V.str)) (.zero hD outF_zero) (fun i H2 _ z => SqT.of (z.1 _ _ hp)) ?_ ?_
    · rintro i v H2 H3 hi ⟨z1, z2⟩ ⟨rfl, hv⟩
      obtain ⟨y, hy, rfl⟩ := get_map hv
      have s2 := s1.trans z1
      refine ⟨rfl, _, rfl, _, dc, _, rfl, s2 _ _ c1, _, dc, _, _, rfl, s2 _ _ c1, rfl, _, rfl, _, dt, _, rfl, s2 _ _ t1, _, dt, _, _, rfl, s2 _ _ t1, rfl, _, rfl, ?_⟩
      refine ⟨R.cn c, R.tn t, R.c, R.fs, R.cS c, R.tS t, y, rfl, hc.note.same s2, ht.note.same s2, mem_of_get hy, fun p2 H4 s4 hp2 => ?_⟩
      refine ⟨by show 0 ≤ sizeLine; decide, fun p3 hp3 => ?_⟩
      have hcw : ∀ x ∈ comm (R.cS c y) (R.tS t y), wordOk x := by
        obtain ⟨_, _, _, _, _, h3⟩ := hc.note.ex
        obtain ⟨f, hf, e⟩ := List.mem_map.mp (mem_of_get hy)
        subst e
        exact fun x hx => (h3 f hf).1.2 x (List.mem_filter.mp hx).1
      refine ⟨.tuple ((comm (R.cS c y) (R.tS t y)).map PyData.str), .tuple [], .tup (SqT.of (by rw [upd_ne (ne_of_none hp2 hp3)]; exact hp2)) (dp_strs _), .tup (SqT.of upd_same) .nil, ?_, rfl, _, rfl, ?_⟩
      · unfold SeqAt.shaped
        have h1 := dep_strs (comm (R.cS c y) (R.tS t y))
        rw [Bool.and_eq_true]
        exact ⟨by simp only [PyData.canLay0]; exact can_strs _ hcw, decide_eq_true (by simp only [PyData.depth]; omega)⟩
      · rw [eqv_nil]
        by_cases he : (comm (R.cS c y) (R.tS t y)).isEmpty = true
        · rw [he]
          exact iteT ⟨_, rfl, PvS.add hD (Same.upd' (z1.trans s4) hp3) (by rw [upd_ne (ne_of_none (s4 _ _ z2) hp3)]; exact s4 _ _ z2) (outF_len (by simp; omega)) (outF_yes hy he)⟩
        · rw [show (comm (R.cS c y) (R.tS t y)).isEmpty = false by simpa using he]
          exact iteF (.skip (Same.upd' (z1.trans s4) hp3) (by rw [upd_ne (ne_of_none (s4 _ _ z2) hp3)]; exact s4 _ _ z2) (outF_no hy (by simpa using he)))
    · rintro H2 ⟨z1, z2⟩
      rw [outF_all _ (by simp)] at z2
      exact q D _ (s1.trans z1) z2

def spIsFitting (K : PySem.W.Frag) : Sp := fun vs H Q _ => ∃ R c t, vs = [.ref (R.ca c), .ref (R.ta t)] ∧ ClaimAt K H R c ∧ ThingAt K H R t ∧ CatAt K H R.c R.fs ∧ R.fs.length ≤ 6 ∧
  ∀ H', Same H H' → Q (.bl (fitR R c t)) H'
theorem ok_isFitting (F : Df K "is_fitting" "is_fitting" sIsFitting f) (hm : mg "is_fitting" = some (.ref f)) (T : Txt K mg) (cM : C8.Cal P w K mg base 4 "misfits_of" (spMisfits K) [])
    (pTD : Pro P w K mg base 1 (cThing K) "day" (spAttr (cThing K) "own_day")) (pCD : Pro P w K mg base 1 (cClaim K) "day" (spAttr (cClaim K) "own_day")) (pCS : Pro P w K mg base 1 (cClaim K) "slips" (spAttr (cClaim K) "own_slips")) :
    C8.Cal P w K mg base 5 "is_fitting" (spIsFitting K) [] := by
  refine F.cal hm sc_isFitting (fun _ _ _ _ _ _ us hl => match us, hl with | [_, _], _ => rfl) (fun vs H Q E h => ?_) (fun cdv A outer s H vs Q E hr h => ?_)
  · obtain ⟨R, c, t, rfl, _⟩ := h; rfl
  · obtain ⟨R, c, t, rfl, hc, ht, hcat, h6, q⟩ := h
    refine ⟨_, pss_one (ps_ret (pe_and (pe_cmpR op_ge (pe_pr pTD hr (by decide) (pv 1)) (pe_pr pCD hr (by decide) (pv 0)) (nomark _))
      (pe_one (pe_cmpR op_le (pe_callB call_len (by rfl) T.len boot_len (pa_cons (C8.pe_c cM hr (by decide) (by rfl) (pa_cons (pv 0) (pa_cons (pv 1) pa_nil))) pa_nil)) (pe_pr pCS hr (by decide) (pv 0)) (nomark _))))), ?_⟩
    obtain ⟨dt, t1⟩ := ht.ex
    obtain ⟨dc, wo, c1⟩ := hc.ex
    refine ⟨_, rfl, _, dt, _, rfl, t1, _, dt, _, _, rfl, t1, rfl, _, rfl, _, dc, _, rfl, c1, _, dc, _, _, rfl, c1, rfl, _, _, rfl, rfl, _, rfl, ?_⟩
    by_cases hd : R.cd c ≤ R.td t
    · rw [decide_eq_true hd]
      refine iteT ⟨_, rfl, _, rfl, R, c, t, rfl, hc, ht, hcat, h6, fun D H1 s1 hD => ?_⟩
      refine ⟨_, (missf R c t).length, rfl, .inl ⟨_, SqL.of hD, by simp⟩, _, rfl, _, dc, _, rfl, s1 _ _ c1, _, dc, _, _, rfl, s1 _ _ c1, rfl, _, _, rfl, rfl, ?_⟩
      have e : fitR R c t = decide (((missf R c t).length : Int) ≤ R.sl c) := by unfold fitR; rw [decide_eq_true hd]; simp
      show Q (.bl (decide (((missf R c t).length : Int) ≤ R.sl c))) H1
      rw [← e]
      exact q _ s1
    · rw [decide_eq_false hd]
      have e : fitR R c t = false := by unfold fitR; rw [decide_eq_false hd]; rfl
      refine iteF ?_
      rw [← e]
      exact q _ (Same.refl _)
end
end Lk
/-! Kd6 -/
namespace Lk
open PySem PySem.Spec PyProof.Rows L2
theorem val_map (g : Str → V) (c : Str) : ∀ L : List Str, valV (L.map fun l => ((Sum.inr l : Key), g l)) (.inr c) = if c ∈ L then some (g c) else none
  | [] => by simp [valV_nil]
  | l :: L => by
    have ih := val_map g c L
    rw [List.map_cons]
    by_cases h : l = c
    · subst h
      rw [valV_pos (p := ((Sum.inr l : Key), g l)) rfl, if_pos List.mem_cons_self]
    · rw [valV_neg (p := ((Sum.inr l : Key), g l)) (fun e => h (by injection e)), ih]
      by_cases hc : c ∈ L
      · rw [if_pos hc, if_pos (List.mem_cons_of_mem _ hc)]
      · rw [if_neg hc, if_neg (fun z => (List.mem_cons.mp z).elim (fun e => h e.symm) hc)]
theorem item_get {g : Str → V} {L : List Str} {i : Nat} {k u : V} (hk : ((L.map fun l => ((Sum.inr l : Key), g l))[i]?.map fun kv => kV kv.1) = some k) (hu : ((L.map fun l => ((Sum.inr l : Key), g l))[i]?.map Prod.snd) = some u) :
    ∃ l, L[i]? = some l ∧ k = .str l ∧ u = g l := by
  rw [List.getElem?_map] at hk hu
  cases e : L[i]? with
  | none => rw [e] at hk; cases hk
  | some l => rw [e] at hk hu; exact ⟨l, rfl, by injection hk with hk; exact hk.symm, by injection hu with hu; exact hu.symm⟩
theorem val_c {R : Rnd} {C : List Str} {c : Str} (h : c ∈ C) : valV (cKvs R C) (.inr c) = some (.ref (R.ca c)) := by unfold cKvs; rw [val_map (fun l => .ref (R.ca l)), if_pos h]
theorem val_t {R : Rnd} {T : List Str} {t : Str} (h : t ∈ T) : valV (tKvs R T) (.inr t) = some (.ref (R.ta t)) := by unfold tKvs; rw [val_map (fun l => .ref (R.ta l)), if_pos h]
theorem val_cN {R : Rnd} {C : List Str} {c : Str} (h : c ∉ C) : valV (cKvs R C) (.inr c) = none := by unfold cKvs; rw [val_map (fun l => .ref (R.ca l)), if_neg h]
theorem val_tN {R : Rnd} {T : List Str} {t : Str} (h : t ∉ T) : valV (tKvs R T) (.inr t) = none := by unfold tKvs; rw [val_map (fun l => .ref (R.ta l)), if_neg h]
theorem LabOk.cNotT {T C : List Str} (h : LabOk T C) {l : Str} (hc : l ∈ C) : l ∉ T := fun ht => apart l (h.t.subset ht) (h.c.subset hc)
theorem LabOk.tNotC {T C : List Str} (h : LabOk T C) {l : Str} (ht : l ∈ T) : l ∉ C := fun hc => apart l (h.t.subset ht) (h.c.subset hc)
def cands (R : Rnd) (T C : List Str) (l : Str) : List Str := if l ∈ C then T.filter (fitR R l) else C.filter fun c => fitR R c l
/-- a fresh dict, known while it is walked: what stood stands -/
theorem Same.fz {H : Hp} {p : Addr} {u u' : HO} (h : H p = none) : Same H (L2.upd (L2.upd H p u) p u') := fun b o e => by rw [upd_ne (ne_of_none e h), upd_ne (ne_of_none e h)]; exact e
section
variable {P : Program} {w : World} {K : PySem.W.Frag} {mg : Str → Option Value} {base : Heap} {f : Addr}
theorem sc_offThings : FnScope ["self"] ["self"] (defScope sOffThings) := ⟨rfl, rfl, rfl, by decide +kernel, rfl, by decide +kernel, by decide +kernel⟩
abbrev nm_offThings : List Str := ["self"]
theorem sc_offClaims : FnScope ["self"] ["self"] (defScope sOffClaims) := ⟨rfl, rfl, rfl, by decide +kernel, rfl, by decide +kernel, by decide +kernel⟩
abbrev nm_offClaims : List Str := ["self"]
theorem sc_offContains : FnScope ["self", "label"] ["self", "label"] (defScope sOffContains) := ⟨rfl, rfl, rfl, by decide +kernel, rfl, by decide +kernel, by decide +kernel⟩
abbrev nm_offContains : List Str := ["self", "label"]
theorem sc_fitThings : FnScope ["office", "claim", "label", "thing"] ["office", "claim"] (defScope sFitThings) := ⟨rfl, rfl, rfl, by decide +kernel, rfl, by decide +kernel, by decide +kernel⟩
abbrev nm_fitThings : List Str := ["office", "claim", "label", "thing"]
theorem sc_valClaim : FnScope ["office", "label"] ["office", "label"] (defScope sValClaim) := ⟨rfl, rfl, rfl, by decide +kernel, rfl, by decide +kernel, by decide +kernel⟩
abbrev nm_valClaim : List Str := ["office", "label"]
theorem sc_valPair : FnScope ["office", "claim", "thing"] ["office", "claim", "thing"] (defScope sValPair) := ⟨rfl, rfl, rfl, by decide +kernel, rfl, by decide +kernel, by decide +kernel⟩
abbrev nm_valPair : List Str := ["office", "claim", "thing"]
theorem sc_valLabel : FnScope ["office", "label"] ["office", "label"] (defScope sValLabel) := ⟨rfl, rfl, rfl, by decide +kernel, rfl, by decide +kernel, by decide +kernel⟩
abbrev nm_valLabel : List Str := ["office", "label"]
theorem sc_candidates : FnScope ["office", "label", "claim", "lost"] ["office", "label"] (defScope sCandidates) := ⟨rfl, rfl, rfl, by decide +kernel, rfl, by decide +kernel, by decide +kernel⟩
abbrev nm_candidates : List Str := ["office", "label", "claim", "lost"]
theorem sc_lonely : FnScope ["office", "label"] ["office"] (defScope sLonely) := ⟨rfl, rfl, rfl, by decide +kernel, rfl, by decide +kernel, by decide +kernel⟩
abbrev nm_lonely : List Str := ["office", "label"]
def spOffThings (K : PySem.W.Frag) : Sp := fun vs H Q _ => ∃ R o T C, vs = [.ref o] ∧ OffAt K H R o T C ∧ ∀ p, H p = none → Q (.ref p) (L2.upd H p (.dK (tKvs R T)))
def spOffClaims (K : PySem.W.Frag) : Sp := fun vs H Q _ => ∃ R o T C, vs = [.ref o] ∧ OffAt K H R o T C ∧ ∀ p, H p = none → Q (.ref p) (L2.upd H p (.dK (cKvs R C)))
theorem ok_offThings {p : Addr} (F : Df K "things" "Office.things" sOffThings f) (c : Cls K (cOff K)) (pr : PropOf K (cOff K) "things" p f) (Tx : Txt K mg) : Pro P w K mg base 1 (cOff K) "things" (spOffThings K) := by
  refine F.pro c pr sc_offThings (fun _ _ _ _ _ _ us hl => match us, hl with | [_], _ => rfl) (fun vs H Q E h => ?_) (fun cdv A outer s H vs Q E hr h => ?_)
  · obtain ⟨R, o, T, C, rfl, _⟩ := h; rfl
  · obtain ⟨R, o, T, C, rfl, ho, q⟩ := h
    obtain ⟨dx, f, l, h1, h2, h3⟩ := ho.ex
    exact ⟨_, pss_one (ps_ret (pe_callTy call_dictD (by rfl) Tx.dict boot_dict (pa_cons (pe_fld (pv 0) rfl) pa_nil))), _, rfl, o, _, dx, _, _, rfl, h1, c, Tx.naFound, rfl, f, _, rfl, .inl h2, q⟩
theorem ok_offClaims {p : Addr} (F : Df K "claims" "Office.claims" sOffClaims f) (c : Cls K (cOff K)) (pr : PropOf K (cOff K) "claims" p f) (Tx : Txt K mg) : Pro P w K mg base 1 (cOff K) "claims" (spOffClaims K) := by
  refine F.pro c pr sc_offClaims (fun _ _ _ _ _ _ us hl => match us, hl with | [_], _ => rfl) (fun vs H Q E h => ?_) (fun cdv A outer s H vs Q E hr h => ?_)
  · obtain ⟨R, o, T, C, rfl, _⟩ := h; rfl
  · obtain ⟨R, o, T, C, rfl, ho, q⟩ := h
    obtain ⟨dx, f, l, h1, h2, h3⟩ := ho.ex
    exact ⟨_, pss_one (ps_ret (pe_callTy call_dictD (by rfl) Tx.dict boot_dict (pa_cons (pe_fld (pv 0) rfl) pa_nil))), _, rfl, o, _, dx, _, _, rfl, h1, c, Tx.naLost, rfl, l, _, rfl, .inl h3, q⟩
def spOffContains (K : PySem.W.Frag) : Sp := fun vs H Q _ => ∃ R o T C l, vs = [.ref o, .str l] ∧ OffAt K H R o T C ∧ (l ∈ T ∨ l ∈ C) ∧ Q (.bl true) H
theorem ok_offContains (F : Df K "__contains__" "Office.__contains__" sOffContains f) (sc : Spc K (cOff K) "__contains__" f) (Tx : Txt K mg) : SpM P w K mg base 1 (cOff K) "__contains__" (spOffContains K) := by
  refine F.spm sc sc_offContains (fun _ _ _ _ _ _ us hl => match us, hl with | [_, _], _ => rfl) (fun vs H Q E h => ?_) (fun cdv A outer s H vs Q E hr h => ?_)
  · obtain ⟨R, o, T, C, l, rfl, _⟩ := h; rfl
  · obtain ⟨R, o, T, C, l, rfl, ho, hl, q⟩ := h
    obtain ⟨dx, f, b, h1, h2, h3⟩ := ho.ex
    refine ⟨_, pss_one (ps_ret (pe_or (pe_cmp (pc_din (hu_of hr) (pv 1) (pe_fld (pv 0) rfl))) (pe_one (pe_cmp (pc_din (hu_of hr) (pv 1) (pe_fld (pv 0) rfl)))))), ?_⟩
    refine ⟨_, rfl, _, rfl, o, _, dx, _, _, rfl, h1, Tx.clOff, Tx.naFound, rfl, f, _, rfl, DGet.k (k := .inr l) h2, ?_⟩
    by_cases ht : l ∈ T
    · rw [val_t ht]
      exact ⟨true, rfl, iteT q⟩
    · rw [val_tN ht]
      refine ⟨false, rfl, iteF ?_⟩
      have hc : l ∈ C := hl.resolve_left ht
      refine ⟨_, rfl, _, rfl, o, _, dx, _, _, rfl, h1, Tx.clOff, Tx.naLost, rfl, b, _, rfl, DGet.k (k := .inr l) h3, ?_⟩
      rw [val_c hc]
      exact q

def spFitThings (K : PySem.W.Frag) : Sp := fun vs H Q _ => ∃ R o T C c, vs = [.ref o, .str c] ∧ OffAt K H R o T C ∧ c ∈ C ∧ ∀ D H', Same H H' → H D = none → H' D = some (.lst ((T.filter (fitR R c)).map V.str)) → Q (.ref D) H'
theorem ok_fitThings (F : Df K "fitting_things" "fitting_things" sFitThings f) (hm : mg "fitting_things" = some (.ref f)) (Tx : Txt K mg) (pT : Pro P w K mg base 1 (cOff K) "things" (spOffThings K)) (pC : Pro P w K mg base 1 (cOff K) "claims" (spOffClaims K))
    (cI : C8.Cal P w K mg base 5 "is_fitting" (spIsFitting K) []) : C8.Cal P w K mg base 6 "fitting_things" (spFitThings K) [] := by
  refine F.cal hm sc_fitThings (fun _ _ _ _ _ _ us hl => match us, hl with | [_, _], _ => rfl) (fun vs H Q E h => ?_) (fun cdv A outer s H vs Q E hr h => ?_)
  · obtain ⟨R, o, T, C, c, rfl, _⟩ := h; rfl
  · obtain ⟨R, o, T, C, c, rfl, ho, hc, q⟩ := h
    obtain ⟨dx, f, b, h1, h2, h3⟩ := ho.ex
    refine ⟨_, pss_one (ps_ret (pe_lc (own := [("label", 2), ("thing", 3)]) rfl sc_fitThings.nd (pi_items (pe_frz (pe_pr pT hr (by decide) (pv 0)))) (blkOk_by (N := nm_fitThings) (sc := defScope sFitThings) (by decide +kernel)) (fun _ _ _ _ _ => pg_n2 K (i := 2) (j := 3) rfl rfl sc_fitThings.nd rfl rfl (Or.inl rfl) (Or.inl rfl) (Or.inr rfl) (Or.inr rfl))
      (fun _ _ _ _ _ => pts_one (pt_val (C8.pe_c cI hr (by decide) (by rfl) (pa_cons (pe_dget (hu_of hr) (pe_pr pC hr (by decide) (pv 0)) (pv 1) (fun _ _ => rfl)) (pa_cons (pv 3) pa_nil))))) (fun _ _ _ _ _ => pv 2))), ?_⟩
    refine ⟨_, rfl, o, dx, _, rfl, h1, R, o, T, C, rfl, ho, fun p hp => ⟨p, _, rfl, upd_same, trivial, fun od => ⟨p, od, _, rfl, upd_same, fun D hD => ?_⟩⟩⟩
    have s0 : Same H (upd (upd H p (.dK (tKvs R T))) p (.frz od (.dK (tKvs R T)))) := Same.fz hp
    refine lc_it walk_items (PvS _ D (outF T (fitR R c) V.str)) (.zero hD outF_zero) (fun i H2 _ z => z.1 _ _ upd_same) ?_ ?_
    · rintro i v H2 H3 hi ⟨z1, z2⟩ ⟨T', k, u, rfl, hT', rfl, hk, hu⟩
      obtain ⟨l, hl, hlk, hlu⟩ := item_get (g := fun l => .ref (R.ta l)) hk hu
      subst hlk; subst hlu
      have s2 : Same H (upd H2 T' (.tup [.str l, .ref (R.ta l)])) := Same.upd' (s0.trans z1) hT'
      refine ⟨T', _, rfl, SqT.of upd_same, rfl, _, _, rfl, _, _, rfl, rfl, rfl, ?_⟩
      refine ⟨_, rfl, o, dx, _, rfl, s2 _ _ h1, R, o, T, C, rfl, ho.same s2, fun p2 hp2 => ?_⟩
      have s3 := Same.upd' (o := .dK (cKvs R C)) s2 hp2
      refine ⟨_, rfl, p2, .ref (R.ca c), rfl, val_c (R := R) hc ▸ DGet.k (k := .inr c) upd_same, ?_⟩
      refine ⟨_, rfl, R, c, l, rfl, (ho.cl c hc).same s3, (ho.th l (mem_of_get hl)).same s3, ho.cat.same s3, ho.fs.2.1, fun H4 s4 => ⟨_, rfl, ?_⟩⟩
      have z3 : H4 D = some (.lst (outF T (fitR R c) V.str i)) := s4 _ _ (upd_keep (upd_keep z2 hT') hp2)
      have s5 : Same (upd (upd H p (.dK (tKvs R T))) p (.frz od (.dK (tKvs R T)))) H4 := (Same.upd' (Same.upd' z1 hT') hp2).trans s4
      by_cases hf : fitR R c l = true
      · rw [hf]
        exact iteT ⟨_, rfl, PvS.add hD s5 z3 (outF_len (by have := ho.lab.tlen; omega)) (outF_yes hl hf)⟩
      · rw [show fitR R c l = false by simpa using hf]
        exact iteF (.skip s5 z3 (outF_no hl (by simpa using hf)))
    · rintro H2 ⟨z1, z2⟩
      rw [outF_all _ (by unfold tKvs; simp)] at z2
      exact q D _ (s0.trans z1) (none_of s0 hD) z2

def spValClaim (K : PySem.W.Frag) : Sp := fun vs H Q _ => ∃ R o T C c, vs = [.ref o, .str c] ∧ OffAt K H R o T C ∧ c ∈ C ∧ ∀ H', Same H H' → Q .non H'
theorem ok_valClaim (F : Df K "validate_claim" "validate_claim" sValClaim f) (hm : mg "validate_claim" = some (.ref f)) (Tx : Txt K mg) (pC : Pro P w K mg base 1 (cOff K) "claims" (spOffClaims K)) :
    C8.Cal P w K mg base 3 "validate_claim" (spValClaim K) [] := by
  refine F.cal hm sc_valClaim (fun _ _ _ _ _ _ us hl => match us, hl with | [_, _], _ => rfl) (fun vs H Q E h => ?_) (fun cdv A outer s H vs Q E hr h => ?_)
  · obtain ⟨R, o, T, C, c, rfl, _⟩ := h; rfl
  · obtain ⟨R, o, T, C, c, rfl, ho, hc, q⟩ := h
    obtain ⟨dx, f, b, h1, h2, h3⟩ := ho.ex
    refine ⟨_, pss_one (ps_if (pt_cmp (pc_dnotin (hu_of hr) (pv 1) (pe_pr pC hr (by decide) (pv 0)))) pss_never pss_nil), ?_⟩
    refine ⟨_, rfl, _, rfl, o, dx, _, rfl, h1, R, o, T, C, rfl, ho, fun p hp => ⟨p, _, rfl, DGet.k (k := .inr c) upd_same, _, rfl, ?_⟩⟩
    rw [val_c hc]
    exact iteF (q _ (Same.upd hp))
def spValPair (K : PySem.W.Frag) : Sp := fun vs H Q _ => ∃ R o T C c t, vs = [.ref o, .str c, .str t] ∧ OffAt K H R o T C ∧ c ∈ C ∧ t ∈ T ∧ ∀ H', Same H H' → Q .non H'
theorem ok_valPair (F : Df K "validate_pair" "validate_pair" sValPair f) (hm : mg "validate_pair" = some (.ref f)) (Tx : Txt K mg) (pT : Pro P w K mg base 1 (cOff K) "things" (spOffThings K)) (cV : C8.Cal P w K mg base 3 "validate_claim" (spValClaim K) []) :
    C8.Cal P w K mg base 4 "validate_pair" (spValPair K) [] := by
  refine F.cal hm sc_valPair (fun _ _ _ _ _ _ us hl => match us, hl with | [_, _, _], _ => rfl) (fun vs H Q E h => ?_) (fun cdv A outer s H vs Q E hr h => ?_)
  · obtain ⟨R, o, T, C, c, t, rfl, _⟩ := h; rfl
  · obtain ⟨R, o, T, C, c, t, rfl, ho, hc, ht, q⟩ := h
    obtain ⟨dx, f, b, h1, h2, h3⟩ := ho.ex
    refine ⟨_, pss_cons (ps_expr (C8.pe_c cV hr (by decide) (by rfl) (pa_cons (pv 0) (pa_cons (pv 1) pa_nil)))) (pss_one (ps_if (pt_cmp (pc_dnotin (hu_of hr) (pv 2) (pe_pr pT hr (by decide) (pv 0)))) pss_never pss_nil)), ?_⟩
    refine ⟨_, rfl, _, rfl, R, o, T, C, c, rfl, ho, hc, fun H1 s1 => ?_⟩
    refine ⟨_, rfl, _, rfl, o, dx, _, rfl, s1 _ _ h1, R, o, T, C, rfl, ho.same s1, fun p hp => ⟨p, _, rfl, DGet.k (k := .inr t) upd_same, _, rfl, ?_⟩⟩
    rw [val_t ht]
    exact iteF (q _ (Same.upd' s1 hp))
def spValLabel (K : PySem.W.Frag) : Sp := fun vs H Q _ => ∃ R o T C l, vs = [.ref o, .str l] ∧ OffAt K H R o T C ∧ (l ∈ T ∨ l ∈ C) ∧ Q .non H
theorem ok_valLabel (F : Df K "validate_label" "validate_label" sValLabel f) (hm : mg "validate_label" = some (.ref f)) (Tx : Txt K mg) (cO : SpM P w K mg base 1 (cOff K) "__contains__" (spOffContains K)) :
    C8.Cal P w K mg base 3 "validate_label" (spValLabel K) [] := by
  refine F.cal hm sc_valLabel (fun _ _ _ _ _ _ us hl => match us, hl with | [_, _], _ => rfl) (fun vs H Q E h => ?_) (fun cdv A outer s H vs Q E hr h => ?_)
  · obtain ⟨R, o, T, C, l, rfl, _⟩ := h; rfl
  · obtain ⟨R, o, T, C, l, rfl, ho, hl, q⟩ := h
    obtain ⟨dx, f, b, h1, h2, h3⟩ := ho.ex
    refine ⟨_, pss_one (ps_if (pt_cmpR (op_notInM cO hr (by decide)) (pv 1) (pv 0) rfl) pss_never pss_nil), ?_⟩
    exact ⟨_, rfl, _, rfl, o, dx, _, rfl, h1, R, o, T, C, l, rfl, ho, hl, _, rfl, _, rfl, iteF q⟩

def spCandidates (K : PySem.W.Frag) : Sp := fun vs H Q _ => ∃ R o T C l, vs = [.ref o, .str l] ∧ OffAt K H R o T C ∧ (l ∈ T ∨ l ∈ C) ∧ ∀ D H', Same H H' → H' D = some (.lst ((cands R T C l).map V.str)) → Q (.ref D) H'
theorem ok_candidates (F : Df K "candidates" "candidates" sCandidates f) (hm : mg "candidates" = some (.ref f)) (Tx : Txt K mg) (pT : Pro P w K mg base 1 (cOff K) "things" (spOffThings K)) (pC : Pro P w K mg base 1 (cOff K) "claims" (spOffClaims K))
    (cV : C8.Cal P w K mg base 3 "validate_label" (spValLabel K) []) (cF : C8.Cal P w K mg base 6 "fitting_things" (spFitThings K) []) (cI : C8.Cal P w K mg base 5 "is_fitting" (spIsFitting K) []) : C8.Cal P w K mg base 7 "candidates" (spCandidates K) [] := by
  refine F.cal hm sc_candidates (fun _ _ _ _ _ _ us hl => match us, hl with | [_, _], _ => rfl) (fun vs H Q E h => ?_) (fun cdv A outer s H vs Q E hr h => ?_)
  · obtain ⟨R, o, T, C, l, rfl, _⟩ := h; rfl
  · obtain ⟨R, o, T, C, l, rfl, ho, hl, q⟩ := h
    obtain ⟨dx, f, b, h1, h2, h3⟩ := ho.ex
    refine ⟨_, pss_cons (ps_expr (C8.pe_c cV hr (by decide) (by rfl) (pa_cons (pv 0) (pa_cons (pv 1) pa_nil))))
      (pss_cons (ps_if (pt_cmp (pc_din (hu_of hr) (pv 1) (pe_pr pC hr (by decide) (pv 0)))) (pss_one (ps_ret (C8.pe_c cF hr (by decide) (by rfl) (pa_cons (pv 0) (pa_cons (pv 1) pa_nil))))) pss_nil)
      (pss_one (ps_ret (pe_lc (own := [("claim", 2), ("lost", 3)]) rfl sc_candidates.nd (pi_items (pe_frz (pe_pr pC hr (by decide) (pv 0)))) (blkOk_by (N := nm_candidates) (sc := defScope sCandidates) (by decide +kernel)) (fun _ _ _ _ _ => pg_n2 K (i := 2) (j := 3) rfl rfl sc_candidates.nd rfl rfl (Or.inl rfl) (Or.inl rfl) (Or.inr rfl) (Or.inr rfl))
        (fun _ _ _ _ _ => pts_one (pt_val (C8.pe_c cI hr (by decide) (by rfl) (pa_cons (pv 3) (pa_cons (pe_dget (hu_of hr) (pe_pr pT hr (by decide) (pv 0)) (pv 1) (fun _ _ => rfl)) pa_nil))))) (fun _ _ _ _ _ => pv 2))))), ?_⟩
    refine ⟨_, rfl, _, rfl, R, o, T, C, l, rfl, ho, hl, ?_⟩
    refine ⟨_, rfl, _, rfl, o, dx, _, rfl, h1, R, o, T, C, rfl, ho, fun p hp => ⟨p, _, rfl, DGet.k (k := .inr l) upd_same, _, rfl, ?_⟩⟩
    have s1 : Same H (upd H p (.dK (cKvs R C))) := Same.upd hp
    by_cases hc : l ∈ C
    · rw [val_c hc]
      refine iteT ⟨_, rfl, _, rfl, R, o, T, C, l, rfl, ho.same s1, hc, fun D H' s' _ hD => ?_⟩
      exact q D H' (s1.trans s') (by unfold cands; rw [if_pos hc]; exact hD)
    · rw [val_cN hc]
      have ht : l ∈ T := hl.resolve_right hc
      refine iteF ?_
      refine ⟨_, rfl, o, dx, _, rfl, s1 _ _ h1, R, o, T, C, rfl, ho.same s1, fun p1 hp1 => ⟨p1, _, rfl, upd_same, trivial, fun od => ⟨p1, od, _, rfl, upd_same, fun D hD => ?_⟩⟩⟩
      have s0 : Same H (upd (upd (upd H p (.dK (cKvs R C))) p1 (.dK (cKvs R C))) p1 (.frz od (.dK (cKvs R C)))) := s1.trans (Same.fz hp1)
      refine lc_it walk_items (PvS _ D (outF C (fun c => fitR R c l) V.str)) (.zero hD outF_zero) (fun i H2 _ z => z.1 _ _ upd_same) ?_ ?_
      · rintro i v H2 H3 hi ⟨z1, z2⟩ ⟨T', k, u, rfl, hT', rfl, hk, hu⟩
        obtain ⟨c, hcg, hlk, hlu⟩ := item_get (g := fun l => .ref (R.ca l)) hk hu
        subst hlk; subst hlu
        have s2 : Same H (upd H2 T' (.tup [.str c, .ref (R.ca c)])) := Same.upd' (s0.trans z1) hT'
        refine ⟨T', _, rfl, SqT.of upd_same, rfl, _, _, rfl, _, _, rfl, rfl, rfl, ?_⟩
        refine ⟨_, rfl, _, rfl, o, dx, _, rfl, s2 _ _ h1, R, o, T, C, rfl, ho.same s2, fun p2 hp2 => ?_⟩
        have s3 := Same.upd' (o := .dK (tKvs R T)) s2 hp2
        refine ⟨_, rfl, p2, .ref (R.ta l), rfl, val_t (R := R) ht ▸ DGet.k (k := .inr l) upd_same, ?_⟩
        refine ⟨R, c, l, rfl, (ho.cl c (mem_of_get hcg)).same s3, (ho.th l ht).same s3, ho.cat.same s3, ho.fs.2.1, fun H4 s4 => ⟨_, rfl, ?_⟩⟩
        have z3 : H4 D = some (.lst (outF C (fun c => fitR R c l) V.str i)) := s4 _ _ (upd_keep (upd_keep z2 hT') hp2)
        have s5 := (Same.upd' (o := .dK (tKvs R T)) (Same.upd' (o := .tup [.str c, .ref (R.ca c)]) z1 hT') hp2).trans s4
        by_cases hf : fitR R c l = true
        · rw [hf]
          exact iteT ⟨_, rfl, PvS.add hD s5 z3 (outF_len (by have := ho.lab.clen; omega)) (outF_yes hcg hf)⟩
        · rw [show fitR R c l = false by simpa using hf]
          exact iteF (.skip s5 z3 (outF_no hcg (by simpa using hf)))
      · rintro H2 ⟨z1, z2⟩
        rw [outF_all _ (by unfold cKvs; simp)] at z2
        exact q D _ (s0.trans z1) (by unfold cands; rw [if_neg hc]; exact z2)

def spLonely (K : PySem.W.Frag) : Sp := fun vs H Q _ => ∃ R o T C, vs = [.ref o] ∧ OffAt K H R o T C ∧ ∀ D H' (ws : List Str), Same H H' → H' D = some (.lst (ws.map V.str)) → (∀ l, l ∈ ws ↔ (l ∈ T ∨ l ∈ C) ∧ cands R T C l = []) → Q (.ref D) H'
theorem ok_lonely (F : Df K "lonely" "lonely" sLonely f) (hm : mg "lonely" = some (.ref f)) (Tx : Txt K mg) (pT : Pro P w K mg base 1 (cOff K) "things" (spOffThings K)) (pC : Pro P w K mg base 1 (cOff K) "claims" (spOffClaims K))
    (cC : C8.Cal P w K mg base 7 "candidates" (spCandidates K) []) : C8.Cal P w K mg base 8 "lonely" (spLonely K) [] := by
  refine F.cal hm sc_lonely (fun _ _ _ _ _ _ us hl => match us, hl with | [_], _ => rfl) (fun vs H Q E h => ?_) (fun cdv A outer s H vs Q E hr h => ?_)
  · obtain ⟨R, o, T, C, rfl, _⟩ := h; rfl
  · obtain ⟨R, o, T, C, rfl, ho, q⟩ := h
    obtain ⟨dx, f, b, h1, h2, h3⟩ := ho.ex
    refine ⟨_, pss_one (ps_ret (pe_lc (own := [("label", 1)]) rfl sc_lonely.nd (pi_list (pe_callB cr_sortedS (by rfl) Tx.sorted boot_sorted (pa_cons (pe_lst (pa_starD rfl (pe_pr pT hr (by decide) (pv 0)) (pa_starD rfl (pe_pr pC hr (by decide) (pv 0)) pa_nil))) pa_nil)))
      (blkOk_by (N := nm_lonely) (sc := defScope sLonely) (by decide +kernel)) (fun _ _ _ _ _ => pg_name (i := 1) sc_lonely.nd rfl (Or.inl rfl)) (fun _ _ _ _ _ => pts_one (pt_cmpR (op_eqK K rfl hr.units) (C8.pe_c cC hr (by decide) (by rfl) (pa_cons (pv 0) (pa_cons (pv 1) pa_nil))) (pe_lst pa_nil) (nomark _))) (fun _ _ _ _ _ => pv 1))), ?_⟩
    refine ⟨_, rfl, o, dx, _, rfl, h1, R, o, T, C, rfl, ho, fun p hp => ⟨p, _, rfl, .inl upd_same, ?_⟩⟩
    have s1 : Same H (upd H p (.dK (tKvs R T))) := Same.upd hp
    refine ⟨_, rfl, o, dx, _, rfl, s1 _ _ h1, R, o, T, C, rfl, ho.same s1, fun p1 hp1 => ⟨p1, _, rfl, .inl upd_same, ?_⟩⟩
    have s2 := Same.upd' (o := .dK (cKvs R C)) s1 hp1
    have hk : (tKvs R T).map (fun kv => kV kv.1) ++ ((cKvs R C).map (fun kv => kV kv.1) ++ []) = (T ++ C).map V.str := by
      unfold tKvs cKvs; simp [kV, Function.comp_def]
    have h1l := ho.lab.tlen
    have h2l := ho.lab.clen
    refine ⟨by show (_ ++ (_ ++ [])).length ≤ _; rw [hk, sizeLine_eq]; simp; omega, fun p2 hp2 => ?_⟩
    have s3 := Same.upd' (o := .lst ((tKvs R T).map (fun kv => kV kv.1) ++ ((cKvs R C).map (fun kv => kV kv.1) ++ []))) s2 hp2
    refine ⟨p2, T ++ C, rfl, SqL.of (hk ▸ upd_same), by simp; omega, fun ys p3 hperm _ hp3 => ?_⟩
    have s4 := Same.upd' (o := .lst (ys.map V.str)) s3 hp3
    refine ⟨p3, rfl, ⟨_, SqL.of upd_same⟩, fun D hD => ?_⟩
    have hys : ys.length ≤ 10 := by rw [hperm.length_eq]; simp; omega
    refine lc_it (walk_list (xs := ys.map V.str)) (PvS _ D (outF ys (fun l => (cands R T C l).isEmpty) V.str)) (.zero hD outF_zero) (fun i H2 _ z => SqL.of (z.1 _ _ upd_same)) ?_ ?_
    · rintro i v H2 H3 hi ⟨z1, z2⟩ ⟨rfl, hv⟩
      obtain ⟨l, hl, rfl⟩ := get_map hv
      have hmem : l ∈ T ∨ l ∈ C := List.mem_append.mp (hperm.subset (mem_of_get hl))
      refine ⟨rfl, _, rfl, _, rfl, R, o, T, C, l, rfl, ho.same (s4.trans z1), hmem, fun D2 H4 s5 hD2 => ?_⟩
      refine ⟨by show 0 ≤ sizeLine; decide, fun p5 hp5 => ?_⟩
      have hw : ∀ x ∈ cands R T C l, wordOk x := by
        intro x hx
        unfold cands at hx
        split at hx
        · exact words_tL x (ho.lab.t.subset (List.mem_filter.mp hx).1)
        · exact words_cL x (ho.lab.c.subset (List.mem_filter.mp hx).1)
      refine ⟨.list ((cands R T C l).map PyData.str), .list [], .lst (SqL.of (by rw [upd_ne (ne_of_none hD2 hp5)]; exact hD2)) (dp_strs _), .lst (SqL.of upd_same) .nil, shaped_strs hw, rfl, _, rfl, ?_⟩
      rw [eqv_nilL]
      have z3 := Same.upd' (o := .lst []) (z1.trans s5) hp5
      have z4 : upd H4 p5 (.lst []) D = some (.lst (outF ys (fun l => (cands R T C l).isEmpty) V.str i)) := by rw [upd_ne (ne_of_none (s5 _ _ z2) hp5)]; exact s5 _ _ z2
      by_cases he : (cands R T C l).isEmpty = true
      · rw [he]
        exact iteT ⟨_, rfl, PvS.add hD z3 z4 (outF_len (by omega)) (outF_yes hl he)⟩
      · rw [show (cands R T C l).isEmpty = false by simpa using he]
        exact iteF (.skip z3 z4 (outF_no hl (by simpa using he)))
    · rintro H2 ⟨z1, z2⟩
      rw [outF_all _ (by simp)] at z2
      refine q D _ _ (s4.trans z1) z2 fun l => ?_
      rw [List.mem_filter, List.isEmpty_iff, hperm.mem_iff, List.mem_append]
end
end Lk
/-! Ku2 -/
namespace Lk
open PySem PySem.Spec PyProof.Rows L2
theorem pi_listK (Kf : PySem.W.Frag) {X : Cx} {tg l : Expr} {tl : TE} (h : X.K = Kf) (hl : PE X l tl) : PI X tg l (iList Kf tl) := by subst h; exact pi_list hl
theorem pi_tupK (Kf : PySem.W.Frag) {X : Cx} {tg l : Expr} {tl : TE} (h : X.K = Kf) (hl : PE X l tl) : PI X tg l (iTup Kf tl) := by subst h; exact pi_tup hl
/-- the inner walk of a comprehension with two for -/
theorem walk_any {J : It} {n : Nat} {G : Hp → Prop} {Y : Nat → Hp → V → Hp → Prop} (w : Walk J n G Y) {B : (Hp → Prop) → V → Hp → Prop} {H0 : Hp} {Nx : Hp → Prop} (Pv : Nat → Hp → Prop) (h0 : Pv 0 H0) (hG : ∀ i H, i ≤ n → Pv i H → G H)
    (hs : ∀ i x H H', i < n → Pv i H → Y i H x H' → B (Pv (i + 1)) x H') (hd : ∀ H, Pv n H → Nx H) :
    ∃ W : Nat → Nat → Hp → Prop, (∃ m, W 0 m H0) ∧ ∀ i m H, W i m H → (J.stop i H ∧ Nx H) ∨ (J.go i H ∧ ∃ N : Hp → Prop, (∀ H', N H' → ∃ m', m' < m ∧ W (i + 1) m' H') ∧ ∀ x H', J.yld i H x H' → B N x H') := by
  refine ⟨fun i m H => m = n - i ∧ i ≤ n ∧ Pv i H, ⟨n, by simp, Nat.zero_le _, h0⟩, ?_⟩
  rintro i m H ⟨rfl, hi, p⟩
  have q := hG i H hi p
  by_cases hlt : i < n
  · exact .inr ⟨w.goes i H hlt q, Pv (i + 1), fun H' p' => ⟨n - (i + 1), by omega, rfl, hlt, p'⟩, fun x H' y => hs i x H H' hlt p (w.yields i H x H' hlt q y)⟩
  · have e : i = n := by omega
    subst e
    exact .inl ⟨w.stops H q, hd H p⟩
theorem gen_seq {t u : TS} {D : Ends} {σ : L2.St} {H0 : Hp} (φ : Hp → Prop) (h0 : φ H0) (h : ∀ H, φ H → tSeq t u D σ H) : tSeq t u D σ H0 := h H0 h0
/-- lists of texts, each at its place -/
structure ListsAt (H : Hp) (F : Addr) (gs : List (List Str)) : Prop where
  ex : ∃ L : List (Addr × List Str), H F = some (.lst (L.map fun p => V.ref p.1)) ∧ L.map (·.2) = gs ∧ ∀ p ∈ L, H p.1 = some (.lst (p.2.map V.str))
theorem ListsAt.same {H H' : Hp} {F : Addr} {gs : List (List Str)} (h : ListsAt H F gs) (s : Same H H') : ListsAt H' F gs := by
  obtain ⟨L, h1, h2, h3⟩ := h.ex
  exact ⟨L, s _ _ h1, h2, fun p hp => s _ _ (h3 p hp)⟩
/-- a growing list of lists at D -/
def Grow (Hc : Hp) (D : Addr) (gs : List (List Str)) (H : Hp) : Prop := Same Hc H ∧ ∃ M : List (Addr × List Str), H D = some (.lst (M.map fun p => V.ref p.1)) ∧ M.map (·.2) = gs ∧ ∀ p ∈ M, p.1 ≠ D ∧ H p.1 = some (.lst (p.2.map V.str))
theorem Grow.later {Hc H H' : Hp} {D : Addr} {gs : List (List Str)} (h : Grow Hc D gs H) (s : Same H H') : Grow Hc D gs H' := by
  obtain ⟨h0, M, h1, h2, h3⟩ := h
  exact ⟨h0.trans s, M, s _ _ h1, h2, fun p hp => ⟨(h3 p hp).1, s _ _ (h3 p hp).2⟩⟩
theorem Grow.zero {Hc : Hp} {D : Addr} (hD : Hc D = none) : Grow Hc D [] (upd Hc D (.lst [])) := ⟨Same.upd hD, [], upd_same, rfl, fun p hp => by cases hp⟩
theorem Grow.add {Hc H : Hp} {D p : Addr} {gs : List (List Str)} {g : List Str} {zs : List V} (hD : Hc D = none) (h : Grow Hc D gs H) (hp : H p = none) (hz : zs = g.map V.str) (hl : gs.length ≤ 100000) :
    ∃ acc, upd H p (.lst zs) D = some (.lst acc) ∧ acc.length < sizeLine ∧ Grow Hc D (gs ++ [g]) (upd (upd H p (.lst zs)) D (.lst (acc ++ [.ref p]))) := by
  subst hz
  obtain ⟨h0, M, h1, h2, h3⟩ := h
  have hDp : D ≠ p := ne_of_none h1 hp
  refine ⟨M.map fun p => V.ref p.1, upd_keep h1 hp, ?_, Same.updN (Same.upd' h0 hp) hD, M ++ [(p, g)], by rw [upd_same]; simp, by simp [h2], fun q hq => ?_⟩
  · have : M.length = gs.length := by rw [← h2]; simp
    rw [List.length_map, sizeLine_eq]; omega
  · rcases List.mem_append.mp hq with z | z
    · obtain ⟨a1, a2⟩ := h3 q z
      exact ⟨a1, by rw [upd_ne a1]; exact upd_keep a2 hp⟩
    · rw [List.mem_singleton.mp z]
      exact ⟨hDp.symm, by rw [upd_ne hDp.symm]; exact upd_same⟩
theorem Grow.lists {Hc H : Hp} {D : Addr} {gs : List (List Str)} (h : Grow Hc D gs H) : ListsAt H D gs := by
  obtain ⟨h0, M, h1, h2, h3⟩ := h
  exact ⟨M, h1, h2, fun p hp => (h3 p hp).2⟩
theorem atI_last {s : List Str} {y : Str} (h : s.getLast? = some y) : atI (s.map V.str) (-1) = some (.str y) := by
  obtain ⟨ys, rfl⟩ := List.getLast?_eq_some_iff.mp h
  unfold atI
  have e : ixN ((ys ++ [y]).map V.str).length (-1) = some ys.length := by
    unfold ixN
    rw [if_neg (by decide)]
    simp
    omega
  rw [e]
  simp
theorem flat_take {α β : Type} {xs : List α} {f : α → List β} {i : Nat} {x : α} (h : xs[i]? = some x) : (xs.take (i + 1)).flatMap f = (xs.take i).flatMap f ++ f x := by
  rw [List.take_add_one, h, List.flatMap_append]; simp
def strLt (x y : Str) : Bool := decide (x.cps.toList < y.cps.toList)
def chOk (s : List Str) (x : Str) : Bool := match s.getLast? with | none => true | some y => strLt y x
def ext (items s : List Str) : List (List Str) := (items.filter (chOk s)).map fun x => s ++ [x]
def chs (items : List Str) : Nat → List (List Str)
  | 0 => [[]]
  | k + 1 => (chs items k).flatMap (ext items)
theorem chs_sub {items : List Str} : ∀ (k : Nat) (g : List Str), g ∈ chs items k → g.length = k ∧ ∀ x ∈ g, x ∈ items
  | 0, g, h => by
    have : g = [] := List.mem_singleton.mp h
    subst this
    exact ⟨rfl, fun x hx => by cases hx⟩
  | k + 1, g, h => by
    obtain ⟨s, hs, h2⟩ := List.mem_flatMap.mp h
    obtain ⟨x, hx, rfl⟩ := List.mem_map.mp h2
    obtain ⟨i1, i2⟩ := chs_sub k s hs
    refine ⟨by simp [i1], fun y hy => ?_⟩
    rcases List.mem_append.mp hy with z | z
    · exact i2 y z
    · rw [List.mem_singleton.mp z]; exact (List.mem_filter.mp hx).1
theorem chs_asc {items : List Str} : ∀ (k : Nat) (g : List Str), g ∈ chs items k → asc g
  | 0, g, h => by
    have : g = [] := List.mem_singleton.mp h
    subst this
    exact List.Pairwise.nil
  | k + 1, g, h => by
    obtain ⟨s, hs, h2⟩ := List.mem_flatMap.mp h
    obtain ⟨x, hx, rfl⟩ := List.mem_map.mp h2
    have ih := chs_asc k s hs
    have ok := (List.mem_filter.mp hx).2
    unfold asc
    rw [List.pairwise_append]
    refine ⟨ih, List.pairwise_singleton _ _, fun a ha b hb => ?_⟩
    rw [List.mem_singleton.mp hb]
    unfold chOk at ok
    cases e : s.getLast? with
    | none => rw [List.getLast?_eq_none_iff.mp e] at ha; cases ha
    | some y =>
      rw [e] at ok
      have lt : y.cps.toList < x.cps.toList := of_decide_eq_true ok
      obtain ⟨ys, rfl⟩ : ∃ ys, s = ys ++ [y] := by
        obtain ⟨ys, h⟩ := List.getLast?_eq_some_iff.mp e
        exact ⟨ys, h⟩
      rcases List.mem_append.mp ha with z | z
      · have h3 : a.cps.toList < y.cps.toList := (List.pairwise_append.mp ih).2.2 a z y (List.mem_singleton.mpr rfl)
        exact List.lt_trans h3 lt
      · rw [List.mem_singleton.mp z]; exact lt
theorem asc_nodup {g : List Str} (h : asc g) : g.Nodup := h.imp fun {a b} hab e => by
  rw [e] at hab
  exact List.lt_irrefl _ hab
/-- every rising part is there -/
theorem chs_all {items : List Str} : ∀ (k : Nat) (g : List Str), g.length = k → asc g → (∀ x ∈ g, x ∈ items) → g ∈ chs items k
  | 0, g, hl, _, _ => by rw [List.length_eq_zero_iff.mp hl]; exact List.mem_singleton.mpr rfl
  | k + 1, g, hl, ha, hs => by
    have hne : g ≠ [] := fun e => by rw [e] at hl; cases hl
    obtain ⟨s, x, rfl⟩ : ∃ s x, g = s ++ [x] := ⟨g.dropLast, g.getLast hne, (List.dropLast_concat_getLast hne).symm⟩
    have ih := chs_all k s (by simpa using hl) (List.pairwise_append.mp ha).1 fun y hy => hs y (List.mem_append_left _ hy)
    refine List.mem_flatMap.mpr ⟨s, ih, List.mem_map.mpr ⟨x, List.mem_filter.mpr ⟨hs x (List.mem_append_right _ (List.mem_singleton.mpr rfl)), ?_⟩, rfl⟩⟩
    unfold chOk
    cases e : s.getLast? with
    | none => rfl
    | some y =>
      have hy : y ∈ s := List.mem_of_getLast? e
      exact decide_eq_true ((List.pairwise_append.mp ha).2.2 y hy x (List.mem_singleton.mpr rfl))
theorem ext_len {items s : List Str} (h : items.length ≤ 5) : (ext items s).length ≤ 5 := by
  unfold ext
  rw [List.length_map]
  exact Nat.le_trans (List.length_filter_le _ _) h
theorem flat_len {items : List Str} (h : items.length ≤ 5) : ∀ L : List (List Str), (L.flatMap (ext items)).length ≤ 5 * L.length
  | [] => by simp
  | s :: L => by
    have i1 := flat_len h L
    have i2 := ext_len (s := s) h
    rw [List.flatMap_cons, List.length_append, List.length_cons]; omega
theorem chs_len {items : List Str} (h : items.length ≤ 5) : ∀ k, (chs items k).length ≤ 5 ^ k
  | 0 => by simp [chs]
  | k + 1 => by
    have i1 := chs_len h k
    have i2 := flat_len h (chs items k)
    show ((chs items k).flatMap (ext items)).length ≤ 5 ^ (k + 1)
    rw [Nat.pow_succ]; omega
/-- the dict of the things that fit -/
def tru (ks : List Str) : List (Key × V) := ks.map fun x => (.inr x, .bl true)
theorem put_tru (ks : List Str) (x : Str) : putK (tru ks) (.inr x) (.bl true) = tru (Ld.addK ks x) := by
  unfold Ld.addK
  by_cases h : x ∈ ks
  · rw [if_pos h]
    unfold putK
    have ha : ((tru ks).any fun kv => decide (kv.1 = Sum.inr x)) = true := by
      unfold tru
      rw [List.any_map, List.any_eq_true]
      exact ⟨x, h, by simp⟩
    rw [if_pos ha]
    unfold tru
    rw [List.map_map]
    refine List.map_congr_left fun y _ => ?_
    show (if (Sum.inr y : Key) = .inr x then ((Sum.inr y : Key), V.bl true) else (.inr y, .bl true)) = _
    split <;> rfl
  · rw [if_neg h]
    have hv : valV (tru ks) (.inr x) = none := by unfold tru; rw [val_map (fun _ => .bl true), if_neg h]
    rw [putK_new _ hv]
    unfold tru; simp
theorem addK_len {ks : List Str} {x : Str} : (Ld.addK ks x).length ≤ ks.length + 1 := by
  unfold Ld.addK; split
  · omega
  · simp
end Lk
/-! Kd7 -/
namespace Lk
open PySem PySem.Spec PyProof.Rows L2
/-- the inner block's surroundings in rivals -/
abbrev rivScope : Scope := { kind := ScopeKind.function, names := [(".0", .local), ("other", .local), ("fitting_things", .globalImplicit), ("office", .cell), ("things", .cell)], isGenerator := false, isCoroutine := false }
section
variable {P : Program} {w : World} {K : PySem.W.Frag} {mg : Str → Option Value} {base : Heap} {f : Addr}
theorem sc_rivals : FnScope ["office", "claim", "things", "others", "other", "thing"] ["office", "claim"] (defScope sRivals) := ⟨rfl, rfl, rfl, by decide +kernel, rfl, by decide +kernel, by decide +kernel⟩
abbrev nm_rivals : List Str := ["office", "claim", "things", "others", "other", "thing"]
theorem sc_choices : FnScope ["items", "size", "found", "turn", "some", "item"] ["items", "size"] (defScope sChoices) := ⟨rfl, rfl, rfl, by decide +kernel, rfl, by decide +kernel, by decide +kernel⟩
abbrev nm_choices : List Str := ["items", "size", "found", "turn", "some", "item"]
theorem sc_shortage : FnScope ["office", "claims", "things", "claim", "thing"] ["office", "claims"] (defScope sShortage) := ⟨rfl, rfl, rfl, by decide +kernel, rfl, by decide +kernel, by decide +kernel⟩
abbrev nm_shortage : List Str := ["office", "claims", "things", "claim", "thing"]
theorem sc_shortGroup : FnScope ["office", "claims", "size", "some"] ["office"] (defScope sShortGroup) := ⟨rfl, rfl, rfl, by decide +kernel, rfl, by decide +kernel, by decide +kernel⟩
abbrev nm_shortGroup : List Str := ["office", "claims", "size", "some"]
theorem sc_shownGroup : FnScope ["office", "claims", "index", "claim"] ["office", "claims"] (defScope sShownGroup) := ⟨rfl, rfl, rfl, by decide +kernel, rfl, by decide +kernel, by decide +kernel⟩
abbrev nm_shownGroup : List Str := ["office", "claims", "index", "claim"]
def spRivals (K : PySem.W.Frag) : Sp := fun vs H Q _ => ∃ R o T C c, vs = [.ref o, .str c] ∧ OffAt K H R o T C ∧ c ∈ C ∧ ∀ D H' (ws : List Str), Same H H' → H' D = some (.lst (ws.map V.str)) → c ∉ ws → Q (.ref D) H'
theorem ok_rivals (F : Df K "rivals" "rivals" sRivals f) (hm : mg "rivals" = some (.ref f)) (Tx : Txt K mg) (pC : Pro P w K mg base 1 (cOff K) "claims" (spOffClaims K))
    (cV : C8.Cal P w K mg base 3 "validate_claim" (spValClaim K) []) (cF : C8.Cal P w K mg base 6 "fitting_things" (spFitThings K) []) : C8.Cal P w K mg base 7 "rivals" (spRivals K) [] := by
  refine F.cal hm sc_rivals (fun _ _ _ _ _ _ us hl => match us, hl with | [_, _], _ => rfl) (fun vs H Q E h => ?_) (fun cdv A outer s H vs Q E hr h => ?_)
  · obtain ⟨R, o, T, C, c, rfl, _⟩ := h; rfl
  · obtain ⟨R, o, T, C, c, rfl, ho, hc, q⟩ := h
    obtain ⟨dx, f, b, h1, h2, h3⟩ := ho.ex
    refine ⟨_, pss_cons (ps_expr (C8.pe_c cV hr (by decide) (by rfl) (pa_cons (pv 0) (pa_cons (pv 1) pa_nil))))
      (pss_cons (ps_set sc_rivals.nd (i := 2) rfl (Or.inr rfl) (C8.pe_c cF hr (by decide) (by rfl) (pa_cons (pv 0) (pa_cons (pv 1) pa_nil))))
      (pss_cons (ps_setLc (i := 3) (own := [("other", 4)]) (by rfl) sc_rivals.nd rfl rfl (sw_true rfl rfl rfl (by decide +kernel)) (pi_keys (pe_frz (pe_pr pC hr (by decide) (pv 0)))) (blkOk_by (N := nm_rivals) (sc := defScope sRivals) (by decide +kernel)) (fun _ _ _ _ _ => pg_name (i := 4) sc_rivals.nd rfl (Or.inl rfl))
        (fun _ _ _ _ _ => pts_one (pt_cmpR op_ne (pv 4) (pv 1) (nomark _))) (fun _ _ _ _ _ => pv 4))
      (pss_one (ps_ret (pe_lc (own := [("other", 4)]) rfl sc_rivals.nd (pi_list (pv 3)) (blkOk_by (N := nm_rivals) (sc := defScope sRivals) (by decide +kernel)) (fun _ _ _ _ _ => pg_name (i := 4) sc_rivals.nd rfl (Or.inl rfl))
        (fun _ _ _ _ _ => pts_one (pt_cmpR (op_neK K rfl hr.units) (pe_lc (own := [("thing", 5)]) rfl sc_rivals.nd (pi_listK K rfl (C8.pe_c cF hr (by decide) (by rfl) (pa_cons (pv 0) (pa_cons (pv 4) pa_nil))))
            (blkOk_by (N := nm_rivals) (sc := rivScope) (by decide +kernel)) (fun _ _ _ _ _ => pg_name (i := 5) sc_rivals.nd rfl (Or.inl rfl)) (fun _ _ _ _ _ => pts_one (pt_cmpR (op_inK K rfl) (pv 5) (pv 2) rfl)) (fun _ _ _ _ _ => pv 5)) (pe_lst pa_nil) (nomark _)))
        (fun _ _ _ _ _ => pv 4)))))), ?_⟩
    refine ⟨_, rfl, _, rfl, R, o, T, C, c, rfl, ho, hc, fun H1 s1 => ?_⟩
    refine ⟨_, rfl, _, rfl, R, o, T, C, c, rfl, ho.same s1, hc, fun tD H2 s2 _ htD => ?_⟩
    have s02 := s1.trans s2
    refine ⟨_, rfl, o, dx, _, rfl, s02 _ _ h1, R, o, T, C, rfl, ho.same s02, fun p hp => ⟨p, _, rfl, upd_same, trivial, fun od => ⟨p, od, rfl, .inl ⟨_, upd_same, fun D hD => ?_⟩⟩⟩⟩
    have s3 : Same H2 (upd (upd H2 p (.dK (cKvs R C))) p (.frz od (.dK (cKvs R C)))) := Same.fz hp
    refine lc_it walk_keys (PvS _ D (outF C (fun x => !decide (x = c)) V.str)) (.zero hD outF_zero) (fun i H3 _ z => z.1 _ _ upd_same) ?_ ?_
    · rintro i v H3 H4 hi ⟨z1, z2⟩ ⟨rfl, k, u, hg, rfl⟩
      unfold cKvs at hg
      obtain ⟨x, hx, e⟩ := get_map hg
      cases e
      refine ⟨rfl, _, rfl, _, rfl, rfl, _, rfl, ?_⟩
      have ed : decide (V.str x = V.str c) = decide (x = c) := by simp
      show if (!decide (V.str x = V.str c)) = true then _ else _
      rw [ed]
      by_cases hxc : x = c
      · rw [decide_eq_true hxc]
        exact iteF (.skip z1 z2 (outF_no hx (by simp [hxc])))
      · rw [decide_eq_false hxc]
        exact iteT ⟨_, rfl, PvS.add hD z1 z2 (outF_len (by have := ho.lab.clen; omega)) (outF_yes hx (by simp [hxc]))⟩
    · rintro H3 ⟨z1, z2⟩
      rw [outF_all _ (by unfold cKvs; simp)] at z2
      have s4 := s02.trans (s3.trans z1)
      have htD3 := s3.trans z1 _ _ htD
      refine ⟨_, rfl, D, rfl, ⟨_, SqL.of z2⟩, fun D2 hD2 => ?_⟩
      refine lc_it (walk_list (xs := (C.filter fun x => !decide (x = c)).map V.str)) (fun i H' => Same H3 H' ∧ ∃ ws : List Str, H' D2 = some (.lst (ws.map V.str)) ∧ ws.length ≤ i ∧ c ∉ ws) ⟨Same.upd hD2, [], upd_same, Nat.le_refl _, fun h => by cases h⟩ (fun i H' _ z => SqL.of (z.1 _ _ z2)) ?_ ?_
      · rintro i v H4 H5 hi ⟨u1, ws, u2, u3, u4⟩ ⟨rfl, hv⟩
        obtain ⟨x, hx, rfl⟩ := get_map hv
        have hxC := List.mem_filter.mp (mem_of_get hx)
        have hxc : x ≠ c := by simpa using hxC.2
        have s5 := s4.trans u1
        refine ⟨rfl, _, rfl, _, rfl, R, o, T, C, x, rfl, ho.same s5, hxC.1, fun fD H6 s6 _ hfD => ⟨fD, rfl, ⟨_, SqL.of hfD⟩, fun D3 hD3 => ?_⟩⟩
        refine lc_it (walk_list (xs := (T.filter (fitR R x)).map V.str)) (PvS H6 D3 (outF (T.filter (fitR R x)) (fun t => decide (t ∈ T.filter (fitR R c))) V.str)) (.zero hD3 outF_zero) (fun i H' _ z => SqL.of (z.1 _ _ hfD)) ?_ ?_
        · rintro j v H7 H8 hj ⟨y1, y2⟩ ⟨rfl, hv⟩
          obtain ⟨t, ht, rfl⟩ := get_map hv
          refine ⟨rfl, _, rfl, _, rfl, tD, _, rfl, .inl (SqL.of (y1 _ _ (s6 _ _ (u1 _ _ htD3)))), rfl, flat_strs _, _, rfl, ?_⟩
          rw [inV_strs]
          have hlen : (T.filter (fitR R x)).length ≤ 100000 := Nat.le_trans (List.length_filter_le _ _) (by have := ho.lab.tlen; omega)
          by_cases hm : t ∈ T.filter (fitR R c)
          · rw [decide_eq_true hm]
            exact iteT ⟨_, rfl, PvS.add hD3 y1 y2 (outF_len hlen) (outF_yes ht (decide_eq_true hm))⟩
          · rw [decide_eq_false hm]
            exact iteF (.skip y1 y2 (outF_no ht (decide_eq_false hm)))
        · rintro H7 ⟨y1, y2⟩
          rw [outF_all _ (by simp)] at y2
          refine ⟨by show 0 ≤ sizeLine; decide, fun p3 hp3 => ?_⟩
          have hw : ∀ t ∈ (T.filter (fitR R x)).filter (fun t => decide (t ∈ T.filter (fitR R c))), wordOk t := fun t ht => words_tL t (ho.lab.t.subset (List.mem_filter.mp (List.mem_filter.mp ht).1).1)
          refine ⟨.list (((T.filter (fitR R x)).filter (fun t => decide (t ∈ T.filter (fitR R c)))).map PyData.str), .list [], .lst (SqL.of (upd_keep y2 hp3)) (dp_strs _), .lst (SqL.of upd_same) .nil, shaped_strs hw, rfl, _, rfl, ?_⟩
          rw [eqv_nilL]
          have s7 := Same.upd' (o := .lst []) ((u1.trans s6).trans y1) hp3
          have d7 : upd H7 p3 (.lst []) D2 = some (.lst (ws.map V.str)) := upd_keep (y1 _ _ (s6 _ _ u2)) hp3
          have hcl := ho.lab.clen
          have hi' : i < C.length := by
            have h9 : i < (C.filter fun x => !decide (x = c)).length := by simpa using hi
            exact Nat.lt_of_lt_of_le h9 (List.length_filter_le _ _)
          cases ((T.filter (fitR R x)).filter (fun t => decide (t ∈ T.filter (fitR R c)))).isEmpty with
          | true => exact iteF ⟨s7, ws, d7, by omega, u4⟩
          | false =>
            refine iteT ⟨_, rfl, ws.map V.str, d7, by rw [List.length_map, sizeLine_eq]; omega, Same.updN s7 hD2, ws ++ [x], by rw [upd_same]; simp, by simp; omega, fun hm => ?_⟩
            rcases List.mem_append.mp hm with z | z
            · exact u4 z
            · exact hxc (List.mem_singleton.mp z).symm
      · rintro H4 ⟨u1, ws, u2, u3, u4⟩
        exact q D2 H4 ws (s4.trans u1) u2 u4

def spChoices : Sp := fun vs H Q _ => ∃ (a : Addr) (items : List Str) (n : Nat), vs = [.ref a, .int n] ∧ H a = some (.lst (items.map V.str)) ∧ (∀ x ∈ items, wordOk x) ∧ items.length ≤ 5 ∧ n ≤ 5 ∧ ∀ F H', Same H H' → ListsAt H' F (chs items n) → Q (.ref F) H'
theorem ok_choices (F : Df K "choices" "choices" sChoices f) (hm : mg "choices" = some (.ref f)) (Tx : Txt K mg) : C8.Cal P w K mg base 1 "choices" spChoices [] := by
  refine F.cal hm sc_choices (fun _ _ _ _ _ _ us hl => match us, hl with | [_, _], _ => rfl) (fun vs H Q E h => ?_) (fun cdv A outer s H vs Q E hr h => ?_)
  · obtain ⟨a, items, n, rfl, _⟩ := h; rfl
  · obtain ⟨a, items, n, rfl, ha, hw, h5, hn, q⟩ := h
    refine ⟨_, pss_cons (ps_set sc_choices.nd (i := 2) rfl (Or.inl rfl) (pe_lst (pa_cons (pe_lst pa_nil) pa_nil)))
      (pss_cons (ps_for PassesOwn.never rfl (pi_range1 (by rfl) Tx.range (pa_cons (pv 1) pa_nil)) (pg_name (i := 3) sc_choices.nd rfl (Or.inl rfl))
        (pss_one (ps_setLc2 (i := 2) (own := [("some", 4), ("item", 5)]) (vs1 := [5]) (by rfl) sc_choices.nd rfl rfl (sw_true rfl rfl rfl (by decide +kernel)) (pi_list (pv 2)) (blkOk_by (N := nm_choices) (sc := defScope sChoices) (by decide +kernel)) (by decide) (fun _ _ _ _ _ => pg_name (i := 4) sc_choices.nd rfl (Or.inl rfl)) (fun _ _ _ _ _ => pts_nil)
          (fun _ _ _ _ _ => pi_listK K rfl (pv 0)) (fun _ _ _ _ _ => pg_name (i := 5) sc_choices.nd rfl (Or.inl rfl))
          (fun _ _ _ _ _ => pts_one (PW.pt (pw_or (pt_cmpR (op_eqK K rfl hr.units) (pv 4) (pe_lst pa_nil) (nomark _)) (pw_or1 (pt_cmpR op_gt_str (pv 5) (pe_ix (ix_listK K rfl) (pv 4) (pe_un un_neg pe_int) (fun _ _ => rfl)) (nomark _))))))
          (fun _ _ _ _ _ => pe_op op_cat (pv 4) (pe_lst (pa_cons (pv 5) pa_nil))))))
      (pss_one (ps_ret (pv 2)))), ?_⟩
    refine ⟨by show 0 ≤ sizeLine; decide, fun e he => ⟨by show 1 ≤ sizeLine; decide, fun F0 hF0 => ?_⟩⟩
    refine ⟨_, rfl, (n : Int), rfl, by omega, by omega, ?_⟩
    have s0 : Same H (upd (upd H e (.lst [])) F0 (.lst [.ref e])) := Same.upd' (Same.upd he) hF0
    refine for_it (walk_range (lo := 0) (n := (n : Int).toNat)) (fun i σ H' => Same H H' ∧ ∃ F x3, σ = [some (.ref a), some (.int n), some (.ref F), x3, none, none] ∧ ListsAt H' F (chs items i))
      ⟨s0, F0, _, rfl, [(e, [])], upd_same, rfl, fun p hp => by rw [List.mem_singleton.mp hp]; exact upd_keep upd_same hF0⟩ (fun _ _ _ _ _ => trivial) ?_ ?_
    · rintro i x σ H1 H2 hi ⟨s1, F, x3, rfl, hL⟩ ⟨rfl, rfl⟩
      obtain ⟨L, l1, l2, l3⟩ := hL.ex
      have hlen : (chs items i).length ≤ 3125 := Nat.le_trans (chs_len h5 i) (Nat.pow_le_pow_right (by decide) (show i ≤ 5 by omega))
      refine ⟨_, rfl, F, rfl, ⟨_, SqL.of l1⟩, fun D hD => ?_⟩
      refine walk_any (walk_list (xs := L.map fun p => V.ref p.1)) (fun j H' => Grow H2 D (((chs items i).take j).flatMap (ext items)) H') (.zero hD) (fun j H' _ z => SqL.of (z.1 _ _ l1)) ?_ ?_
      · rintro j v H3 H4 hj gr ⟨rfl, hv⟩
        obtain ⟨y, hy, rfl⟩ := get_map hv
        have hyL := mem_of_get hy
        have hg : (chs items i)[j]? = some y.2 := by rw [← l2, List.getElem?_map, hy]; rfl
        have hsub := (chs_sub i y.2 (mem_of_get hg)).2
        refine ⟨rfl, tyes ⟨_, rfl, a, rfl, ⟨_, SqL.of (gr.1 _ _ (s1 _ _ ha))⟩, ?_⟩⟩
        have htk : ((chs items i).take j).length ≤ (chs items i).length := by rw [List.length_take]; exact Nat.min_le_right _ _
        have hbase : (((chs items i).take j).flatMap (ext items)).length ≤ 5 * 3125 := Nat.le_trans (flat_len h5 _) (by omega)
        refine walk_any (walk_list (xs := items.map V.str)) (fun k H' => Grow H2 D (((chs items i).take j).flatMap (ext items) ++ ((items.take k).filter (chOk y.2)).map fun x => y.2 ++ [x]) H') (by simpa using gr) (fun k H' _ z => SqL.of (z.1 _ _ (s1 _ _ ha))) ?_ ?_
        · rintro k v H5 H6 hk gr2 ⟨rfl, hv⟩
          obtain ⟨x, hx, rfl⟩ := get_map hv
          have as1 : H6 y.1 = some (.lst (y.2.map V.str)) := gr2.1 _ _ (l3 y hyL)
          have hnew : (((items.take k).filter (chOk y.2)).map fun x => y.2 ++ [x]).length ≤ 5 := by
            rw [List.length_map]
            exact Nat.le_trans (List.length_filter_le _ _) (by rw [List.length_take]; omega)
          have hlen2 : (((chs items i).take j).flatMap (ext items) ++ ((items.take k).filter (chOk y.2)).map fun x => y.2 ++ [x]).length ≤ 100000 := by rw [List.length_append]; omega
          have hyes : chOk y.2 x = true → ((chs items i).take j).flatMap (ext items) ++ ((items.take (k + 1)).filter (chOk y.2)).map (fun x => y.2 ++ [x]) = (((chs items i).take j).flatMap (ext items) ++ ((items.take k).filter (chOk y.2)).map fun x => y.2 ++ [x]) ++ [y.2 ++ [x]] := fun ok => by
            rw [List.take_add_one, hx, List.filter_append]; simp [ok]
          have hno : chOk y.2 x = false → ((chs items i).take j).flatMap (ext items) ++ ((items.take (k + 1)).filter (chOk y.2)).map (fun x => y.2 ++ [x]) = ((chs items i).take j).flatMap (ext items) ++ ((items.take k).filter (chOk y.2)).map fun x => y.2 ++ [x] := fun ok => by
            rw [List.take_add_one, hx, List.filter_append]; simp [ok]
          refine ⟨rfl, _, rfl, by show 0 ≤ sizeLine; decide, fun p hp => ?_⟩
          refine ⟨.list (y.2.map PyData.str), .list [], .lst (SqL.of (upd_keep as1 hp)) (dp_strs _), .lst (SqL.of upd_same) .nil, shaped_strs fun z hz => hw z (hsub z hz), rfl, _, rfl, ?_⟩
          rw [eqv_nilL]
          have gr3 := gr2.later (Same.upd (o := .lst []) hp)
          have as2 : upd H6 p (.lst []) y.1 = some (.lst (y.2.map V.str)) := upd_keep as1 hp
          have hl8 : (y.2.map V.str).length + 1 ≤ sizeLine := by
            rw [List.length_map, (chs_sub i y.2 (mem_of_get hg)).1, sizeLine_eq]; omega
          cases e : y.2.getLast? with
          | none =>
            have hnil : y.2 = [] := List.getLast?_eq_none_iff.mp e
            have ok : chOk y.2 x = true := by unfold chOk; rw [e]
            rw [show y.2.isEmpty = true by rw [hnil]; rfl]
            refine iteT ⟨_, rfl, _, rfl, by show 1 ≤ sizeLine; decide, fun p2 hp2 => ⟨y.1, p2, _, _, rfl, rfl, upd_keep as2 hp2, upd_same, hl8, fun p3 hp3 => ?_⟩⟩
            rw [hyes ok]
            exact Grow.add hD (gr3.later (Same.upd hp2)) hp3 (by simp) hlen2
          | some z =>
            rw [show y.2.isEmpty = false by cases hh : y.2 with
              | nil => rw [hh] at e; cases e
              | cons _ _ => rfl]
            refine iteF ⟨_, rfl, _, rfl, 1, rfl, y.1, _, _, _, rfl, rfl, SqL.of as2, atI_last e, x, z, rfl, rfl, _, rfl, ?_⟩
            by_cases lt : z.cps.toList < x.cps.toList
            · have ok : chOk y.2 x = true := by unfold chOk; rw [e]; exact decide_eq_true lt
              rw [decide_eq_true lt]
              refine iteT ⟨_, rfl, _, rfl, by show 1 ≤ sizeLine; decide, fun p2 hp2 => ⟨y.1, p2, _, _, rfl, rfl, upd_keep as2 hp2, upd_same, hl8, fun p3 hp3 => ?_⟩⟩
              rw [hyes ok]
              exact Grow.add hD (gr3.later (Same.upd hp2)) hp3 (by simp) hlen2
            · have ok : chOk y.2 x = false := by unfold chOk; rw [e]; exact decide_eq_false lt
              rw [decide_eq_false lt]
              refine iteF ?_
              rw [hno ok]
              exact gr3
        · intro H5 gr2
          rw [List.length_map, List.take_length] at gr2
          rw [flat_take hg]
          exact gr2
      · intro H3 gr
        have hfull : (chs items i).take (L.map fun p => V.ref p.1).length = chs items i := by
          rw [List.length_map, ← l2, List.take_of_length_le (by simp)]
        rw [hfull] at gr
        exact ⟨s1.trans gr.1, D, _, rfl, gr.lists⟩
    · rintro σ H1 ⟨s1, F, x3, rfl, hL⟩
      rw [Int.toNat_natCast] at hL
      exact ⟨_, rfl, q F H1 s1 hL⟩
end
end Lk
/-! Kd8 -/
namespace Lk
open PySem PySem.Spec PyProof.Rows L2
abbrev tT (R : Rnd) (T : List Str) (c : Str) : List Str := T.filter (fitR R c)
abbrev shI (R : Rnd) (T : List Str) (g : List Str) : Int := Ld.shortI T (fitR R) g
section
variable {P : Program} {w : World} {K : PySem.W.Frag} {mg : Str → Option Value} {base : Heap} {f : Addr}
def spShortage (K : PySem.W.Frag) : Sp := fun vs H Q _ => ∃ R o T C a g, vs = [.ref o, .ref a] ∧ OffAt K H R o T C ∧ H a = some (.lst (g.map V.str)) ∧ (∀ c ∈ g, c ∈ C) ∧ g.length ≤ 1000 ∧ ∀ H', Same H H' → Q (.int (shI R T g)) H'
theorem ok_shortage (F : Df K "shortage" "shortage" sShortage f) (hm : mg "shortage" = some (.ref f)) (Tx : Txt K mg) (cF : C8.Cal P w K mg base 6 "fitting_things" (spFitThings K) []) : C8.Cal P w K mg base 7 "shortage" (spShortage K) [] := by
  refine F.cal hm sc_shortage (fun _ _ _ _ _ _ us hl => match us, hl with | [_, _], _ => rfl) (fun vs H Q E h => ?_) (fun cdv A outer s H vs Q E hr h => ?_)
  · obtain ⟨R, o, T, C, a, g, rfl, _⟩ := h; rfl
  · obtain ⟨R, o, T, C, a, g, rfl, ho, ha, hg, hl, q⟩ := h
    refine ⟨_, pss_cons (ps_set sc_shortage.nd (i := 2) rfl (Or.inl rfl) pe_dnewK)
      (pss_cons (ps_for PassesOwn.never rfl (pi_list (pv 1)) (pg_name (i := 3) sc_shortage.nd rfl (Or.inl rfl))
        (pss_one (ps_for PassesOwn.never rfl (pi_list (C8.pe_c cF hr (by decide) (by rfl) (pa_cons (pv 0) (pa_cons (pv 3) pa_nil)))) (pg_name (i := 4) sc_shortage.nd rfl (Or.inl rfl))
          (pss_one (ps_dput (hu_of hr) (pv 2) (pv 4) pe_bl rfl)))))
      (pss_one (ps_ret (pe_op op_sub (pe_callB call_len (by rfl) Tx.len boot_len (pa_cons (pv 1) pa_nil)) (pe_callB call_lenD (by rfl) Tx.len boot_len (pa_cons (pv 2) pa_nil)))))), ?_⟩
    intro d hd
    have hlab := ho.lab.tlen
    refine ⟨_, rfl, a, rfl, ⟨_, SqL.of (upd_keep ha hd)⟩, ?_⟩
    refine for_it (walk_list (xs := g.map V.str)) (fun i σ H' => Same H H' ∧ (∃ x3 x4, σ = [some (.ref o), some (.ref a), some (.ref d), x3, x4]) ∧
        H' d = some (.dK (tru (((g.take i).flatMap (tT R T)).foldl Ld.addK []))) ∧ (((g.take i).flatMap (tT R T)).foldl Ld.addK []).length ≤ 5 * i)
      ⟨Same.upd hd, ⟨_, _, rfl⟩, by rw [upd_same]; rfl, by simp⟩ (fun i σ H' _ z => SqL.of (z.1 _ _ ha)) ?_ ?_
    · rintro i v σ H1 H2 hi ⟨s1, ⟨x3, x4, rfl⟩, hd1, hl1⟩ ⟨rfl, hv⟩
      obtain ⟨c, hc, rfl⟩ := get_map hv
      have hi' : i < g.length := by simpa using hi
      have hfl : (tT R T c).length ≤ 5 := Nat.le_trans (List.length_filter_le _ _) hlab
      refine ⟨_, rfl, _, rfl, R, o, T, C, c, rfl, ho.same s1, hg c (mem_of_get hc), fun D H3 s3 _ hD3 => ⟨D, rfl, ⟨_, SqL.of hD3⟩, ?_⟩⟩
      have e0 := flat_take (f := tT R T) hc
      have hdD : d ≠ D := ne_of (s3 _ _ hd1) hD3 (by intro z; cases z)
      refine for_it (walk_list (xs := (tT R T c).map V.str)) (fun j σ H' => Same H H' ∧ H' D = some (.lst ((tT R T c).map V.str)) ∧ (∃ x4, σ = [some (.ref o), some (.ref a), some (.ref d), some (.str c), x4]) ∧
          H' d = some (.dK (tru (((g.take i).flatMap (tT R T) ++ (tT R T c).take j).foldl Ld.addK []))) ∧ (((g.take i).flatMap (tT R T) ++ (tT R T c).take j).foldl Ld.addK []).length ≤ 5 * i + j)
        ⟨s1.trans s3, hD3, ⟨_, rfl⟩, by simpa using s3 _ _ hd1, by simpa using hl1⟩ (fun j σ H' _ z => SqL.of z.2.1) ?_ ?_
      · rintro j v σ H4 H5 hj ⟨u1, u2, ⟨x4, rfl⟩, u3, u4⟩ ⟨rfl, hv⟩
        obtain ⟨t, ht, rfl⟩ := get_map hv
        have hj' : j < (tT R T c).length := by simpa using hj
        refine ⟨_, rfl, _, rfl, d, _, rfl, DPut.k (k := .inr t) u3 (by unfold tru; rw [List.length_map, sizeLine_eq]; omega), ?_⟩
        have e1 : ((g.take i).flatMap (tT R T) ++ (tT R T c).take (j + 1)).foldl Ld.addK [] = Ld.addK (((g.take i).flatMap (tT R T) ++ (tT R T c).take j).foldl Ld.addK []) t := by
          rw [List.take_add_one, ht, ← List.append_assoc, List.foldl_append (b := _)]; rfl
        refine ⟨Same.updN u1 hd, by rw [upd_ne hdD.symm]; exact u2, ⟨_, rfl⟩, by rw [upd_same, put_tru, e1], ?_⟩
        rw [e1]
        have := addK_len (ks := ((g.take i).flatMap (tT R T) ++ (tT R T c).take j).foldl Ld.addK []) (x := t)
        omega
      · rintro σ H4 ⟨u1, u2, ⟨x4, rfl⟩, u3, u4⟩
        rw [List.length_map, List.take_length, ← e0] at u3 u4
        exact ⟨u1, ⟨_, _, rfl⟩, u3, by omega⟩
    · rintro σ H1 ⟨s1, ⟨x3, x4, rfl⟩, hd1, hl1⟩
      rw [List.length_map, List.take_length] at hd1
      refine ⟨_, rfl, _, g.length, rfl, .inl ⟨_, SqL.of (s1 _ _ ha), by simp⟩, _, rfl, d, _, rfl, hd1, _, _, rfl, rfl, ?_⟩
      have e : shI R T g = (g.length : Int) - ((tru ((g.flatMap (tT R T)).foldl Ld.addK [])).length : Int) := by
        unfold tru; rw [List.length_map]; rfl
      show Q (.int ((g.length : Int) - _)) H1
      rw [← e]
      exact q H1 s1

def spShortGroup (K : PySem.W.Frag) : Sp := fun vs H Q _ => ∃ R o T C, vs = [.ref o] ∧ OffAt K H R o T C ∧
  (∀ H' a g, Same H H' → H' a = some (.lst (g.map V.str)) → g.Nodup → (∀ x ∈ g, x ∈ C) → 0 < shI R T g → Q (.ref a) H') ∧
  (∀ H', Same H H' → (∀ g, asc g → (∀ x ∈ g, x ∈ C) → shI R T g ≤ 0) → Q .non H')
theorem asc_sub {C : List Str} {g : List Str} (hC : C.Sublist cL) (h : asc g) (hs : ∀ x ∈ g, x ∈ C) (h5 : C.length ≤ 5) : g.length ≤ C.length := (asc_nodup h).length_le_of_subset hs
theorem ok_shortGroup (F : Df K "short_group" "short_group" sShortGroup f) (hm : mg "short_group" = some (.ref f)) (Tx : Txt K mg) (pC : Pro P w K mg base 1 (cOff K) "claims" (spOffClaims K)) (cH : C8.Cal P w K mg base 1 "choices" spChoices [])
    (cS : C8.Cal P w K mg base 7 "shortage" (spShortage K) []) : C8.Cal P w K mg base 8 "short_group" (spShortGroup K) [] := by
  refine F.cal hm sc_shortGroup (fun _ _ _ _ _ _ us hl => match us, hl with | [_], _ => rfl) (fun vs H Q E h => ?_) (fun cdv A outer s H vs Q E hr h => ?_)
  · obtain ⟨R, o, T, C, rfl, _⟩ := h; rfl
  · obtain ⟨R, o, T, C, rfl, ho, q1, q2⟩ := h
    obtain ⟨dx, f, b, h1, h2, h3⟩ := ho.ex
    refine ⟨_, pss_cons (ps_set sc_shortGroup.nd (i := 1) rfl (Or.inl rfl) (pe_callTy (call_listD rfl) (by rfl) Tx.list boot_list (pa_cons (pe_pr pC hr (by decide) (pv 0)) pa_nil)))
      (pss_cons (ps_for PassesOwn.never rfl (pi_range2 (by rfl) Tx.range (pa_cons pe_int (pa_cons (pe_op op_add (pe_callB call_len (by rfl) Tx.len boot_len (pa_cons (pv 1) pa_nil)) pe_int) pa_nil))) (pg_name (i := 2) sc_shortGroup.nd rfl (Or.inl rfl))
        (pss_one (ps_for PassesOwn.never rfl (pi_list (C8.pe_c cH hr (by decide) (by rfl) (pa_cons (pv 1) (pa_cons (pv 2) pa_nil)))) (pg_name (i := 3) sc_shortGroup.nd rfl (Or.inl rfl))
          (pss_one (ps_if (pt_cmpR op_gt (C8.pe_c cS hr (by decide) (by rfl) (pa_cons (pv 0) (pa_cons (pv 3) pa_nil))) pe_int (nomark _)) (pss_one (ps_ret (pv 3))) pss_nil)))))
      (pss_one (ps_ret pe_non))), ?_⟩
    refine ⟨_, rfl, o, dx, _, rfl, h1, R, o, T, C, rfl, ho, fun p hp => ⟨p, _, rfl, .inl upd_same, fun a ha => ?_⟩⟩
    have hk : (cKvs R C).map (fun kv => kV kv.1) = C.map V.str := by unfold cKvs; simp [kV, Function.comp_def]
    have s0 : Same H (upd (upd H p (.dK (cKvs R C))) a (.lst ((cKvs R C).map fun kv => kV kv.1))) := Same.upd' (Same.upd hp) ha
    dsimp only [gName]
    refine gen_seq (fun Hb => Same H Hb ∧ Hb a = some (.lst (C.map V.str))) ⟨s0, by rw [upd_same, hk]⟩ ?_
    rintro Hb ⟨sb, hb⟩
    have hcl := ho.lab.clen
    refine ⟨_, rfl, _, C.length, rfl, .inl ⟨_, SqL.of hb, by simp⟩, _, _, rfl, rfl, 1, (C.length : Int) + 1, rfl, ⟨by decide, by decide, by omega, by omega⟩, ?_⟩
    have en : ((C.length : Int) + 1 - 1).toNat = C.length := by omega
    refine for_it (walk_range (lo := 1) (n := ((C.length : Int) + 1 - 1).toNat)) (fun i σ H' => Same Hb H' ∧ (∃ x2 x3, σ = [some (.ref o), some (.ref a), x2, x3]) ∧ ∀ k, 1 ≤ k → k < i + 1 → ∀ g ∈ chs C k, shI R T g ≤ 0)
      ⟨Same.refl _, ⟨_, _, rfl⟩, fun k h1 h2 => by omega⟩ (fun _ _ _ _ _ => trivial) ?_ ?_
    · rintro i v σ H1 H2 hi ⟨s1, ⟨x2, x3, rfl⟩, hall⟩ ⟨rfl, rfl⟩
      rw [en] at hi
      refine ⟨_, rfl, _, rfl, a, C, 1 + i, by show [V.ref a, V.int (1 + (i : Int))] = _; rw [show ((1 + i : Nat) : Int) = 1 + (i : Int) by omega], s1 _ _ hb, fun x hx => words_cL x (ho.lab.c.subset hx), hcl, by omega, fun FF H3 s3 hL => ?_⟩
      obtain ⟨L, l1, l2, l3⟩ := hL.ex
      refine ⟨FF, rfl, ⟨_, SqL.of l1⟩, ?_⟩
      refine for_it (walk_list (xs := L.map fun p => V.ref p.1)) (fun j σ H' => Same H3 H' ∧ (∃ x2 x3, σ = [some (.ref o), some (.ref a), x2, x3]) ∧ ∀ p ∈ L.take j, shI R T p.2 ≤ 0)
        ⟨Same.refl _, ⟨_, _, rfl⟩, fun p hp => by simp at hp⟩ (fun j σ H' _ z => SqL.of (z.1 _ _ l1)) ?_ ?_
      · rintro j v σ H4 H5 hj ⟨u1, ⟨y2, y3, rfl⟩, u3⟩ ⟨rfl, hv⟩
        obtain ⟨y, hy, rfl⟩ := get_map hv
        have hyL := mem_of_get hy
        have hyg : y.2 ∈ chs C (1 + i) := l2 ▸ List.mem_map_of_mem hyL
        obtain ⟨g1, g2⟩ := chs_sub _ _ hyg
        have sH := sb.trans (s1.trans (s3.trans u1))
        refine ⟨_, rfl, _, rfl, R, o, T, C, y.1, y.2, rfl, ho.same sH, u1 _ _ (l3 y hyL), g2, by omega, fun H6 s6 => ⟨_, _, rfl, rfl, _, rfl, ?_⟩⟩
        by_cases hp : 0 < shI R T y.2
        · rw [decide_eq_true hp]
          exact iteT ⟨_, rfl, q1 H6 y.1 y.2 (sH.trans s6) (s6 _ _ (u1 _ _ (l3 y hyL))) (asc_nodup (chs_asc _ _ hyg)) g2 hp⟩
        · rw [decide_eq_false hp]
          refine iteF ⟨u1.trans s6, ⟨_, _, rfl⟩, fun p hpm => ?_⟩
          rw [List.take_add_one, hy] at hpm
          rcases List.mem_append.mp hpm with z | z
          · exact u3 p z
          · rw [List.mem_singleton.mp z]; omega
      · rintro σ H4 ⟨u1, ⟨y2, y3, rfl⟩, u3⟩
        rw [List.length_map, List.take_length] at u3
        refine ⟨s1.trans (s3.trans u1), ⟨_, _, rfl⟩, fun k k1 k2 g hg => ?_⟩
        by_cases hk2 : k < i + 1
        · exact hall k k1 hk2 g hg
        · have : k = 1 + i := by omega
          subst this
          rw [← l2] at hg
          obtain ⟨p, hp, rfl⟩ := List.mem_map.mp hg
          exact u3 p hp
    · rintro σ H1 ⟨s1, ⟨x2, x3, rfl⟩, hall⟩
      rw [en] at hall
      refine q2 H1 (sb.trans s1) fun g hg hs => ?_
      by_cases h0 : g.length = 0
      · rw [List.length_eq_zero_iff.mp h0]
        show ((0 : Nat) : Int) - ((0 : Nat) : Int) ≤ 0
        decide
      · have hle := asc_sub ho.lab.c hg hs hcl
        exact hall g.length (by omega) (by omega) g (chs_all _ g rfl hg hs)

def spShownGroup (K : PySem.W.Frag) : Sp := fun vs H Q _ => ∃ R o T C a g, vs = [.ref o, .ref a] ∧ OffAt K H R o T C ∧ H a = some (.lst (g.map V.str)) ∧ g.Nodup ∧ (∀ c ∈ g, c ∈ C) ∧ g.length ≤ 1000 ∧ ∀ H', Same H H' → Q (.int (max 0 (shI R T g))) H'
theorem ok_shownGroup (F : Df K "shown_group" "shown_group" sShownGroup f) (hm : mg "shown_group" = some (.ref f)) (Tx : Txt K mg) (pC : Pro P w K mg base 1 (cOff K) "claims" (spOffClaims K))
    (cS : C8.Cal P w K mg base 7 "shortage" (spShortage K) []) : C8.Cal P w K mg base 8 "shown_group" (spShownGroup K) [] := by
  refine F.cal hm sc_shownGroup (fun _ _ _ _ _ _ us hl => match us, hl with | [_, _], _ => rfl) (fun vs H Q E h => ?_) (fun cdv A outer s H vs Q E hr h => ?_)
  · obtain ⟨R, o, T, C, a, g, rfl, _⟩ := h; rfl
  · obtain ⟨R, o, T, C, a, g, rfl, ho, ha, hn, hg, hl, q⟩ := h
    obtain ⟨dx, f, b, h1, h2, h3⟩ := ho.ex
    refine ⟨_, pss_cons (ps_for PassesOwn.never rfl (pi_enum (by rfl) Tx.enumerate (pa_cons (pv 1) pa_nil)) (pg_n2 K (i := 2) (j := 3) rfl rfl sc_shownGroup.nd rfl rfl (by first | exact Or.inl rfl | exact Or.inr rfl) (by first | exact Or.inl rfl | exact Or.inr rfl) (by first | exact Or.inr rfl | exact Or.inl rfl) (by first | exact Or.inr rfl | exact Or.inl rfl))
      (pss_one (ps_if (PW.pt (pw_or (pt_cmp (pc_dnotin (hu_of hr) (pv 3) (pe_pr pC hr (by decide) (pv 0)))) (pw_or1 (pt_cmpR op_in_seq (pv 3) (pe_slice sl_list (pv 1) po_none (po_some (pv 2))) rfl)))) pss_never pss_nil)))
      (pss_one (ps_ret (pe_callB (call_max2 rfl) (by rfl) Tx.max boot_max (pa_cons pe_int (pa_cons (C8.pe_c cS hr (by decide) (by rfl) (pa_cons (pv 0) (pa_cons (pv 1) pa_nil))) pa_nil))))), ?_⟩
    refine ⟨_, rfl, a, _, rfl, SqL.of ha, ?_⟩
    refine for_it (walk_enum (xs := g.map V.str)) (fun i σ H' => Same H H' ∧ ∃ x2 x3, σ = [some (.ref o), some (.ref a), x2, x3]) ⟨Same.refl _, _, _, rfl⟩ (fun i σ H' _ z => SqL.of (z.1 _ _ ha)) ?_ ?_
    · rintro i v σ H1 H2 hi ⟨s1, x2, x3, rfl⟩ ⟨T', u, y, rfl, hT', rfl, hu, hy⟩
      cases hu
      obtain ⟨c, hc, rfl⟩ := get_map hy
      have hi' : i < g.length := by simpa using hi
      have s2 : Same H (upd H1 T' (.tup [.int (i : Nat), .str c])) := Same.upd' s1 hT'
      refine ⟨T', _, rfl, SqT.of upd_same, rfl, _, _, rfl, _, _, rfl, rfl, ?_⟩
      refine ⟨_, rfl, _, rfl, o, dx, _, rfl, s2 _ _ h1, R, o, T, C, rfl, ho.same s2, fun p hp => ⟨p, _, rfl, DGet.k (k := .inr c) upd_same, ?_⟩⟩
      rw [val_c (hg c (mem_of_get hc))]
      have s3 := Same.upd' (o := .dK (cKvs R C)) s2 hp
      refine ⟨_, rfl, iteF ⟨_, rfl, _, rfl, _, rfl, _, rfl, a, _, rfl, SqL.of (s3 _ _ ha), fun p2 hp2 => ?_⟩⟩
      rw [cut_take (by simp; omega), ← List.map_take]
      refine ⟨p2, _, rfl, .inl (SqL.of upd_same), rfl, flat_strs _, _, rfl, ?_⟩
      have fresh : c ∉ g.take i := by
        intro hm
        obtain ⟨j, hj, hj2⟩ := List.mem_take_iff_getElem.mp hm
        obtain ⟨hlt, hj3⟩ := List.getElem?_eq_some_iff.mp hc
        exact List.pairwise_iff_getElem.mp hn j i _ hlt (by omega) (hj2.trans hj3.symm)
      show if (inV (.str c) ((g.take i).map V.str)) = true then _ else _
      rw [inV_strs, decide_eq_false fresh]
      exact iteF ⟨Same.upd' s3 hp2, _, _, rfl⟩
    · rintro σ H1 ⟨s1, x2, x3, rfl⟩
      refine ⟨_, rfl, _, rfl, R, o, T, C, a, g, rfl, ho.same s1, s1 _ _ ha, hg, hl, fun H2 s2 => ⟨_, _, rfl, ?_⟩⟩
      have e : max 0 (shI R T g) = if shI R T g > 0 then shI R T g else 0 := by
        split <;> omega
      rw [← e]
      exact q H2 (s1.trans s2)
end
end Lk
/-! Kr3 -/
namespace Lk
open PySem PySem.Spec PyProof.Rows L2
section
variable {X : Cx}
theorem swd_true {kx vx : Expr} {gs : List Comprehension} {scope : Scope} {pos py : Pos} {y : Str} {l : Nat} {env : Env} (hk : env.scope.kind = .function) (hy : env.scope.names.lookup y = some .local) (hl : (py.line == pos.line) = true)
    (ha : (scope.names.any fun (n, k) => n == y && (k == .local || k == .cell)) = false) : swapsWith (.DictComp kx vx gs scope pos) (some (.Name y py)) l env = pure true := by
  have ky : env.kindOf y = some .local := hy
  have hb : env.blockKind = .function := by unfold Env.blockKind; rw [hk]; rfl
  unfold swapsWith
  simp only [hb, ky, ha, Expr.pos, hl]
  rfl
/-- name = {..} on one line, the name a local -/
theorem ps_setDc {i : Nat} {y : Str} {py : Pos} {kx vx tg iter : Expr} {ifs : List Expr} {scope : Scope} {own : List (Str × Nat)} {pos spos : Pos} {wi : TI} {g : TG} {tt : TT} {tk tv : TE} (hc : X.calm = true) (hN : X.N.Nodup) (hy : X.N[i]? = some y) (hyl : X.env.scope.names.lookup y = some .local)
    (hsw : swapsWith (.DictComp kx vx [⟨tg, iter, ifs, 0⟩] scope pos) (some (.Name y py)) spos.line X.env = pure true) (hi : PI X tg iter wi) (ok : BlkOk X.N X.env.scope scope own)
    (hg : ∀ (s : Shared) (H : Hp) (C : Addr) (cl : List (Str × Addr)) (fp : List Addr), PG (X.blk s H scope (compEnvC scope cl C X.env) fp) tg g) (ht : ∀ (s : Shared) (H : Hp) (C : Addr) (cl : List (Str × Addr)) (fp : List Addr), PTs (X.blk s H scope (compEnvC scope cl C X.env) fp) ifs tt)
    (hk : ∀ (s : Shared) (H : Hp) (C : Addr) (cl : List (Str × Addr)) (fp : List Addr), PE (X.blk s H scope (compEnvC scope cl C X.env) fp) kx tk)
    (he : ∀ (s : Shared) (H : Hp) (C : Addr) (cl : List (Str × Addr)) (fp : List Addr), PE (X.blk s H scope (compEnvC scope cl C X.env) fp) vx tv) (hs : ∀ x, foldedSetIterable iter X.env x = pure x := by intro _; rfl) :
    PS X (.Assign [.Name y py] (.DictComp kx vx [⟨tg, iter, ifs, 0⟩] scope pos) spos) (tAsg (tDc wi g tt tk tv (own.map (·.2))) (gName i)) := by
  refine ⟨fun pins s σ H D I h => ?_⟩
  rw [exec_Assign_Name_used _ _ _ _ hsw]
  refine wpAny_bind (wpAny_standAt (wpAny_bind ?_))
  show wpAny _ X.A (do let _ ← comprehension (.DictComp kx vx [⟨tg, iter, ifs, 0⟩] scope pos) scope X.env (firstIterPos [⟨tg, iter, ifs, 0⟩] pos) newDict false (eval iter X.env) (some (assign (.Name y py) X.env))) _ _ s
  have h : tDc wi g tt tk tv (own.map (·.2)) σ H (fun x H1 => gName i x σ H1 D.nx) := h
  refine wpAny_bind (thn (dc_core (Qf := fun _ s' => SP X pins D .next s') hc hN I hi ok hg ht hk he hs h fun L C s' m H' I' q hn f => ?_) fun _ s' hq => wpAny_pure (wpAny_pure hq))
  show wpAny _ _ (assign (.Name y py) X.env (.ref L)) _ _ _
  refine wpAny_assign_Name (store_ok2 (v := V.ref L) I' hN hy (.inl hyl) rfl (fun s2 I2 ⟨a, sb, ha⟩ => ?_) (.inr hyl))
  obtain ⟨f0, f1, f2, f3, f4, f5⟩ := f
  have haC : C ≠ a := by
    rcases ha with z | z
    · rw [z]; exact f1
    · exact fun e => f4 y a z e.symm
  refine ⟨m, hn.sameBut sb haC, fun h3 sb3 => ?_⟩
  exact ⟨_, H', I2.turned (t' := s2.toks) (fun b o hb e => (sb3.2 b hb).trans e) f0 f1 f3 f4 f5, q⟩

/-- e.f, a property of either of two classes -/
def tPrOr (C1 : Addr) (sp1 : Sp) (C2 : Addr) (sp2 : Sp) (ta : TE) : TE := fun σ H Q => ta σ H fun x H1 => ∃ a dx fs, x = .ref a ∧ ((H1 a = some (.ins C1 dx fs) ∧ sp1 [.ref a] H1 Q C8.E0) ∨ (H1 a = some (.ins C2 dx fs) ∧ sp2 [.ref a] H1 Q C8.E0))
theorem pe_prOr {k j : Nat} {C1 C2 : Addr} {sp1 sp2 : Sp} {e : Expr} {f : Str} {pos : Pos} {ta : TE} (c1 : Pro X.prog X.w X.K X.mg X.base k C1 f sp1) (c2 : Pro X.prog X.w X.K X.mg X.base k C2 f sp2) (hr : Room j X.A) (hk : k + 1 ≤ j) (he : PE X e ta)
    (hab : attributeBase e f X.env (eval e X.env) = eval e X.env := by rfl) : PE X (.Attribute e f pos) (tPrOr C1 sp1 C2 sp2 ta) := by
  obtain ⟨p, g, fd, ps, h1, h2, h3, h4⟩ := c1.ex
  obtain ⟨p', g', fd', ps', h1', h2', h3', h4'⟩ := c2.ex
  refine ⟨fun pins s σ H Q I h => ?_⟩
  refine attr_of hab (thn (he.run pins s σ H _ I h) fun u s1 ⟨x, H1, I1, rx, a, dx, fs, ex, q⟩ => ?_)
  subst ex
  obtain rfl : u = Value.ref a := rx
  rcases q with ⟨ea, q⟩ | ⟨ea, q⟩
  · exact getprop_ok I1 ea h1 h2 h3 (hr.mono hk) h4 .nil C8.pass0 q
  · exact getprop_ok I1 ea h1' h2' h3' (hr.mono hk) h4' .nil C8.pass0 q
end
theorem pg_n4 {X : Cx} (Kf : PySem.W.Frag) {pos p1 p2 p3 p4 : Pos} {i1 i2 i3 i4 k : Nat} {x1 x2 x3 x4 : Str} (hK : X.K = Kf) (hc : X.calm = true) (hN : X.N.Nodup) (h1 : X.N[i1]? = some x1) (h2 : X.N[i2]? = some x2) (h3 : X.N[i3]? = some x3) (h4 : X.N[i4]? = some x4)
    (l1 : X.env.scope.names.lookup x1 = some .local) (l2 : X.env.scope.names.lookup x2 = some .local) (l3 : X.env.scope.names.lookup x3 = some .local) (l4 : X.env.scope.names.lookup x4 = some .local) :
    PG X (.Tuple [.Name x1 p1, .Name x2 p2, .Name x3 p3, .Name x4 p4] k pos) (gTup Kf 4 (gCons (gName i1) (gCons (gName i2) (gCons (gName i3) (gCons (gName i4) gNil))))) := by
  subst hK
  exact pg_tup hc (pgs_cons (pg_name hN h1 (.inl l1) (.inr l1)) (pgs_cons (pg_name hN h2 (.inl l2) (.inr l2)) (pgs_cons (pg_name hN h3 (.inl l3) (.inr l3)) (pgs_cons (pg_name hN h4 (.inl l4) (.inr l4)) pgs_nil))))
theorem rising_pw : ∀ (x : Str) (r : List Str), risingS x r = true → (x :: r).Pairwise fun a b => ¬ b.cps.toList < a.cps.toList
  | x, [], _ => List.pairwise_singleton _ _
  | x, y :: r, h => by
    have h' : (!(ltCps y.cps.toList x.cps.toList) && risingS y r) = true := h
    rw [Bool.and_eq_true, Bool.not_eq_true'] at h'
    have hxy : ¬ y.cps.toList < x.cps.toList := by
      have h0 := h'.1
      rw [ltCps_eq] at h0
      exact of_decide_eq_false h0
    have ih := rising_pw y r h'.2
    refine List.pairwise_cons.mpr ⟨fun z hz => ?_, ih⟩
    rcases List.mem_cons.mp hz with e | hz
    · rw [e]; exact hxy
    · exact List.not_lt.mpr (List.le_trans (List.not_lt.mp hxy) (List.not_lt.mp ((List.pairwise_cons.mp ih).1 z hz)))
theorem sorted_asc {ys L : List Str} (hp : ys.Perm L) (hs : sortedS ys = true) (hL : asc L) : ys = L := by
  have h1 : ys.Pairwise fun a b => ¬ b.cps.toList < a.cps.toList := by
    cases ys with
    | nil => exact List.Pairwise.nil
    | cons x r => exact rising_pw x r hs
  have h2 : L.Pairwise fun a b => ¬ b.cps.toList < a.cps.toList := hL.imp fun h => List.lt_asymm h
  refine List.Perm.eq_of_pairwise (fun a b _ _ h3 h4 => ?_) h1 h2 hp
  have e : a.cps.toList = b.cps.toList := List.le_antisymm (List.not_lt.mp h3) (List.not_lt.mp h4)
  cases a; cases b
  congr 1
  exact Array.toList_inj.mp e
end Lk
/-! Kd9 -/
namespace Lk
open PySem PySem.Spec PyProof.Rows L2
/-- a def whose last parameters have defaults -/
structure DfD (K : PySem.W.Frag) (x qual : Str) (st : Stmt) (dvs : List V) (f : Addr) : Prop where
  ex : ∃ fd, FunD K x qual (defArgs st) (defBody st) (defScope st) dvs [] f fd
theorem asc_of {L M : List Str} (h : L.Sublist M) (hm : asc M) : asc L := hm.sublist h
theorem ins_nil_ne {C dx C' dx' : Addr} {x : Str × V} {fs : List (Str × V)} : HO.ins C' dx' (x :: fs) ≠ HO.ins C dx [] := by
  intro h; injection h with _ _ h; cases h
theorem keepI {H H' : Hp} {o : Addr} {u0 : HO} (ho : H o = some u0) (s : SameX o H H') {b : Addr} {u : HO} (h : H b = some u) (hne : u ≠ u0) : H' b = some u :=
  s b u (fun e => by rw [e, ho] at h; exact hne (Option.some.inj h).symm) h
theorem NoteAt.keepI {K : PySem.W.Frag} {H H' : Hp} {o C dx n c : Addr} {fs : List Fe} {S : Str → List Str} (ho : H o = some (.ins C dx [])) (s : SameX o H H') (h : NoteAt K H n c fs S) : NoteAt K H' n c fs S := by
  obtain ⟨dx, d, kvs, h1, h2, h3⟩ := h.ex
  refine ⟨dx, d, kvs, Lk.keepI ho s h1 ins_nil_ne, Lk.keepI ho s h2 (by intro z; cases z), fun f hf => ?_⟩
  obtain ⟨hl, wa, h4, h5⟩ := h3 f hf
  exact ⟨hl, wa, h4, Lk.keepI ho s h5 (by intro z; cases z)⟩
theorem ThingAt.keepI {K : PySem.W.Frag} {H H' : Hp} {o C dx : Addr} {R : Rnd} {l : Str} (ho : H o = some (.ins C dx [])) (s : SameX o H H') (h : ThingAt K H R l) : ThingAt K H' R l := by
  obtain ⟨dx', h1⟩ := h.ex
  exact ⟨⟨dx', Lk.keepI ho s h1 ins_nil_ne⟩, h.note.keepI ho s⟩
theorem ClaimAt.keepI {K : PySem.W.Frag} {H H' : Hp} {o C dx : Addr} {R : Rnd} {l : Str} (ho : H o = some (.ins C dx [])) (s : SameX o H H') (h : ClaimAt K H R l) : ClaimAt K H' R l := by
  obtain ⟨dx', wo, h1⟩ := h.ex
  exact ⟨⟨dx', wo, Lk.keepI ho s h1 ins_nil_ne⟩, h.note.keepI ho s⟩
theorem CatAt.keepI {K : PySem.W.Frag} {H H' : Hp} {o C dx c : Addr} {fs : List Fe} (ho : H o = some (.ins C dx [])) (s : SameX o H H') (h : CatAt K H c fs) : CatAt K H' c fs := by
  obtain ⟨dx', a, h1, L, h2, h3, h4⟩ := h.ex
  refine ⟨dx', a, Lk.keepI ho s h1 ins_nil_ne, L, Lk.keepI ho s h2 (by intro z; cases z), h3, fun p hp => ?_⟩
  obtain ⟨wa, h5, h6⟩ := (h4 p hp).ex
  exact ⟨wa, Lk.keepI ho s h5 (by intro z; cases z), Lk.keepI ho s h6 (by intro z; cases z)⟩
/-- the entries of one part of a new office -/
def Ent (K : PySem.W.Frag) (H : Hp) (R : Rnd) (T : List Str) (x : V) : Prop := ∃ (q : Addr) (pn : Str) (d : Addr) (L : List Str) (ad : Str → Addr), x = .ref q ∧ H q = some (.tup [.str pn, .ref d]) ∧ H d = some (.dK (L.map fun l => (.inr l, .ref (ad l)))) ∧ L.length ≤ 5 ∧
  (pn = "claims" → ∀ l ∈ L, l ∉ T) ∧ ∀ l ∈ L, wordOk l ∧ ∃ dx fs' n dn d', (H (ad l) = some (.ins (cThing K) dx fs') ∨ H (ad l) = some (.ins (cClaim K) dx fs')) ∧ fs'.lookup ("own_note" : Str) = some (V.ref n) ∧ H n = some (.ins (cNote K) dn [("own_catalog", .ref R.c), ("sets", d')])
theorem Ent.same {K : PySem.W.Frag} {H H' : Hp} {R : Rnd} {T : List Str} {x : V} (h : Ent K H R T x) (s : Same H H') : Ent K H' R T x := by
  obtain ⟨q, pn, d, L, ad, h1, h2, h3, h4, h5, h6⟩ := h
  refine ⟨q, pn, d, L, ad, h1, s _ _ h2, s _ _ h3, h4, h5, fun l hl => ?_⟩
  obtain ⟨g0, dx, fs', n, dn, d', g1, g2, g3⟩ := h6 l hl
  exact ⟨g0, dx, fs', n, dn, d', g1.imp (s _ _) (s _ _), g2, s _ _ g3⟩
section
variable {P : Program} {w : World} {K : PySem.W.Frag} {mg : Str → Option Value} {base : Heap} {f : Addr}
theorem sc_thingInit : FnScope ["self", "note", "day"] ["self", "note", "day"] (defScope sThingInit) := ⟨rfl, rfl, rfl, by decide +kernel, rfl, by decide +kernel, by decide +kernel⟩
abbrev nm_thingInit : List Str := ["self", "note", "day"]
theorem sc_claimInit : FnScope ["self", "note", "day", "slips", "worth", "parts", "part", "value", "smallest", "largest"] ["self", "note", "day", "slips", "worth"] (defScope sClaimInit) := ⟨rfl, rfl, rfl, by decide +kernel, rfl, by decide +kernel, by decide +kernel⟩
abbrev nm_claimInit : List Str := ["self", "note", "day", "slips", "worth", "parts", "part", "value", "smallest", "largest"]
theorem sc_ordered : FnScope ["entries", "label"] ["entries"] (defScope sOrdered) := ⟨rfl, rfl, rfl, by decide +kernel, rfl, by decide +kernel, by decide +kernel⟩
abbrev nm_ordered : List Str := ["entries", "label"]
theorem sc_offInit : FnScope ["self", "catalog", "things", "claims", "part", "entries", "label", "entry", "is_double"] ["self", "catalog", "things", "claims"] (defScope sOffInit) := ⟨rfl, rfl, rfl, by decide +kernel, rfl, by decide +kernel, by decide +kernel⟩
abbrev nm_offInit : List Str := ["self", "catalog", "things", "claims", "part", "entries", "label", "entry", "is_double"]
theorem sc_without : FnScope ["self", "label", "things", "claims", "one", "thing", "claim"] ["self", "label"] (defScope sOffWithout) := ⟨rfl, rfl, rfl, by decide +kernel, rfl, by decide +kernel, by decide +kernel⟩
abbrev nm_without : List Str := ["self", "label", "things", "claims", "one", "thing", "claim"]
def spThingInit (K : PySem.W.Frag) : Sp := fun vs H Q _ => ∃ (t n : Addr) (d : Int) (dx : Addr), vs = [.ref t, .ref n, .int d] ∧ H t = some (.ins (cThing K) dx []) ∧ 0 ≤ d ∧ d ≤ 1000000 ∧
  ∀ H', SameX t H H' → H' t = some (.ins (cThing K) dx [("own_note", .ref n), ("own_day", .int d)]) → Q .non H'
theorem ok_thingInit (F : Df K "__init__" "Thing.__init__" sThingInit f) (M : Mk K (cThing K) f) (T : Txt K mg) (cN : C8.Cal P w K mg base 1 "is_number" spIsNumber []) : C8.Mak P w K mg base 2 "Thing" (cThing K) (spThingInit K) [] := by
  refine F.mak M T.mThing sc_thingInit (fun _ _ _ _ _ _ us hl => match us, hl with | [_, _, _], _ => rfl) (fun vs H Q E h => ?_) (fun cdv A outer s H vs Q E hr h => ?_)
  · obtain ⟨t, n, d, dx, rfl, _⟩ := h; rfl
  · obtain ⟨t, n, d, dx, rfl, ht, h0, h1, q⟩ := h
    refine ⟨_, pss_cons (ps_if (pt_not (pt_val (C8.pe_c cN hr (by decide) (by rfl) (pa_cons (pv 2) (pa_cons pe_int (pa_cons (C8.pe_gc (by rfl) T.gMaxDay) pa_nil)))))) pss_never pss_nil)
      (pss_cons (ps_fld (pv 0) (pv 1) rfl) (pss_one (ps_fld (pv 0) (pv 2) rfl))), ?_⟩
    refine ⟨_, rfl, d, 0, 1000000000000000000, rfl, ?_⟩
    rw [decide_eq_true h0, decide_eq_true (show d ≤ 1000000000000000000 by omega)]
    refine ⟨true, rfl, iteF ?_⟩
    refine ⟨_, rfl, _, rfl, t, _, dx, [], rfl, ht, T.clThing, T.naTNote, by decide, ?_⟩
    refine ⟨_, rfl, _, rfl, t, _, dx, _, rfl, upd_same, T.clThing, T.naTDay, by show 1 < 1000; decide, ?_⟩
    exact q _ (fun b o hb e => by rw [upd_ne hb, upd_ne hb]; exact e) upd_same

def spClaimInit (K : PySem.W.Frag) : Sp := fun vs H Q _ => ∃ (t n : Addr) (d sl wo : Int) (dx : Addr), vs = [.ref t, .ref n, .int d, .int sl, .int wo] ∧ H t = some (.ins (cClaim K) dx []) ∧ 0 ≤ d ∧ d ≤ 1000000 ∧ 0 ≤ sl ∧ sl ≤ 2 ∧ 1 ≤ wo ∧ wo ≤ 1000000 ∧
  ∀ H', SameX t H H' → H' t = some (.ins (cClaim K) dx [("own_note", .ref n), ("own_day", .int d), ("own_slips", .int sl), ("own_worth", .int wo)]) → Q .non H'
theorem ok_claimInit (F : DfD K "__init__" "Claim.__init__" sClaimInit [.int 0, .int 1] f) (M : Mk K (cClaim K) f) (T : Txt K mg) (cN : C8.Cal P w K mg base 1 "is_number" spIsNumber []) : C8.Mak P w K mg base 2 "Claim" (cClaim K) (spClaimInit K) [] := by
  obtain ⟨fd, F⟩ := F.ex
  obtain ⟨ds, hv, hb⟩ := F.binds1 (ps := ["self", "note", "day", "slips", "worth"]) 5 2 (by simp) rfl (fun TT kV doc pm an cdv ct us its hl hi => by
    match us, hl, its, hi with
    | [_, _, _, _, _], _, [_, _], _ => exact ⟨_, rfl, rfl⟩)
  refine ⟨f, fd, _, ds, M, F.ok sc_claimInit (fun vs H Q E h => ?_) (fun cdv A outer s H vs Q E hr h => ?_), T.mClaim, hb, hv⟩
  · obtain ⟨t, n, d, sl, wo, dx, rfl, _⟩ := h; rfl
  · obtain ⟨t, n, d, sl, wo, dx, rfl, ht, h0, h1, h2, h3, h4, h5, q⟩ := h
    refine ⟨_, PSs.nox (pss_cons (ps_set sc_claimInit.nd (i := 5) rfl (Or.inl rfl) (pe_tup (pa_cons (pe_tup (pa_cons pe_str (pa_cons (pv 2) (pa_cons pe_int (pa_cons (C8.pe_gc (by rfl) T.gMaxDay) pa_nil)))))
        (pa_cons (pe_tup (pa_cons pe_str (pa_cons (pv 3) (pa_cons pe_int (pa_cons (C8.pe_gc (by rfl) T.gMaxSlips) pa_nil)))))
        (pa_cons (pe_tup (pa_cons pe_str (pa_cons (pv 4) (pa_cons pe_int (pa_cons (C8.pe_gc (by rfl) T.gMaxWorth) pa_nil))))) pa_nil)))))
      (pss_cons (ps_for PassesOwn.never rfl (pi_tup (pv 5)) (pg_n4 K (i1 := 6) (i2 := 7) (i3 := 8) (i4 := 9) rfl rfl sc_claimInit.nd rfl rfl rfl rfl rfl rfl rfl rfl)
        (pss_one (ps_if (pt_not (pt_val (C8.pe_c cN hr (by decide) (by rfl) (pa_cons (pv 7) (pa_cons (pv 8) (pa_cons (pv 9) pa_nil)))))) pss_never pss_nil)))
      (pss_cons (ps_fld (pv 0) (pv 1) rfl) (pss_cons (ps_fld (pv 0) (pv 2) rfl) (pss_cons (ps_fld (pv 0) (pv 3) rfl) (pss_one (ps_fld (pv 0) (pv 4) rfl))))))), ?_⟩
    refine ⟨_, rfl, by show 4 ≤ sizeLine; decide, fun p1 hp1 => ⟨_, rfl, by show 4 ≤ sizeLine; decide, fun p2 hp2 => ⟨_, rfl, by show 4 ≤ sizeLine; decide, fun p3 hp3 => ⟨by show 3 ≤ sizeLine; decide, fun p hp => ?_⟩⟩⟩⟩
    dsimp only [gName]
    refine gen_seq (fun Hb => Same H Hb ∧ Hb p = some (.tup [.ref p1, .ref p2, .ref p3]) ∧ ∀ x ∈ [V.ref p1, V.ref p2, V.ref p3], ∃ (q : Addr) (s : Str) (v lo hi : Int), x = .ref q ∧ Hb q = some (.tup [.str s, .int v, .int lo, .int hi]) ∧ lo ≤ v ∧ v ≤ hi)
      ⟨Same.upd' (Same.upd' (Same.upd' (Same.upd hp1) hp2) hp3) hp, upd_same, fun x hx => ?_⟩ ?_
    · rcases List.mem_cons.mp hx with rfl | hx
      · exact ⟨p1, _, _, _, _, rfl, upd_keep (upd_keep (upd_keep upd_same hp2) hp3) hp, h0, by show d ≤ 1000000000000000000; omega⟩
      rcases List.mem_cons.mp hx with rfl | hx
      · exact ⟨p2, _, _, _, _, rfl, upd_keep (upd_keep upd_same hp3) hp, h2, h3⟩
      · rw [List.mem_singleton.mp hx]
        exact ⟨p3, _, _, _, _, rfl, upd_keep upd_same hp, h4, by show wo ≤ 1000000000; omega⟩
    rintro Hb ⟨sb, hb1, hitems⟩
    refine ⟨_, rfl, p, rfl, ⟨_, SqT.of hb1⟩, ?_⟩
    refine for_it walk_tup (fun i σ H' => Same Hb H' ∧ ∃ x6 x7 x8 x9, σ = [some (.ref t), some (.ref n), some (.int d), some (.int sl), some (.int wo), some (.ref p), x6, x7, x8, x9]) ⟨Same.refl _, _, _, _, _, rfl⟩ (fun i σ H' _ z => SqT.of (z.1 _ _ hb1)) ?_ ?_
    · rintro i x σ H1 H2 hi ⟨s1, x6, x7, x8, x9, rfl⟩ ⟨rfl, hx⟩
      obtain ⟨q', ss, v, lo, hi2, rfl, hq, l1, l2⟩ := hitems x (mem_of_get hx)
      refine ⟨q', _, rfl, SqT.of (s1 _ _ hq), rfl, _, _, rfl, _, _, rfl, _, _, rfl, _, _, rfl, rfl, ?_⟩
      refine ⟨_, rfl, _, rfl, _, rfl, v, lo, hi2, rfl, ?_⟩
      rw [decide_eq_true l1, decide_eq_true l2]
      exact ⟨true, rfl, iteF ⟨s1, _, _, _, _, rfl⟩⟩
    · rintro σ H1 ⟨s1, x6, x7, x8, x9, rfl⟩
      refine ⟨_, rfl, _, rfl, t, _, dx, [], rfl, s1 _ _ (sb _ _ ht), T.clClaim, T.naCNote, by decide, ?_⟩
      refine ⟨_, rfl, _, rfl, t, _, dx, _, rfl, upd_same, T.clClaim, T.naCDay, by show 1 < 1000; decide, ?_⟩
      refine ⟨_, rfl, _, rfl, t, _, dx, _, rfl, upd_same, T.clClaim, T.naCSlips, by show 2 < 1000; decide, ?_⟩
      refine ⟨_, rfl, _, rfl, t, _, dx, _, rfl, upd_same, T.clClaim, T.naCWorth, by show 3 < 1000; decide, ?_⟩
      exact q _ (fun b o hb e => by rw [upd_ne hb, upd_ne hb, upd_ne hb, upd_ne hb]; exact s1 _ _ (sb _ _ e)) upd_same

def spOrdered : Sp := fun vs H Q _ => ∃ (a : Addr) (L : List Str) (g : Str → V), vs = [.ref a] ∧ H a = some (.dK (L.map fun l => (.inr l, g l))) ∧ asc L ∧ L.length < 64 ∧ ∀ p H', Same H H' → H p = none → H' p = some (.dK (L.map fun l => (.inr l, g l))) → Q (.ref p) H'
theorem ok_ordered (F : Df K "ordered" "ordered" sOrdered f) (hm : mg "ordered" = some (.ref f)) (T : Txt K mg) : C8.Cal P w K mg base 1 "ordered" spOrdered [] := by
  refine F.cal hm sc_ordered (fun _ _ _ _ _ _ us hl => match us, hl with | [_], _ => rfl) (fun vs H Q E h => ?_) (fun cdv A outer s H vs Q E hr h => ?_)
  · obtain ⟨a, L, g, rfl, _⟩ := h; rfl
  · obtain ⟨a, L, g, rfl, ha, hasc, h64, q⟩ := h
    refine ⟨_, pss_one (ps_ret (pe_dc (own := [("label", 1)]) rfl sc_ordered.nd (pi_list (pe_callB (call_sortedD rfl) (by rfl) T.sorted boot_sorted (pa_cons (pv 0) pa_nil))) (blkOk_by (N := nm_ordered) (sc := defScope sOrdered) (by decide +kernel)) (fun _ _ _ _ _ => pg_name (i := 1) sc_ordered.nd rfl (Or.inl rfl)) (fun _ _ _ _ _ => pts_nil)
      (fun _ _ _ _ _ => pv 1) (fun _ _ _ _ _ => pe_dget (hu_of hr) (pv 0) (pv 1) (fun _ _ => rfl)))), ?_⟩
    refine ⟨_, rfl, a, _, L, rfl, .inl ha, by simp, h64, fun ys p hperm hs hp => ?_⟩
    obtain rfl := sorted_asc hperm hs hasc
    refine ⟨p, rfl, ⟨_, SqL.of upd_same⟩, fun D hD => ?_⟩
    refine walk_any (walk_list (xs := ys.map V.str)) (fun i H' => Same (upd H p (.lst (ys.map V.str))) H' ∧ H' D = some (.dK ((ys.take i).map fun l => (.inr l, g l)))) ⟨Same.upd hD, upd_same⟩ (fun i H' _ z => SqL.of (z.1 _ _ upd_same)) ?_ ?_
    · rintro i v H1 H2 hi ⟨z1, z2⟩ ⟨rfl, hv⟩
      obtain ⟨l, hl, rfl⟩ := get_map hv
      have gv : valV (ys.map fun l => ((Sum.inr l : Key), g l)) (.inr l) = some (g l) := by rw [val_map g, if_pos (mem_of_get hl)]
      have ha1 := z1 _ _ (Same.upd hp _ _ ha)
      refine ⟨rfl, tyes ⟨_, rfl, _, rfl, _, rfl, a, g l, rfl, gv ▸ DGet.k (k := .inr l) ha1, _, .inr l, rfl, z2, ?_, Same.updN z1 hD, ?_⟩⟩
      · rw [List.length_map, List.length_take, sizeLine_eq]; omega
      · rw [upd_same, putK_new]
        · rw [List.take_add_one, hl]; simp
        · rw [val_map g, if_neg]
          intro hm
          obtain ⟨j, hj, hj2⟩ := List.mem_take_iff_getElem.mp hm
          obtain ⟨hlt, hj3⟩ := List.getElem?_eq_some_iff.mp hl
          exact List.pairwise_iff_getElem.mp (asc_nodup hasc) j i _ hlt (by omega) (hj2.trans hj3.symm)
    · rintro H1 ⟨z1, z2⟩
      rw [List.length_map, List.take_length] at z2
      exact q D H1 ((Same.upd hp).trans z1) (back_none hD) z2

def spOffInit (K : PySem.W.Frag) : Sp := fun vs H Q _ => ∃ R o a b dx T C, vs = [.ref o, .ref R.c, .ref a, .ref b] ∧ H o = some (.ins (cOff K) dx []) ∧ H a = some (.dK (tKvs R T)) ∧ H b = some (.dK (cKvs R C)) ∧ CatAt K H R.c R.fs ∧ fsOk R.fs ∧
  (∀ l ∈ T, ThingAt K H R l) ∧ (∀ l ∈ C, ClaimAt K H R l) ∧ LabOk T C ∧ ∀ H', SameX o H H' → (∃ dx f l, H' o = some (.ins (cOff K) dx [("own_catalog", .ref R.c), ("found", .ref f), ("lost", .ref l)]) ∧ H' f = some (.dK (tKvs R T)) ∧ H' l = some (.dK (cKvs R C)) ∧ H f = none ∧ H l = none) → Q .non H'
theorem ok_offInit (F : Df K "__init__" "Office.__init__" sOffInit f) (M : Mk K (cOff K) f) (Tx : Txt K mg) (cO : C8.Cal P w K mg base 1 "ordered" spOrdered []) (cW : C8.Cal P w K mg base 1 "is_word" spIsWord [])
    (pTN : Pro P w K mg base 1 (cThing K) "note" (spAttr (cThing K) "own_note")) (pCN : Pro P w K mg base 1 (cClaim K) "note" (spAttr (cClaim K) "own_note"))
    (pNC : Pro P w K mg base 1 (cNote K) "catalog" (spAttr (cNote K) "own_catalog")) (nC : NeM P w K mg base 3 (cCat K) (spCatEq K)) : C8.Mak P w K mg base 5 "Office" (cOff K) (spOffInit K) [] := by
  refine F.mak M Tx.mOff sc_offInit (fun _ _ _ _ _ _ us hl => match us, hl with | [_, _, _, _], _ => rfl) (fun vs H Q E h => ?_) (fun cdv A outer s H vs Q E hr h => ?_)
  · obtain ⟨R, o, a, b, dx, T, C, rfl, _⟩ := h; rfl
  · obtain ⟨R, o, a, b, dx, T, C, rfl, ho, ha, hb, hcat, hfs, hth, hcl, hlab, q⟩ := h
    refine ⟨_, pss_cons (ps_fld (pv 0) (pv 1) rfl)
      (pss_cons (ps_fld (pv 0) (C8.pe_c cO hr (by decide) (by rfl) (pa_cons (pv 2) pa_nil)) rfl)
      (pss_cons (ps_fld (pv 0) (C8.pe_c cO hr (by decide) (by rfl) (pa_cons (pv 3) pa_nil)) rfl)
      (pss_one (ps_for PassesOwn.never rfl (pi_tup (pe_tup (pa_cons (pe_tup (pa_cons (C8.pe_gc (by rfl) Tx.gThings) (pa_cons (pe_fld (pv 0) rfl) pa_nil))) (pa_cons (pe_tup (pa_cons (C8.pe_gc (by rfl) Tx.gClaims) (pa_cons (pe_fld (pv 0) rfl) pa_nil))) pa_nil)))) (pg_n2 K (i := 4) (j := 5) rfl rfl sc_offInit.nd rfl rfl (by first | exact Or.inl rfl | exact Or.inr rfl) (by first | exact Or.inl rfl | exact Or.inr rfl) (by first | exact Or.inr rfl | exact Or.inl rfl) (by first | exact Or.inr rfl | exact Or.inl rfl))
        (pss_cons (ps_lock (ps_for PassesOwn.never rfl (pi_items (pv 5)) (pg_n2 K (i := 6) (j := 7) rfl rfl sc_offInit.nd rfl rfl (by first | exact Or.inl rfl | exact Or.inr rfl) (by first | exact Or.inl rfl | exact Or.inr rfl) (by first | exact Or.inr rfl | exact Or.inl rfl) (by first | exact Or.inr rfl | exact Or.inl rfl))
          (pss_cons (ps_set sc_offInit.nd (i := 8) rfl (Or.inl rfl) (pe_and (pe_cmpR op_eq (pv 4) (C8.pe_gc (by rfl) Tx.gClaims) (nomark _)) (pe_one (pe_cmp (pc_din (hu_of hr) (pv 6) (pe_fld (pv 0) rfl))))))
          (pss_one (ps_if (PW.pt (pw_or (pt_not (pt_val (C8.pe_c cW hr (by decide) (by rfl) (pa_cons (pv 6) pa_nil)))) (pw_or (pt_cmpR (op_neM nC hr (by decide)) (pe_pr pNC hr (by decide) (pe_prOr pTN pCN hr (by decide) (pv 7))) (pv 1) (nomark _)) (pw_or1 (pt_val (pv 8))))))
            pss_never pss_nil)))))
        (pss_one (ps_if (pt_cmpR op_gt (pe_callB call_lenD (by rfl) Tx.len boot_len (pa_cons (pv 5) pa_nil)) (C8.pe_gc (by rfl) Tx.gMaxLabels) (nomark _)) pss_never pss_nil))))))), ?_⟩
    have hto : a ≠ o := ne_of ha ho (by intro z; cases z)
    have hbo : b ≠ o := ne_of hb ho (by intro z; cases z)
    refine ⟨_, rfl, _, rfl, o, _, dx, [], rfl, ho, Tx.clOff, Tx.naOCat, by decide, ?_⟩
    refine ⟨_, rfl, a, T, (fun l => .ref (R.ta l)), rfl, by rw [upd_ne hto]; exact ha, asc_of hlab.t asc_tL, by have := hlab.tlen; omega, fun f H1 s1 hfn hf => ?_⟩
    have ho1 := s1 _ _ upd_same
    refine ⟨_, rfl, o, _, dx, _, rfl, ho1, Tx.clOff, Tx.naFound, by show 1 < 1000; decide, ?_⟩
    have hfo : f ≠ o := ne_of hf ho1 (by intro z; cases z)
    refine ⟨_, rfl, b, C, (fun l => .ref (R.ca l)), rfl, by rw [upd_ne hbo]; exact s1 _ _ (by rw [upd_ne hbo]; exact hb), asc_of hlab.c asc_cL, by have := hlab.clen; omega, fun l H2 s2 hln hl => ?_⟩
    have ho2 := s2 _ _ upd_same
    have hlo : l ≠ o := ne_of hl ho2 (by intro z; cases z)
    refine ⟨_, rfl, o, _, dx, _, rfl, ho2, Tx.clOff, Tx.naLost, by show 2 < 1000; decide, ?_⟩
    dsimp only
    refine gen_for (fun Hb => SameX o H Hb ∧ Hb o = some (.ins (cOff K) dx [("own_catalog", .ref R.c), ("found", .ref f), ("lost", .ref l)]) ∧ Hb f = some (.dK (tKvs R T)) ∧ Hb l = some (.dK (cKvs R C))) ?_ ?_
    · refine ⟨fun x u hx e => ?_, upd_same, by rw [upd_ne hfo]; exact s2 _ _ (by rw [upd_ne hfo]; exact hf), by rw [upd_ne hlo]; exact hl⟩
      rw [upd_ne hx]
      refine s2 _ _ ?_
      rw [upd_ne hx]
      refine s1 _ _ ?_
      rw [upd_ne hx]; exact e
    have hfn0 : H f = none := back_none hfn
    have hln0 : H l = none := back_none (none_of s1 (back_none hln))
    clear ho1 ho2 s1 s2 hf hl
    rintro Hb ⟨sb, hbo1, hbf, hbl⟩
    have hcatb : CatAt K Hb R.c R.fs := hcat.keepI ho sb
    have hthb : ∀ l ∈ T, ThingAt K Hb R l := fun l hl => (hth l hl).keepI ho sb
    have hclb : ∀ l ∈ C, ClaimAt K Hb R l := fun l hl => (hcl l hl).keepI ho sb
    refine ⟨_, rfl, o, _, dx, _, _, rfl, hbo1, Tx.clOff, Tx.naFound, rfl, by show 2 ≤ sizeLine; decide, fun q1 hq1 => ?_⟩
    refine ⟨_, rfl, o, _, dx, _, _, rfl, upd_keep hbo1 hq1, Tx.clOff, Tx.naLost, rfl, by show 2 ≤ sizeLine; decide, fun q2 hq2 => ⟨by show 2 ≤ sizeLine; decide, fun q0 hq0 => ?_⟩⟩
    have s0 : Same Hb (upd (upd (upd Hb q1 (.tup [.str "things", .ref f])) q2 (.tup [.str "claims", .ref l])) q0 (.tup [.ref q1, .ref q2])) := Same.upd' (Same.upd' (Same.upd hq1) hq2) hq0
    have hent : ∀ x ∈ [V.ref q1, V.ref q2], Ent K (upd (upd (upd Hb q1 (.tup [.str "things", .ref f])) q2 (.tup [.str "claims", .ref l])) q0 (.tup [.ref q1, .ref q2])) R T x := by
      intro x hx
      rcases List.mem_cons.mp hx with rfl | hx
      · refine ⟨q1, "things", f, T, R.ta, rfl, upd_keep (upd_keep upd_same hq2) hq0, s0 _ _ hbf, hlab.tlen, fun e => absurd e (by decide), fun l' hl' => ⟨words_tL l' (hlab.t.subset hl'), ?_⟩⟩
        obtain ⟨dt, t1⟩ := (hthb l' hl').ex
        obtain ⟨dn, d', kvs, n1, _⟩ := (hthb l' hl').note.ex
        exact ⟨dt, _, _, dn, _, .inl (s0 _ _ t1), rfl, s0 _ _ n1⟩
      · rw [List.mem_singleton.mp hx]
        refine ⟨q2, "claims", l, C, R.ca, rfl, upd_keep upd_same hq0, s0 _ _ hbl, hlab.clen, fun _ l' hl' => hlab.cNotT hl', fun l' hl' => ⟨words_cL l' (hlab.c.subset hl'), ?_⟩⟩
        obtain ⟨dt, wo, t1⟩ := (hclb l' hl').ex
        obtain ⟨dn, d', kvs, n1, _⟩ := (hclb l' hl').note.ex
        exact ⟨dt, _, _, dn, _, .inr (s0 _ _ t1), rfl, s0 _ _ n1⟩
    refine ⟨q0, rfl, ⟨_, SqT.of upd_same⟩, ?_⟩
    refine for_it (walk_tup (xs := [V.ref q1, V.ref q2])) (fun i σ H' => Same (upd (upd (upd Hb q1 (.tup [.str "things", .ref f])) q2 (.tup [.str "claims", .ref l])) q0 (.tup [.ref q1, .ref q2])) H' ∧ ∃ x4 x5 x6 x7 x8, σ = [some (.ref o), some (.ref R.c), some (.ref a), some (.ref b), x4, x5, x6, x7, x8])
      ⟨Same.refl _, _, _, _, _, _, rfl⟩ (fun i σ H' _ z => SqT.of (z.1 _ _ upd_same)) ?_ ?_
    · rintro i x σ H1 H2 hi ⟨s1, x4, x5, x6, x7, x8, rfl⟩ ⟨rfl, hx⟩
      obtain ⟨q', pn, d, L, ad, rfl, e1, e2, e3, e4, e5⟩ := (hent x (mem_of_get hx)).same s1
      have sHb : Same Hb H2 := s0.trans s1
      refine ⟨q', _, rfl, SqT.of e1, rfl, _, _, rfl, _, _, rfl, rfl, ?_⟩
      refine ⟨d, _, e2, trivial, fun od => ?_⟩
      refine ⟨_, rfl, d, od, _, rfl, upd_same, ?_⟩
      refine for_it walk_items (fun j σ H' => Same (upd H2 d (.frz od (.dK (L.map fun l => (.inr l, .ref (ad l)))))) H' ∧ ∃ x6 x7 x8, σ = [some (.ref o), some (.ref R.c), some (.ref a), some (.ref b), some (.str pn), some (.ref d), x6, x7, x8])
        ⟨Same.refl _, _, _, _, rfl⟩ (fun j σ H' _ z => z.1 _ _ upd_same) ?_ ?_
      · rintro j v σ H3 H4 hj ⟨u1, y6, y7, y8, rfl⟩ ⟨T', k, u, rfl, hT', rfl, hk, hu⟩
        obtain ⟨l', hl', hlk, hlu⟩ := item_get (g := fun l => .ref (ad l)) hk hu
        subst hlk; subst hlu
        obtain ⟨g0, dx', fs', n, dn, d', g1, g2, g3⟩ := e5 l' (mem_of_get hl')
        have kp : ∀ {b' u'}, H2 b' = some u' → (∀ kvs, u' ≠ .dK kvs) → upd H3 T' (.tup [.str l', .ref (ad l')]) b' = some u' := fun h hne =>
          upd_keep (u1 _ _ (by rw [upd_ne (fun e => by rw [e, e2] at h; exact hne _ (Option.some.inj h).symm)]; exact h)) hT'
        have ko := kp (sHb _ _ hbo1) (by intro kvs z; cases z)
        refine ⟨T', _, rfl, SqT.of upd_same, rfl, _, _, rfl, _, _, rfl, rfl, ?_⟩
        have hrd : Rd (upd H3 T' (.tup [.str l', .ref (ad l')])) f (.dK (tKvs R T)) := by
          by_cases hfd : f = d
          · have e6 := sHb _ _ hbf
            rw [hfd, e2] at e6
            have e7 : (HO.dK (L.map fun l => (.inr l, .ref (ad l)))) = .dK (tKvs R T) := Option.some.inj e6
            rw [← e7, hfd]
            exact .inr ⟨od, upd_keep (u1 _ _ upd_same) hT'⟩
          · exact .inl (upd_keep (u1 _ _ (by rw [upd_ne hfd]; exact sHb _ _ hbf)) hT')
        have goal2 : ∀ (D : Ends) , (∀ H5, Same (upd H3 T' (.tup [.str l', .ref (ad l')])) H5 → D.nx [some (.ref o), some (.ref R.c), some (.ref a), some (.ref b), some (.str pn), some (.ref d), some (.str l'), some (.ref (ad l')), some (.bl false)] H5) →
            (tIfS (tOr (tNot (tB (tCall spIsWord [] C8.E0 (tCons (tVar 6) tNil)))) (tOr (tTest (tOp (rNeOwn (cCat K) (spCatEq K)) (tProp (cNote K) (spAttr (cNote K) "own_catalog") [] C8.E0 (tPrOr (cThing K) (spAttr (cThing K) "own_note") (cClaim K) (spAttr (cClaim K) "own_note") (tVar 7))) (tVar 1))) (tB (tVar 8)))) tNever tNext)
              D [some (.ref o), some (.ref R.c), some (.ref a), some (.ref b), some (.str pn), some (.ref d), some (.str l'), some (.ref (ad l')), some (.bl false)] (upd H3 T' (.tup [.str l', .ref (ad l')])) := by
          intro D hD
          refine ⟨_, rfl, l', rfl, g0, fun H5 s5 => ⟨true, rfl, iteF ?_⟩⟩
          have kn := s5 _ _ (kp g3 (by intro kvs z; cases z))
          have kc : CatAt K H5 R.c R.fs := by
            obtain ⟨dx', a', h1, L', h2, h3, h4⟩ := (hcatb.same sHb).ex
            refine ⟨dx', a', s5 _ _ (kp h1 (by intro kvs z; cases z)), L', s5 _ _ (kp h2 (by intro kvs z; cases z)), h3, fun p hp => ?_⟩
            obtain ⟨wa, h5, h6⟩ := (h4 p hp).ex
            exact ⟨wa, s5 _ _ (kp h5 (by intro kvs z; cases z)), s5 _ _ (kp h6 (by intro kvs z; cases z))⟩
          obtain ⟨cdx, ca, kc1, _⟩ := kc.ex
          have pr : ∀ {Q : VK}, Q (.ref n) H5 → ∃ a dx fs, V.ref (ad l') = .ref a ∧ ((H5 a = some (.ins (cThing K) dx fs) ∧ spAttr (cThing K) "own_note" [.ref a] H5 Q C8.E0) ∨ (H5 a = some (.ins (cClaim K) dx fs) ∧ spAttr (cClaim K) "own_note" [.ref a] H5 Q C8.E0)) := by
            intro Q hQ
            rcases g1 with g1 | g1
            · have k1 := s5 _ _ (kp g1 (by intro kvs z; cases z))
              exact ⟨ad l', dx', fs', rfl, .inl ⟨k1, ad l', dx', fs', _, rfl, k1, g2, hQ⟩⟩
            · have k1 := s5 _ _ (kp g1 (by intro kvs z; cases z))
              exact ⟨ad l', dx', fs', rfl, .inr ⟨k1, ad l', dx', fs', _, rfl, k1, g2, hQ⟩⟩
          refine ⟨_, rfl, pr ⟨n, dn, _, rfl, kn, n, dn, _, _, rfl, kn, rfl, _, rfl, R.c, cdx, _, R.c, cdx, _, rfl, rfl, kc1, kc1, R.c, R.fs, rfl, kc, hfs, true, rfl, _, rfl, iteF ⟨_, rfl, false, rfl, iteF (hD H5 s5)⟩⟩⟩
        have fin : ∀ H5, Same (upd H3 T' (.tup [.str l', .ref (ad l')])) H5 → (Same (upd H2 d (.frz od (.dK (L.map fun l => (.inr l, .ref (ad l)))))) H5 ∧ ∃ x6 x7 x8, [some (V.ref o), some (.ref R.c), some (.ref a), some (.ref b), some (.str pn), some (.ref d), some (.str l'), some (.ref (ad l')), some (.bl false)] = [some (.ref o), some (.ref R.c), some (.ref a), some (.ref b), some (.str pn), some (.ref d), x6, x7, x8]) :=
          fun H5 s5 => ⟨(Same.upd' u1 hT').trans s5, _, _, _, rfl⟩
        refine ⟨_, rfl, rfl, _, rfl, ?_⟩
        by_cases hpn : pn = "claims"
        · rw [decide_eq_true (congrArg V.str hpn)]
          refine iteT ⟨_, rfl, _, rfl, o, _, dx, _, _, rfl, ko, Tx.clOff, Tx.naFound, rfl, f, none, rfl, .inl ⟨_, .inr l', hrd, rfl, (val_tN (e4 hpn l' (mem_of_get hl'))).symm⟩, ?_⟩
          exact goal2 _ fin
        · rw [decide_eq_false (fun e => hpn (V.str.inj e))]
          refine iteF ?_
          exact goal2 _ fin
      · rintro σ H3 ⟨u1, y6, y7, y8, rfl⟩
        refine ⟨u1 _ _ upd_same, ?_⟩
        have s2 := Same.unlock e2 u1
        refine ⟨_, rfl, d, _, rfl, upd_same, _, _, rfl, rfl, _, rfl, ?_⟩
        rw [decide_eq_false (by rw [List.length_map]; omega)]
        exact iteF ⟨s1.trans s2, _, _, _, _, _, rfl⟩
    · rintro σ H1 ⟨s1, _⟩
      have s2 := s0.trans s1
      exact q H1 (fun b' u' hb' e => s2 _ _ (sb _ _ hb' e)) ⟨dx, f, l, s2 _ _ hbo1, s2 _ _ hbf, s2 _ _ hbl, hfn0, hln0⟩
end
end Lk
/-! Kd10 -/
namespace Lk
open PySem PySem.Spec PyProof.Rows L2
theorem rmv_sub {l : Str} {L : List Str} : (Ld.rmv l L).Sublist L := List.filter_sublist
theorem rmv_len {l : Str} {L : List Str} : (Ld.rmv l L).length ≤ L.length := List.length_filter_le _ _
theorem mem_rmv {l x : Str} {L : List Str} (h : x ∈ Ld.rmv l L) : x ∈ L := (List.mem_filter.mp h).1
theorem LabOk.rm {T C : List Str} (h : LabOk T C) (l : Str) : LabOk (Ld.rmv l T) (Ld.rmv l C) :=
  ⟨rmv_sub.trans h.t, rmv_sub.trans h.c, Nat.le_trans rmv_len h.tlen, Nat.le_trans rmv_len h.clen⟩
/-- one turn of {one: x for one, x in d.items() if one != label} -/
theorem put_rmv {L : List Str} {g : Str → V} {i : Nat} {x l : Str} (hn : L.Nodup) (hx : L[i]? = some x) (h : x ≠ l) :
    putK ((Ld.rmv l (L.take i)).map fun l => ((Sum.inr l : Key), g l)) (.inr x) (g x) = (Ld.rmv l (L.take (i + 1))).map fun l => ((Sum.inr l : Key), g l) := by
  rw [putK_new]
  · unfold Ld.rmv
    rw [List.take_add_one, hx, List.filter_append]; simp [h]
  · rw [val_map g, if_neg]
    intro hm
    obtain ⟨j, hj, hj2⟩ := List.mem_take_iff_getElem.mp (mem_rmv hm)
    obtain ⟨hlt, hj3⟩ := List.getElem?_eq_some_iff.mp hx
    exact List.pairwise_iff_getElem.mp hn j i _ hlt (by omega) (hj2.trans hj3.symm)
theorem skip_rmv {L : List Str} {i : Nat} {x l : Str} (hx : L[i]? = some x) (h : x = l) : Ld.rmv l (L.take (i + 1)) = Ld.rmv l (L.take i) := by
  unfold Ld.rmv
  rw [List.take_add_one, hx, List.filter_append]; simp [h]
section
variable {P : Program} {w : World} {K : PySem.W.Frag} {mg : Str → Option Value} {base : Heap} {f : Addr}
theorem sc_restOf : FnScope ["office", "claim", "thing"] ["office", "claim", "thing"] (defScope sRestOf) := ⟨rfl, rfl, rfl, by decide +kernel, rfl, by decide +kernel, by decide +kernel⟩
abbrev nm_restOf : List Str := ["office", "claim", "thing"]
theorem sc_valFitting : FnScope ["office", "claim", "thing"] ["office", "claim", "thing"] (defScope sValFitting) := ⟨rfl, rfl, rfl, by decide +kernel, rfl, by decide +kernel, by decide +kernel⟩
abbrev nm_valFitting : List Str := ["office", "claim", "thing"]
theorem sc_handed : FnScope ["office", "claim", "thing"] ["office", "claim", "thing"] (defScope sHanded) := ⟨rfl, rfl, rfl, by decide +kernel, rfl, by decide +kernel, by decide +kernel⟩
abbrev nm_handed : List Str := ["office", "claim", "thing"]
def spWithout (K : PySem.W.Frag) : Sp := fun vs H Q _ => ∃ R o T C l, vs = [.ref o, .str l] ∧ OffAt K H R o T C ∧ (l ∈ T ∨ l ∈ C) ∧ ∀ o' H', Same H H' → OffAt K H' R o' (Ld.rmv l T) (Ld.rmv l C) → Q (.ref o') H'
theorem ok_without (F : Df K "without" "Office.without" sOffWithout f) (c : Cls K (cOff K)) (me : Meth K (cOff K) "without" f) (Tx : Txt K mg) (cO : SpM P w K mg base 1 (cOff K) "__contains__" (spOffContains K))
    (cM : C8.Mak P w K mg base 5 "Office" (cOff K) (spOffInit K) []) : C8.Met P w K mg base 7 (cOff K) "without" (spWithout K) [] := by
  refine F.met c me sc_without (fun _ _ _ _ _ _ us hl => match us, hl with | [_, _], _ => rfl) (fun vs H Q E h => ?_) (fun cdv A outer s H vs Q E hr h => ?_)
  · obtain ⟨R, o, T, C, l, rfl, _⟩ := h; rfl
  · obtain ⟨R, o, T, C, l, rfl, ho, hl, q⟩ := h
    obtain ⟨dx, f, b, h1, h2, h3⟩ := ho.ex
    refine ⟨_, pss_cons (ps_if (pt_cmpR (op_notInM cO hr (by decide)) (pv 1) (pv 0) rfl) pss_never pss_nil)
      (pss_cons (ps_lock (ps_setDc (i := 2) (own := [("one", 4), ("thing", 5)]) (by rfl) sc_without.nd rfl rfl (swd_true rfl rfl rfl (by decide +kernel)) (pi_items (pe_fld (pv 0) rfl)) (blkOk_by (N := nm_without) (sc := defScope sOffWithout) (by decide +kernel)) (fun _ _ _ _ _ => pg_n2 K (i := 4) (j := 5) rfl rfl sc_without.nd rfl rfl (Or.inl rfl) (Or.inl rfl) (Or.inr rfl) (Or.inr rfl))
        (fun _ _ _ _ _ => pts_one (pt_cmpR op_ne (pv 4) (pv 1) (nomark _))) (fun _ _ _ _ _ => pv 4) (fun _ _ _ _ _ => pv 5)))
      (pss_cons (ps_lock (ps_setDc (i := 3) (own := [("one", 4), ("claim", 6)]) (by rfl) sc_without.nd rfl rfl (swd_true rfl rfl rfl (by decide +kernel)) (pi_items (pe_fld (pv 0) rfl)) (blkOk_by (N := nm_without) (sc := defScope sOffWithout) (by decide +kernel)) (fun _ _ _ _ _ => pg_n2 K (i := 4) (j := 6) rfl rfl sc_without.nd rfl rfl (Or.inl rfl) (Or.inl rfl) (Or.inr rfl) (Or.inr rfl))
        (fun _ _ _ _ _ => pts_one (pt_cmpR op_ne (pv 4) (pv 1) (nomark _))) (fun _ _ _ _ _ => pv 4) (fun _ _ _ _ _ => pv 6)))
      (pss_one (ps_ret (C8.pe_mk cM hr (by decide) (by rfl) (pa_cons (pe_fld (pv 0) rfl) (pa_cons (pv 2) (pa_cons (pv 3) pa_nil)))))))), ?_⟩
    refine ⟨_, rfl, _, rfl, o, dx, _, rfl, h1, R, o, T, C, l, rfl, ho, hl, _, rfl, _, rfl, iteF ?_⟩
    have hof : o ≠ f := ne_of h1 h2 (by intro z; cases z)
    have hob : o ≠ b := ne_of h1 h3 (by intro z; cases z)
    have hTn : T.Nodup := nodup_tL.sublist ho.lab.t
    have hCn : C.Nodup := nodup_cL.sublist ho.lab.c
    have hTl := ho.lab.tlen
    have hCl := ho.lab.clen
    refine ⟨f, _, h2, trivial, fun od => ⟨_, rfl, o, _, dx, _, _, rfl, by rw [upd_ne hof]; exact h1, c, Tx.naFound, rfl, f, od, _, rfl, upd_same, fun D hD => ?_⟩⟩
    have hDf : D ≠ f := fun e => by rw [e, upd_same] at hD; cases hD
    refine walk_any walk_items (fun i H' => Same (upd H f (.frz od (.dK (tKvs R T)))) H' ∧ H' D = some (.dK (tKvs R (Ld.rmv l (T.take i))))) ⟨Same.upd hD, upd_same⟩ (fun i H' _ z => z.1 _ _ upd_same) ?_ ?_
    · rintro i v H1 H2 hi ⟨z1, z2⟩ ⟨T', k, u, rfl, hT', rfl, hk, hu⟩
      obtain ⟨x, hx, hlk, hlu⟩ := item_get (g := fun l => .ref (R.ta l)) hk hu
      subst hlk; subst hlu
      have z3 : Same (upd H f (.frz od (.dK (tKvs R T)))) (upd H1 T' (.tup [.str x, .ref (R.ta x)])) := Same.upd' z1 hT'
      have z4 : upd H1 T' (.tup [.str x, .ref (R.ta x)]) D = some (.dK (tKvs R (Ld.rmv l (T.take i)))) := upd_keep z2 hT'
      refine ⟨T', _, rfl, SqT.of upd_same, rfl, _, _, rfl, _, _, rfl, rfl, rfl, ?_⟩
      refine ⟨_, rfl, _, rfl, rfl, _, rfl, ?_⟩
      have ed : decide (V.str x = V.str l) = decide (x = l) := by simp
      show if (!decide (V.str x = V.str l)) = true then _ else _
      rw [ed]
      by_cases hxl : x = l
      · rw [decide_eq_true hxl]
        refine iteF ⟨z3, ?_⟩
        rw [skip_rmv hx hxl]; exact z4
      · rw [decide_eq_false hxl]
        refine iteT ⟨_, rfl, _, rfl, _, .inr x, rfl, z4, ?_, Same.updN z3 hD, ?_⟩
        · unfold tKvs
          have := rmv_len (l := l) (L := T.take i)
          rw [List.length_map, sizeLine_eq]; rw [List.length_take] at this; omega
        · rw [upd_same]; unfold tKvs; rw [put_rmv (g := fun l => .ref (R.ta l)) hTn hx hxl]
    · rintro H1 ⟨z1, z2⟩
      have e1 : T.take (tKvs R T).length = T := by unfold tKvs; rw [List.length_map, List.take_length]
      rw [e1] at z2
      have s1 := Same.unlock h2 z1
      refine ⟨z1 _ _ upd_same, ?_⟩
      refine gen_seq (fun Hb => Same H Hb ∧ Hb D = some (.dK (tKvs R (Ld.rmv l T)))) ⟨s1, by rw [upd_ne hDf]; exact z2⟩ ?_
      clear z1 z2 s1 hD hDf
      rintro Hb ⟨sb, hbD⟩
      have b1 := sb _ _ h1
      have b3 := sb _ _ h3
      refine ⟨b, _, b3, trivial, fun od2 => ⟨_, rfl, o, _, dx, _, _, rfl, by rw [upd_ne hob]; exact b1, c, Tx.naLost, rfl, b, od2, _, rfl, upd_same, fun D2 hD2 => ?_⟩⟩
      have hDb : D2 ≠ b := fun e => by rw [e, upd_same] at hD2; cases hD2
      refine walk_any walk_items (fun i H' => Same (upd Hb b (.frz od2 (.dK (cKvs R C)))) H' ∧ H' D2 = some (.dK (cKvs R (Ld.rmv l (C.take i))))) ⟨Same.upd hD2, upd_same⟩ (fun i H' _ z => z.1 _ _ upd_same) ?_ ?_
      · rintro i v H1 H2 hi ⟨z1, z2⟩ ⟨T', k, u, rfl, hT', rfl, hk, hu⟩
        obtain ⟨x, hx, hlk, hlu⟩ := item_get (g := fun l => .ref (R.ca l)) hk hu
        subst hlk; subst hlu
        have z3 : Same (upd Hb b (.frz od2 (.dK (cKvs R C)))) (upd H1 T' (.tup [.str x, .ref (R.ca x)])) := Same.upd' z1 hT'
        have z4 : upd H1 T' (.tup [.str x, .ref (R.ca x)]) D2 = some (.dK (cKvs R (Ld.rmv l (C.take i)))) := upd_keep z2 hT'
        refine ⟨T', _, rfl, SqT.of upd_same, rfl, _, _, rfl, _, _, rfl, rfl, rfl, ?_⟩
        refine ⟨_, rfl, _, rfl, rfl, _, rfl, ?_⟩
        have ed : decide (V.str x = V.str l) = decide (x = l) := by simp
        show if (!decide (V.str x = V.str l)) = true then _ else _
        rw [ed]
        by_cases hxl : x = l
        · rw [decide_eq_true hxl]
          refine iteF ⟨z3, ?_⟩
          rw [skip_rmv hx hxl]; exact z4
        · rw [decide_eq_false hxl]
          refine iteT ⟨_, rfl, _, rfl, _, .inr x, rfl, z4, ?_, Same.updN z3 hD2, ?_⟩
          · unfold cKvs
            have := rmv_len (l := l) (L := C.take i)
            rw [List.length_map, sizeLine_eq]; rw [List.length_take] at this; omega
          · rw [upd_same]; unfold cKvs; rw [put_rmv (g := fun l => .ref (R.ca l)) hCn hx hxl]
      · rintro H1 ⟨z1, z2⟩
        have e1 : C.take (cKvs R C).length = C := by unfold cKvs; rw [List.length_map, List.take_length]
        rw [e1] at z2
        have s1 := sb.trans (Same.unlock b3 z1)
        have hD1 : upd H1 b (.dK (cKvs R C)) D = some (.dK (tKvs R (Ld.rmv l T))) := Same.unlock b3 z1 _ _ hbD
        refine ⟨z1 _ _ upd_same, ?_⟩
        refine ⟨_, rfl, o, _, dx, _, _, rfl, s1 _ _ h1, c, Tx.naOCat, rfl, _, rfl, _, rfl, fun x dx2 hx hdx hne => ?_⟩
        have s2 : Same H (upd (upd (upd H1 b (.dK (cKvs R C))) dx2 (.own x)) x (.ins (cOff K) dx2 [])) := Same.upd' (Same.upd' s1 hdx) (by rw [upd_ne hne.symm]; exact hx)
        have kp2 : ∀ {y u}, upd H1 b (.dK (cKvs R C)) y = some u → upd (upd (upd H1 b (.dK (cKvs R C))) dx2 (.own x)) x (.ins (cOff K) dx2 []) y = some u := fun h => upd_keep (upd_keep h hdx) (by rw [upd_ne hne.symm]; exact hx)
        have ho2 := ho.same s2
        refine ⟨R, x, D, D2, dx2, Ld.rmv l T, Ld.rmv l C, rfl, upd_same, kp2 hD1, kp2 (by rw [upd_ne hDb]; exact z2), ho2.cat, ho2.fs, fun l' h' => ho2.th l' (mem_rmv h'), fun l' h' => ho2.cl l' (mem_rmv h'), ho.lab.rm l, fun H' sx hex => ⟨rfl, ?_⟩⟩
        have s3 : Same H H' := fun y u e => sx y u (fun e2 => by rw [e2] at e; rw [Same.upd' (o := .dK (cKvs R C)) s1 (by exact hx) |> fun _ => s1 _ _ e] at hx; cases hx) (s2 _ _ e)
        refine q x H' s3 ⟨(let ⟨a, b, c, e1, e2, e3, _⟩ := hex; ⟨a, b, c, e1, e2, e3⟩), (ho.same s3).cat, ho.fs, fun l' h' => (ho.same s3).th l' (mem_rmv h'), fun l' h' => (ho.same s3).cl l' (mem_rmv h'), ho.lab.rm l⟩

/-- an office without a claim and a thing -/
abbrev spRest (K : PySem.W.Frag) (fits : Bool) : Sp := fun vs H Q _ => ∃ R o T C c t, vs = [.ref o, .str c, .str t] ∧ OffAt K H R o T C ∧ c ∈ C ∧ t ∈ T ∧ (fits = true → fitR R c t = true) ∧ ∀ o' H', Same H H' → OffAt K H' R o' (Ld.rmv t T) (Ld.rmv c C) → Q (.ref o') H'
theorem rmv_no {l : Str} {L : List Str} (h : l ∉ L) : Ld.rmv l L = L := List.filter_eq_self.mpr fun x hx => by
  have : x ≠ l := fun e => h (e ▸ hx)
  simp [this]
theorem mem_rmv2 {l x : Str} {L : List Str} (h : x ∈ L) (hne : x ≠ l) : x ∈ Ld.rmv l L := List.mem_filter.mpr ⟨h, by simp [hne]⟩
theorem ok_restOf (F : Df K "rest_of" "rest_of" sRestOf f) (hm : mg "rest_of" = some (.ref f)) (Tx : Txt K mg) (cW : C8.Met P w K mg base 7 (cOff K) "without" (spWithout K) []) : C8.Cal P w K mg base 8 "rest_of" (spRest K false) [] := by
  refine F.cal hm sc_restOf (fun _ _ _ _ _ _ us hl => match us, hl with | [_, _, _], _ => rfl) (fun vs H Q E h => ?_) (fun cdv A outer s H vs Q E hr h => ?_)
  · obtain ⟨R, o, T, C, c, t, rfl, _⟩ := h; rfl
  · obtain ⟨R, o, T, C, c, t, rfl, ho, hc, ht, _, q⟩ := h
    refine ⟨_, pss_one (ps_ret (C8.pe_mt cW hr (by decide) (C8.pe_mt cW hr (by decide) (pv 0) (pa_cons (pv 1) pa_nil)) (pa_cons (pv 2) pa_nil))), ?_⟩
    obtain ⟨dx, f, b, h1, h2, h3⟩ := ho.ex
    have hcT := ho.lab.cNotT hc
    have htC := ho.lab.tNotC ht
    refine ⟨_, rfl, o, dx, _, rfl, h1, rfl, _, rfl, R, o, T, C, c, rfl, ho, .inr hc, fun o1 H1 s1 ho1 => ?_⟩
    obtain ⟨dx1, f1, b1, g1, _⟩ := ho1.ex
    refine ⟨o1, dx1, _, rfl, g1, rfl, _, rfl, R, o1, _, _, t, rfl, ho1, .inl (mem_rmv2 ht fun e => hcT (e ▸ ht)), fun o2 H2 s2 ho2 => ?_⟩
    rw [rmv_no hcT, rmv_no (l := t) (fun h => htC (mem_rmv h))] at ho2
    exact q o2 H2 (s1.trans s2) ho2
def spValFitting (K : PySem.W.Frag) : Sp := fun vs H Q _ => ∃ R o T C c t, vs = [.ref o, .str c, .str t] ∧ OffAt K H R o T C ∧ c ∈ C ∧ t ∈ T ∧ fitR R c t = true ∧ ∀ H', Same H H' → Q .non H'
theorem ok_valFitting (F : Df K "validate_fitting" "validate_fitting" sValFitting f) (hm : mg "validate_fitting" = some (.ref f)) (Tx : Txt K mg) (pT : Pro P w K mg base 1 (cOff K) "things" (spOffThings K)) (pC : Pro P w K mg base 1 (cOff K) "claims" (spOffClaims K))
    (cV : C8.Cal P w K mg base 4 "validate_pair" (spValPair K) []) (cI : C8.Cal P w K mg base 5 "is_fitting" (spIsFitting K) []) : C8.Cal P w K mg base 6 "validate_fitting" (spValFitting K) [] := by
  refine F.cal hm sc_valFitting (fun _ _ _ _ _ _ us hl => match us, hl with | [_, _, _], _ => rfl) (fun vs H Q E h => ?_) (fun cdv A outer s H vs Q E hr h => ?_)
  · obtain ⟨R, o, T, C, c, t, rfl, _⟩ := h; rfl
  · obtain ⟨R, o, T, C, c, t, rfl, ho, hc, ht, hf, q⟩ := h
    refine ⟨_, pss_cons (ps_expr (C8.pe_c cV hr (by decide) (by rfl) (pa_cons (pv 0) (pa_cons (pv 1) (pa_cons (pv 2) pa_nil)))))
      (pss_one (ps_if (pt_not (pt_val (C8.pe_c cI hr (by decide) (by rfl) (pa_cons (pe_dget (hu_of hr) (pe_pr pC hr (by decide) (pv 0)) (pv 1) (fun _ _ => rfl)) (pa_cons (pe_dget (hu_of hr) (pe_pr pT hr (by decide) (pv 0)) (pv 2) (fun _ _ => rfl)) pa_nil))))) pss_never pss_nil)), ?_⟩
    obtain ⟨dx, f, b, h1, h2, h3⟩ := ho.ex
    refine ⟨_, rfl, _, rfl, _, rfl, R, o, T, C, c, t, rfl, ho, hc, ht, fun H1 s1 => ?_⟩
    refine ⟨_, rfl, o, dx, _, rfl, s1 _ _ h1, R, o, T, C, rfl, ho.same s1, fun p hp => ⟨_, rfl, p, .ref (R.ca c), rfl, val_c (R := R) hc ▸ DGet.k (k := .inr c) upd_same, ?_⟩⟩
    have s2 := Same.upd' (o := .dK (cKvs R C)) s1 hp
    refine ⟨_, rfl, o, dx, _, rfl, s2 _ _ h1, R, o, T, C, rfl, ho.same s2, fun p2 hp2 => ⟨_, rfl, p2, .ref (R.ta t), rfl, val_t (R := R) ht ▸ DGet.k (k := .inr t) upd_same, ?_⟩⟩
    have s3 := Same.upd' (o := .dK (tKvs R T)) s2 hp2
    have ho3 := ho.same s3
    refine ⟨R, c, t, rfl, ho3.cl c hc, ho3.th t ht, ho3.cat, ho3.fs.2.1, fun H4 s4 => ?_⟩
    rw [hf]
    exact ⟨true, rfl, iteF (q H4 (s3.trans s4))⟩
theorem ok_handed (F : Df K "handed" "handed" sHanded f) (hm : mg "handed" = some (.ref f)) (Tx : Txt K mg) (cV : C8.Cal P w K mg base 6 "validate_fitting" (spValFitting K) []) (cR : C8.Cal P w K mg base 8 "rest_of" (spRest K false) []) :
    C8.Cal P w K mg base 9 "handed" (spRest K true) [] := by
  refine F.cal hm sc_handed (fun _ _ _ _ _ _ us hl => match us, hl with | [_, _, _], _ => rfl) (fun vs H Q E h => ?_) (fun cdv A outer s H vs Q E hr h => ?_)
  · obtain ⟨R, o, T, C, c, t, rfl, _⟩ := h; rfl
  · obtain ⟨R, o, T, C, c, t, rfl, ho, hc, ht, hf, q⟩ := h
    refine ⟨_, pss_cons (ps_expr (C8.pe_c cV hr (by decide) (by rfl) (pa_cons (pv 0) (pa_cons (pv 1) (pa_cons (pv 2) pa_nil))))) (pss_one (ps_ret (C8.pe_c cR hr (by decide) (by rfl) (pa_cons (pv 0) (pa_cons (pv 1) (pa_cons (pv 2) pa_nil)))))), ?_⟩
    exact ⟨_, rfl, _, rfl, _, rfl, R, o, T, C, c, t, rfl, ho, hc, ht, hf rfl, fun H1 s1 => ⟨_, rfl, _, rfl, _, rfl, R, o, T, C, c, t, rfl, ho.same s1, hc, ht, fun e => (Bool.false_ne_true e).elim, fun o' H' s' h' => q o' H' (s1.trans s') h'⟩⟩
end
end Lk
/-! Kr4 -/
namespace Lk
open PySem PySem.Spec PyProof.Rows L2
section
variable {X : Cx}
/-- sorted(t), t a tuple of fewer than 64 texts -/
theorem cr_sortedTup (hcalm : X.calm = true) : CallR X (.builtin "sorted") (fun vs H Q => ∃ (a : Addr) (ks : List Str), vs = [.ref a] ∧ SqT X.K H a (ks.map V.str) ∧ ks.length < 64 ∧
    ∀ ys p, ys.Perm ks → sortedS ys = true → H p = none → Q (.ref p) (upd H p (.lst (ys.map V.str)))) := by
  intro pins s σ H xs us Q I r q
  obtain ⟨a, ks, ex, hd, h64, q⟩ := q
  subst ex
  obtain ⟨u, eu, rx⟩ := vals1 r
  subst eu
  cases rx
  obtain ⟨its, rv, ⟨o, ho, hc, n, hsq⟩, hz⟩ := I.tuple hd
  have hS : StrsAre its ks := rv.strs
  have hl : its.length = ks.length := by have := rv.length; rw [List.length_map] at this; exact this.symm
  refine Calls.call_function_entry PyProof.Rows.kind_sorted PyProof.Rows.plain_sorted PyProof.Rows.entry_sorted (PyProof.Rows.args_sorted1 _) ?_
  unfold Builtin.«sorted»
  refine wpAny_bind (m := checkCount "sorted" 1 1 _) (wpAny_pure ?_)
  refine wpAny_bind (wpAny_collect_seq (A := X.A.in1) a (.inr rfl) ho hc hsq (fun h' hk => ?_) (by rw [List.size_toArray, hl, sizeLine_eq]; omega))
  have I1 : Inv X pins σ H { s with heap := h', toks := s.toks } := I.kept hk
  rw [List.toList_toArray]
  refine wpAny_bind (wpAny_newList ?_ (by rw [hl, sizeLine_eq]; omega))
  have hoL : (h'.push (seqObj "list" its.toArray 0)).get? h'.objs.size = some (seqObj "list" its.toArray 0) := Heap.get?_push_size _ rfl
  show wpAny _ _ _ _ _ { s with heap := h'.push (seqObj "list" its.toArray 0) }
  refine wpAny_bind (wpAny_holding (wpAny_call_entry PyProof.Rows.slot_list_sort ⟨_, hoL, rfl⟩ PyProof.Rows.entry_list_sort
    (list_sort_treeK strKind_oneLt (s := { s with heap := h'.push (seqObj "list" its.toArray 0) }) hoL hS.keysOf (fun v₁ v₂ rest e => keyKind_strs (by rw [← e]; exact hS)) (by rw [hl]; exact h64) fun st' hp hs => ⟨_, rfl, ?_⟩)
    (PyProof.Rows.args_list_sort _)))
  obtain ⟨ys, g1, g2, g3⟩ := sorted_out_str hS hp hs
  obtain ⟨e', he'⟩ := PyProof.Rows.sortedHeap_at (vs := its) (out := (arrOf st').map (·.2)) hoL
  have hlen : (ys.map V.str).length ≤ sizeLine := by
    rw [List.length_map, g2.length_eq]
    exact Nat.le_trans (Nat.le_of_lt h64) (by decide)
  refine wpAny_pure ⟨_, rfl, .ref h'.objs.size, upd H h'.objs.size (.lst (ys.map V.str)), I1.laid (t' := s.toks) (fun b u e => ?_) (Nat.le_refl _)
    (show ObjOk X.prog X.w _ _ _ (.lst (ys.map V.str)) from ⟨hlen, ((arrOf st').map (·.2)).toList, e', vals_of_strs g1, by rw [Array.toArray_toList]; exact he'⟩), rfl, q ys _ g2 g3 (I1.hok.fresh (Nat.le_refl _))⟩
  have hb : b < h'.objs.size := Heap.lt_size e
  rw [PyProof.Rows.sortedHeap_old (Nat.ne_of_lt hb) (by rw [size_push']; exact Nat.lt_succ_of_lt hb)]
  exact Heap.get?_push_of_some _ e
end

/-! ### the dict -/
abbrev NE := NestedKey × Addr × Addr
def rawN (ys : List NE) : List (NestedKey × Addr × Value) := ys.map fun y => (y.1, y.2.1, .ref y.2.2)
/-- (p, tk) -/
def nk (p : Nat) (tk : List Str) : NestedKey := .tup [.num p, .tup (tk.map .text)]
def NOb (P : Program) (w : World) (d : Addr) (ys : List NE) : HO := .ext fun h => ys.length ≤ sizeLine ∧ (d == sysModules) = false ∧
  ∃ o es ep, h.get? d = some o ∧ o.ExactDict ∧ o.data = .dict es ep ∧ es.toList = (rawN ys).map (entryOfKey (nestedKind P w)) ∧ ((rawN ys).map (·.1)).Nodup
def KeyAt (H : Hp) (b : Addr) (k : NestedKey) : Prop := ∃ (p : Nat) (q : Addr) (tk : List Str), k = nk p tk ∧ H b = some (.tup [.int p, .ref q]) ∧ H q = some (.tup (tk.map V.str))
theorem KeyAt.same {H H' : Hp} {b : Addr} {k : NestedKey} (h : KeyAt H b k) (s : ∀ b xs, H b = some (.tup xs) → H' b = some (.tup xs)) : KeyAt H' b k := by
  obtain ⟨p, q, tk, h1, h2, h3⟩ := h
  exact ⟨p, q, tk, h1, s _ _ h2, s _ _ h3⟩
def nval (ys : List NE) (k : NestedKey) : Option Addr := (ys.find? fun y => decide (y.1 = k)).map (·.2.2)
def storeN (ys : List NE) (k : NestedKey) (b c : Addr) : List NE := if (nval ys k).isSome then ys.map (fun y => if y.1 = k then (y.1, y.2.1, c) else y) else ys ++ [(k, b, c)]
theorem atKey_raw (ys : List NE) (k : NestedKey) : (atKey (rawN ys) k).map (·.2) = (nval ys k).map Value.ref := by
  unfold atKey rawN nval
  induction ys with
  | nil => rfl
  | cons y ys ih =>
    by_cases h : y.1 = k
    · simp [List.find?_cons, h]
    · simpa [List.find?_cons, h] using ih
theorem store_raw (ys : List NE) (k : NestedKey) (b c : Addr) : rawN (storeN ys k b c) = storedH (rawN ys) k b (.ref c) := by
  unfold storeN storedH
  have e : (atKey (rawN ys) k).isSome = (nval ys k).isSome := by
    have := congrArg Option.isSome (atKey_raw ys k)
    rw [Option.isSome_map, Option.isSome_map] at this
    exact this
  rw [e]
  split
  · unfold rawN
    rw [List.map_map, List.map_map]
    refine List.map_congr_left fun y _ => ?_
    by_cases h : y.1 = k <;> simp [putAt, h]
  · simp [rawN]
theorem store_len (ys : List NE) (k : NestedKey) (b c : Addr) : (storeN ys k b c).length ≤ ys.length + 1 := by
  unfold storeN; split <;> simp
theorem nval_some {ys : List NE} {k : NestedKey} {v : Addr} (h : nval ys k = some v) : ∃ y ∈ ys, y.1 = k ∧ y.2.2 = v := by
  unfold nval at h
  obtain ⟨y, hy, rfl⟩ := Option.map_eq_some_iff.mp h
  exact ⟨y, List.mem_of_find?_eq_some hy, by simpa using List.find?_some hy, rfl⟩
theorem nval_none {ys : List NE} {k : NestedKey} (h : nval ys k = none) : ∀ y ∈ ys, y.1 ≠ k := by
  unfold nval at h
  intro y hy e
  have := List.find?_eq_none.mp (Option.map_eq_none_iff.mp h) y hy
  simp [e] at this
theorem nval_store (ys : List NE) (k : NestedKey) (b c : Addr) : nval (storeN ys k b c) k = some c := by
  unfold storeN
  cases h : nval ys k with
  | some v =>
    simp only [Option.isSome_some, if_true]
    obtain ⟨y, hy, e, _⟩ := nval_some h
    clear h
    induction ys with
    | nil => cases hy
    | cons z zs ih =>
      by_cases hz : z.1 = k
      · simp [nval, List.find?_cons, hz]
      · have hy' : y ∈ zs := (List.mem_cons.mp hy).resolve_left fun e2 => hz (e2 ▸ e)
        have := ih hy'
        simp only [nval, List.map_cons, List.find?_cons, if_neg hz, decide_eq_false hz] at this ⊢
        exact this
  | none =>
    simp only [Option.isSome_none, Bool.false_eq_true, if_false]
    have hn := nval_none h
    unfold nval
    rw [List.find?_append, List.find?_eq_none.mpr (fun y hy => by simp [hn y hy])]
    simp
theorem mem_store {ys : List NE} {k : NestedKey} {b c : Addr} {y : NE} (h : y ∈ storeN ys k b c) : y ∈ ys ∨ (y.1 = k ∧ y.2.2 = c ∧ (y.2.1 = b ∨ ∃ z ∈ ys, z.1 = k ∧ z.2.1 = y.2.1)) := by
  unfold storeN at h
  split at h
  · obtain ⟨z, hz, rfl⟩ := List.mem_map.mp h
    by_cases e : z.1 = k
    · rw [if_pos e]
      exact .inr ⟨e, rfl, .inr ⟨z, hz, e, rfl⟩⟩
    · rw [if_neg e]; exact .inl hz
  · rcases List.mem_append.mp h with z | z
    · exact .inl z
    · rw [List.mem_singleton.mp z]; exact .inr ⟨rfl, rfl, .inl rfl⟩
theorem store_keys {ys : List NE} {k : NestedKey} {b c : Addr} (hn : (ys.map (·.1)).Nodup) : ((storeN ys k b c).map (·.1)).Nodup := by
  unfold storeN
  split
  · rw [List.map_map]
    have e : ((fun y : NE => y.1) ∘ fun y => if y.1 = k then (y.1, y.2.1, c) else y) = fun y => y.1 := by
      funext y
      show (if y.1 = k then (y.1, y.2.1, c) else y).1 = y.1
      split <;> rfl
    rw [e]; exact hn
  · rename_i h
    have h' : nval ys k = none := by cases e : nval ys k with | none => rfl | some v => rw [e] at h; exact absurd rfl h
    rw [List.map_append, List.nodup_append]
    refine ⟨hn, by simp, fun a ha b hb => ?_⟩
    obtain ⟨y, hy, rfl⟩ := List.mem_map.mp ha
    simp at hb
    rw [hb]; exact nval_none h' y hy
theorem rawN_keys (ys : List NE) : (rawN ys).map (·.1) = ys.map (·.1) := by unfold rawN; rw [List.map_map]; rfl

section
variable {X : Cx} {pins : List (Addr × Obj)} {σ : L2.St} {H : Hp} {s : Shared}
theorem texts_all {h : Heap} : ∀ {tk : List Str} {us : List Value}, Vals (tk.map V.str) us → NestedAll h (tk.map NestedKey.text) us
  | [], _, r => by cases r; exact .nil
  | t :: tk, _, r => by
    cases r with
    | cons r1 r2 =>
      obtain ⟨tok, rfl⟩ := r1
      exact .cons (.text _ _) (texts_all r2)
theorem txt_depth : ∀ tk : List Str, NestedKey.depthAll (tk.map NestedKey.text) ≤ 1
  | [] => by simp [NestedKey.depthAll]
  | t :: tk => by
    have := txt_depth tk
    simp only [List.map_cons, NestedKey.depthAll, NestedKey.depth]; omega
theorem nk_depth (p : Nat) (tk : List Str) : (nk p tk).depth ≤ 8 := by
  have := txt_depth tk
  simp only [nk, NestedKey.depth, NestedKey.depthAll]; omega
theorem key_ofN {P : Program} {w : World} {h : Heap} {b : Addr} {k : NestedKey} (ok : HOk P w H h) (e : KeyAt H b k) : (nestedKind P w).is h k b := by
  obtain ⟨p, q, tk, rfl, h1, h2⟩ := e
  obtain ⟨_, its, r, o, g1, g2, n, g3⟩ := (show ObjOk P w H h b (.tup [.int p, .ref q]) from ok b _ h1)
  obtain ⟨_, its2, r2, o2, k1, k2, n2, k3⟩ := (show ObjOk P w H h q (.tup (tk.map V.str)) from ok q _ h2)
  refine ⟨.tup g1 g2 g3 ?_, nk_depth p tk⟩
  cases r with
  | cons r1 r3 =>
    cases r3 with
    | cons r4 r5 =>
      cases r5
      obtain ⟨t, rfl⟩ := r1
      cases r4
      exact .cons (.int _ _) (.cons (.tup k1 k2 k3 (texts_all r2)) .nil)
theorem nob_ok {P : Program} {w : World} {h : Heap} {d : Addr} {ys : List NE} (ok : HOk P w H h) (e : H d = some (NOb P w d ys)) (hk : ∀ y ∈ ys, KeyAt H y.2.1 y.1) :
    ys.length ≤ sizeLine ∧ (d == sysModules) = false ∧ h.DictOfH (nestedKind P w) d (rawN ys) := by
  obtain ⟨⟨h1, h2, o, es, ep, h3, h4, h5, h6, h7⟩, _⟩ := (show ObjOk P w H h d (NOb P w d ys) from ok d _ e)
  refine ⟨h1, h2, o, es, ep, h3, h4, h5, h6, fun x hx => ?_, h7⟩
  obtain ⟨y, hy, rfl⟩ := List.mem_map.mp hx
  exact key_ofN ok (hk y hy)
theorem nob_new {P : Program} {w : World} {H' : Hp} {h : Heap} {d : Addr} {ys : List NE} (h1 : ys.length ≤ sizeLine) (h2 : (d == sysModules) = false) (dd : h.DictOfH (nestedKind P w) d (rawN ys)) : ObjOk P w H' h d (NOb P w d ys) := by
  obtain ⟨o, es, ep, h3, h4, h5, h6, _, h7⟩ := dd
  exact ⟨⟨h1, h2, o, es, ep, h3, h4, h5, h6, h7⟩, ⟨o, h3⟩, fun a b p k => by
    obtain ⟨q1, q2, o, es, ep, q3, q4⟩ := p
    exact ⟨q1, q2, o, es, ep, k _ q3, q4⟩⟩
/-- a dict ys of that kind stands at d, its keys in place -/
structure NAt (P : Program) (w : World) (H : Hp) (d : Addr) (ys : List NE) : Prop where
  ob : H d = some (NOb P w d ys)
  keys : ∀ y ∈ ys, KeyAt H y.2.1 y.1
/-- {} as such a dict -/
def tDNewN (P : Program) (w : World) : TE := fun _ H Q => ∀ p, H p = none → Q (.ref p) (upd H p (NOb P w p []))
theorem pe_dnewN {pos : Pos} : PE X (.Dict [] [] pos) (tDNewN X.prog X.w) := by
  refine ⟨fun pins s σ H Q I h => wpAny_Dict_empty ⟨.ref s.heap.objs.size, _, I.laid (a := s.heap.objs.size) (o := NOb X.prog X.w s.heap.objs.size []) (t' := s.toks) (fun _ _ q => Heap.get?_push_of_some _ q) (Nat.le_refl _) ?_, rfl, h _ (I.hok.fresh (Nat.le_refl _))⟩⟩
  exact nob_new (Nat.zero_le _) (beq_eq_false_iff_ne.mpr (Ne.symm (Nat.ne_of_lt I.big))) ⟨_, #[], 0, Heap.get?_push_size _ rfl, ⟨rfl, rfl, rfl⟩, rfl, rfl, fun x hx => (by cases hx), List.nodup_nil⟩
/-- o[y] -/
def tNGet (P : Program) (w : World) (td ty : TE) : TE := fun σ H Q => td σ H fun x H1 => ty σ H1 fun y H2 => ∃ d ys b k v, x = .ref d ∧ NAt P w H2 d ys ∧ y = .ref b ∧ KeyAt H2 b k ∧ nval ys k = some v ∧ Q (.ref v) H2
def tNNotIn (P : Program) (w : World) (ty td : TE) : TE := fun σ H Q => ty σ H fun y H1 => td σ H1 fun x H2 => ∃ d ys b k, x = .ref d ∧ NAt P w H2 d ys ∧ y = .ref b ∧ KeyAt H2 b k ∧ Q (.bl (!(nval ys k).isSome)) H2
def sNPut (P : Program) (w : World) (td ty tv : TE) : TS := fun D σ H => tv σ H fun v H1 => td σ H1 fun x H2 => ty σ H2 fun y H3 => ∃ d ys b k c, x = .ref d ∧ NAt P w H3 d ys ∧ y = .ref b ∧ KeyAt H3 b k ∧ v = .ref c ∧ ys.length < sizeLine ∧ D.nx σ (upd H3 d (NOb P w d (storeN ys k b c)))
variable {o i value : Expr} {pos pos' : Pos} {td ty tv : TE}
theorem nob_typeIs {d : Addr} {ys : List NE} (I : Inv X pins σ H s) (g : NAt X.prog X.w H d ys) : s.TypeIs (.ref d) "dict" := by
  obtain ⟨_, _, o, _, _, h1, h2, _⟩ := nob_ok I.hok g.ob g.keys
  exact ⟨o, h1, h2.1⟩
theorem pe_nget (hu : X.A.units + 64 < cLine) (ho : PE X o td) (hi : PE X i ty) (hs : NoSl i) : PE X (.Subscript o i pos) (tNGet X.prog X.w td ty) := by
  refine ⟨fun pins s σ H Q I h => ?_⟩
  refine subD_of PySem.F.slot_dict_getitem.lookup hs (thn (ho.run pins s σ H _ I h) fun u s1 ⟨x, H1, I1, rx, q1⟩ => thn (hi.run pins s1 σ H1 _ I1 q1) fun iv s2 ⟨y, H2, I2, ry, d, ys, b, k, v, ex, g, ey, kb, hv, q2⟩ => ?_)
  subst ex; subst ey
  obtain rfl : u = Value.ref d := rx
  obtain rfl : iv = Value.ref b := ry
  refine ⟨nob_typeIs I2 g, ?_⟩
  obtain ⟨_, _, dd⟩ := nob_ok I2.hok g.ob g.keys
  have e := atKey_raw ys k
  rw [hv] at e
  obtain ⟨p, hp, hp2⟩ := Option.map_eq_some_iff.mp e
  refine wpAny_getItem_heap (knd := nestedKind X.prog X.w) (show X.A.in1.units + 8 < cLine by simp only [Around.in1_units]; omega) (key_ofN I2.hok kb) dd hp ?_
  rw [hp2]
  exact ⟨.ref v, H2, I2.tok _, rfl, q2⟩
theorem pc_nnotin (hu : X.A.units + 64 < cLine) (hi : PE X i ty) (ho : PE X o td) : PC X .NotIn i o (tNNotIn X.prog X.w ty td) := by
  refine ⟨fun pins s σ H Q I h => ?_⟩
  refine thn (hi.run pins s σ H _ I h) fun iv s1 ⟨y, H1, I1, ry, q1⟩ => thn (ho.run pins s1 σ H1 _ I1 q1) fun u s2 ⟨x, H2, I2, rx, d, ys, b, k, ex, g, ey, kb, q2⟩ => ?_
  subst ex; subst ey
  obtain rfl : u = Value.ref d := rx
  obtain rfl : iv = Value.ref b := ry
  obtain ⟨_, hd, dd⟩ := nob_ok I2.hok g.ob g.keys
  refine wpAny_notIn_heap (knd := nestedKind X.prog X.w) (show X.A.in1.units + 8 < cLine by simp only [Around.in1_units]; omega) (key_ofN I2.hok kb) hd dd ?_
  have e := congrArg Option.isSome (atKey_raw ys k)
  rw [Option.isSome_map, Option.isSome_map] at e
  rw [e]
  exact ⟨.bl (!(nval ys k).isSome), H2, I2.tok _, rfl, q2⟩
theorem ps_nput (hu : X.A.units + 64 < cLine) (ho : PE X o td) (hi : PE X i ty) (hv : PE X value tv) (hs : swapsWith value (some (.Subscript o i pos')) pos.line X.env = pure false) :
    PS X (.Assign [.Subscript o i pos'] value pos) (sNPut X.prog X.w td ty tv) := by
  refine ⟨fun pins s σ H D I h => ?_⟩
  refine wpAny_Assign_Subscript (thn (hv.run pins s σ H _ I h) fun r s1 ⟨v, H1, I1, rv, q1⟩ => thn (ho.run pins s1 σ H1 _ I1 q1) fun u s2 ⟨x, H2, I2, rx, q2⟩ => thn (hi.run pins s2 σ H2 _ I2 q2) fun iv s3 ⟨y, H3, I3, ry, d, ys, b, k, c, ex, g, ey, kb, ec, hl, q3⟩ => ?_) hs
  subst ex; subst ey; subst ec
  obtain rfl : u = Value.ref d := rx
  obtain rfl : iv = Value.ref b := ry
  obtain rfl : r = Value.ref c := rv
  obtain ⟨_, hd, dd⟩ := nob_ok I3.hok g.ob g.keys
  have hz : (rawN ys).length ≤ sizeLine := by unfold rawN; rw [List.length_map]; omega
  refine wpAny_setItem_heap (knd := nestedKind X.prog X.w) (hsz := hz) (show X.A.in1.units + 8 < cLine by simp only [Around.in1_units]; omega) (key_ofN I3.hok kb) dd fun h' dd' hs' => ?_
  rw [← store_raw] at dd'
  have he : ∃ q, h'.get? d = some q := let ⟨q, _, _, hq, _⟩ := dd'; ⟨q, hq⟩
  exact ⟨σ, _, d_write I3 (by rw [g.ob]; exact True.intro) hs' he (nob_new (by have := store_len ys k b c; omega) hd dd'), q3⟩
end
end Lk
/-! Kd11 -/
namespace Lk
open PySem PySem.Spec PyProof.Rows L2
abbrev Op := Ld.Opts Str
/-- the counts of a place -/
def cn (o : Op) (tk : List Str) : List Int := (List.range (o.length + 1)).map fun k => ((Ld.W o tk k).length : Int)
theorem cn_len (o : Op) (tk : List Str) : (cn o tk).length = o.length + 1 := by simp [cn]
theorem cn_get {o : Op} {tk : List Str} {k : Nat} (h : k ≤ o.length) : (cn o tk)[k]? = some ((Ld.W o tk k).length : Int) := by
  unfold cn
  rw [List.getElem?_map, List.getElem?_range (by omega)]; rfl
theorem cn_ext {o : Op} {tk : List Str} {l : List Int} (hl : l.length = o.length + 1) (h : ∀ k, k ≤ o.length → l[k]? = some ((Ld.W o tk k).length : Int)) : l = cn o tk := by
  refine List.ext_getElem? fun k => ?_
  by_cases hk : k ≤ o.length
  · rw [h k hk, cn_get hk]
  · rw [List.getElem?_eq_none (by omega), List.getElem?_eq_none (by rw [cn_len]; omega)]
theorem cn_nil (c : Str) (r : Op) (tk : List Str) : cn ((c, []) :: r) tk = cn r tk ++ [0] := by
  symm
  refine cn_ext (by simp [cn_len]) fun k hk => ?_
  rw [Ld.W_nil]
  by_cases h : k ≤ r.length
  · rw [List.getElem?_append_left (by rw [cn_len]; omega), cn_get h]
  · have : k = r.length + 1 := by have : k ≤ r.length + 1 := hk
                                  omega
    subst this
    rw [List.getElem?_append_right (by rw [cn_len]; omega), cn_len, Ld.W_long r tk _ (by omega)]
    simp
theorem cn_in {c t : Str} {ts : List Str} {r : Op} {tk : List Str} (h : t ∈ tk) : cn ((c, ts ++ [t]) :: r) tk = cn ((c, ts) :: r) tk := by
  refine cn_ext (by rw [cn_len]; rfl) fun k hk => ?_
  rw [cn_get (show k ≤ ((c, ts ++ [t]) :: r).length from hk), ← Ld.W_snoc_in (c := c) (t := t) (ts := ts) (r := r) h k]
/-- between: the first j done -/
def mid (c t : Str) (ts : List Str) (r : Op) (tk : List Str) (j : Nat) : List Int := (List.range (r.length + 2)).map fun k => if k ≤ j then ((Ld.W ((c, ts ++ [t]) :: r) tk k).length : Int) else ((Ld.W ((c, ts) :: r) tk k).length : Int)
theorem mid_get {c t : Str} {ts : List Str} {r : Op} {tk : List Str} {j k : Nat} (h : k < r.length + 2) : (mid c t ts r tk j)[k]? = some (if k ≤ j then ((Ld.W ((c, ts ++ [t]) :: r) tk k).length : Int) else ((Ld.W ((c, ts) :: r) tk k).length : Int)) := by
  unfold mid
  rw [List.getElem?_map, List.getElem?_range h]; rfl
theorem mid_len {c t : Str} {ts : List Str} {r : Op} {tk : List Str} {j : Nat} : (mid c t ts r tk j).length = r.length + 2 := by simp [mid]
theorem mid_zero {c t : Str} {ts : List Str} {r : Op} {tk : List Str} : mid c t ts r tk 0 = cn ((c, ts) :: r) tk := by
  refine cn_ext mid_len fun k hk => ?_
  rw [mid_get (by have : k ≤ r.length + 1 := hk
                  omega)]
  cases k with
  | zero => rfl
  | succ k => rw [if_neg (by omega)]
theorem mid_all {c t : Str} {ts : List Str} {r : Op} {tk : List Str} : mid c t ts r tk (r.length + 1) = cn ((c, ts ++ [t]) :: r) tk := by
  refine cn_ext mid_len fun k hk => ?_
  have hk' : k ≤ r.length + 1 := hk
  rw [mid_get (by omega), if_pos hk']
theorem mid_step {c t : Str} {ts : List Str} {r : Op} {tk tk' : List Str} {j : Nat} (h : t ∉ tk) (hm : ∀ x, x ∈ tk' ↔ x ∈ t :: tk) (hj : j < r.length + 1) :
    (mid c t ts r tk j)[j + 1]? = some ((Ld.W ((c, ts) :: r) tk (j + 1)).length : Int) ∧ (mid c t ts r tk j).set (j + 1) (((Ld.W ((c, ts) :: r) tk (j + 1)).length : Int) + ((Ld.W r tk' j).length : Int)) = mid c t ts r tk (j + 1) := by
  refine ⟨by rw [mid_get (by omega), if_neg (by omega)], ?_⟩
  have e := Ld.W_snoc_out (c := c) (t := t) (ts := ts) (r := r) (tk := tk) h j
  rw [Ld.W_congr r j hm]
  refine List.ext_getElem? fun k => ?_
  by_cases hk : k < r.length + 2
  · rw [mid_get hk]
    by_cases hkj : j + 1 = k
    · subst hkj
      rw [List.getElem?_set_self (by rw [mid_len]; omega), if_pos (Nat.le_refl _), e]
      simp
    · rw [List.getElem?_set_ne hkj, mid_get hk]
      by_cases h2 : k ≤ j
      · rw [if_pos h2, if_pos (by omega)]
      · rw [if_neg h2, if_neg (by omega)]
  · rw [List.getElem?_eq_none (by rw [List.length_set, mid_len]; omega), List.getElem?_eq_none (by rw [mid_len]; omega)]

/-! ### what stands -/
structure OptsAt (H : Hp) (a : Addr) (o : Op) : Prop where
  ex : ∃ L : List (Addr × Addr × (Str × List Str)), H a = some (.lst (L.map fun p => V.ref p.1)) ∧ L.map (·.2.2) = o ∧ ∀ p ∈ L, H p.1 = some (.tup [.str p.2.2.1, .ref p.2.1]) ∧ H p.2.1 = some (.lst (p.2.2.2.map V.str))
structure OptOk (o : Op) (T : List Str) : Prop where
  t : T.Sublist tL
  tlen : T.length ≤ 5
  olen : o.length ≤ 5
  sub : ∀ p ∈ o, p.2.Sublist T
structure Kn (P : Program) (w : World) (H : Hp) (d : Addr) (o : Op) (T : List Str) : Prop where
  ex : ∃ ys, NAt P w H d ys ∧ (ys.map (·.1)).Nodup ∧ ∀ y ∈ ys, ∃ p tk, y.1 = nk p tk ∧ p < o.length ∧ tk.Sublist T ∧ H y.2.2 = some (.tup ((cn (o.drop p) tk).map V.int))
structure MatAt (P : Program) (w : World) (K : PySem.W.Frag) (H : Hp) (m d : Addr) (o : Op) (T : List Str) : Prop where
  ex : ∃ dx op, H m = some (.ins (cMat K) dx [("options", .ref op), ("known", .ref d)]) ∧ OptsAt H op o
  kn : Kn P w H d o T
  ok : OptOk o T
theorem nk_inj {p p' : Nat} {tk tk' : List Str} (h : nk p tk = nk p' tk') : p = p' ∧ tk = tk' := by
  unfold nk at h
  injection h with h
  injection h with h1 h2
  injection h2 with h2 _
  injection h1 with h1
  injection h2 with h2
  refine ⟨by omega, ?_⟩
  have inj : ∀ (a b : List Str), a.map NestedKey.text = b.map NestedKey.text → a = b := by
    intro a
    induction a with
    | nil => intro b e; cases b with | nil => rfl | cons _ _ => cases e
    | cons x a ih =>
      intro b e
      cases b with
      | nil => cases e
      | cons y b =>
        injection e with e1 e2
        injection e1 with e1
        rw [e1, ih b e2]
  exact inj _ _ h2
section
variable {P : Program} {w : World} {K : PySem.W.Frag} {H H' : Hp} {m d : Addr} {o : Op} {T : List Str}
theorem Kn.ob (k : Kn P w H d o T) : ∃ ys, H d = some (NOb P w d ys) := let ⟨ys, g, _⟩ := k.ex; ⟨ys, g.ob⟩
theorem Kn.same (k : Kn P w H d o T) (s : Same H H') : Kn P w H' d o T := by
  obtain ⟨ys, g, hn, hv⟩ := k.ex
  refine ⟨ys, ⟨s _ _ g.ob, fun y hy => (g.keys y hy).same fun b xs => s b _⟩, hn, fun y hy => ?_⟩
  obtain ⟨p, tk, h1, h2, h3, h4⟩ := hv y hy
  exact ⟨p, tk, h1, h2, h3, s _ _ h4⟩
theorem OptsAt.same {a : Addr} (h : OptsAt H a o) (s : Same H H') : OptsAt H' a o := by
  obtain ⟨L, h1, h2, h3⟩ := h.ex
  exact ⟨L, s _ _ h1, h2, fun p hp => ⟨s _ _ (h3 p hp).1, s _ _ (h3 p hp).2⟩⟩
theorem MatAt.same (h : MatAt P w K H m d o T) (s : Same H H') : MatAt P w K H' m d o T := by
  obtain ⟨dx, op, h1, h2⟩ := h.ex
  exact ⟨⟨dx, op, s _ _ h1, h2.same s⟩, h.kn.same s, h.ok⟩
/-- not the dict -/
theorem notN {ys : List NE} (hd : H d = some (NOb P w d ys)) {b : Addr} {u : HO} (hb : H b = some u) (hne : ∀ φ, u ≠ .ext φ) : b ≠ d := fun e => by
  rw [e, hd] at hb
  exact hne _ (Option.some.inj hb).symm
theorem MatAt.later (h : MatAt P w K H m d o T) (s : SameX d H H') (k : Kn P w H' d o T) : MatAt P w K H' m d o T := by
  obtain ⟨dx, op, h1, L, h2, h3, h4⟩ := h.ex
  obtain ⟨ys, hd⟩ := h.kn.ob
  have kp : ∀ {b u}, H b = some u → (∀ φ, u ≠ .ext φ) → H' b = some u := fun hb hne => s _ _ (notN hd hb hne) hb
  exact ⟨⟨dx, op, kp h1 (by intro φ z; cases z), L, kp h2 (by intro φ z; cases z), h3, fun p hp => ⟨kp (h4 p hp).1 (by intro φ z; cases z), kp (h4 p hp).2 (by intro φ z; cases z)⟩⟩, k, h.ok⟩
theorem MatAt.keep (h : MatAt P w K H m d o T) (s : SameX d H H') {b : Addr} {u : HO} (hb : H b = some u) (hne : ∀ φ, u ≠ .ext φ) : H' b = some u := by
  obtain ⟨ys, hd⟩ := h.kn.ob
  exact s _ _ (notN hd hb hne) hb
def keysAll (T : List Str) (n : Nat) : List NestedKey := (List.range n).flatMap fun p => (Ld.groups T).map (nk p)
theorem keysAll_len (T : List Str) (n : Nat) : (keysAll T n).length = n * 2 ^ T.length := by
  unfold keysAll
  induction n with
  | zero => simp
  | succ n ih => rw [List.range_succ, List.flatMap_append, List.length_append, ih]; simp [Ld.groups_len, Nat.succ_mul]
theorem Kn.few {ys : List NE} (hn : (ys.map (·.1)).Nodup) (hv : ∀ y ∈ ys, ∃ p tk, y.1 = nk p tk ∧ p < o.length ∧ tk.Sublist T ∧ H y.2.2 = some (.tup ((cn (o.drop p) tk).map V.int))) (ok : OptOk o T) : ys.length < sizeLine := by
  have h1 : (ys.map (·.1)).length ≤ (keysAll T o.length).length := hn.length_le_of_subset fun k hk => by
    obtain ⟨y, hy, rfl⟩ := List.mem_map.mp hk
    obtain ⟨p, tk, h1, h2, h3, _⟩ := hv y hy
    exact List.mem_flatMap.mpr ⟨p, List.mem_range.mpr h2, List.mem_map.mpr ⟨tk, Ld.groups_mem.mpr h3, h1.symm⟩⟩
  rw [keysAll_len, List.length_map] at h1
  have h2 : 2 ^ T.length ≤ 2 ^ 5 := Nat.pow_le_pow_right (by decide) ok.tlen
  have h3 : o.length * 2 ^ T.length ≤ 5 * 2 ^ 5 := Nat.mul_le_mul ok.olen h2
  rw [sizeLine_eq]; omega
theorem catA_read {a b : Addr} {xs : List V} {y : V} {Q : VK} (ha : H a = some (.tup xs)) (hb : H b = some (.tup [y])) (hl : xs.length ≤ 1000) (q : ∀ p H', Same H H' → H' p = some (.tup (xs ++ [y])) → Q (.ref p) H') : rCatA K (.ref a) (.ref b) H Q := by
  refine ⟨a, b, xs, [y], rfl, rfl, SqT.of ha, SqT.of hb, by rw [sizeLine_eq]; simp; omega, fun e => ?_, fun _ e => (by cases e), fun _ _ p hp => q p _ (Same.upd hp) upd_same⟩
  subst e
  exact q b H (Same.refl _) hb
theorem sorted_tk {T tk ys : List Str} {t : Str} (hT : T.Sublist tL) (hs : tk.Sublist T) (ht : t ∈ T) (hn : t ∉ tk) (hp : ys.Perm (tk ++ [t])) (hso : sortedS ys = true) :
    ys = T.filter (fun x => decide (x ∈ t :: tk)) := by
  have aT : asc T := asc_tL.sublist hT
  refine sorted_asc (hp.trans ?_) hso (aT.sublist List.filter_sublist)
  have nT := asc_nodup aT
  refine (List.perm_ext_iff_of_nodup ?_ (nT.sublist List.filter_sublist)).mpr fun x => ?_
  · rw [List.nodup_append]
    exact ⟨nT.sublist hs, by simp, fun a ha b hb => by rw [List.mem_singleton.mp hb]; exact fun e => hn (e ▸ ha)⟩
  · rw [List.mem_filter, List.mem_append, List.mem_singleton]
    constructor
    · rintro (h | h)
      · exact ⟨hs.subset h, decide_eq_true (List.mem_cons_of_mem _ h)⟩
      · rw [h]; exact ⟨ht, decide_eq_true List.mem_cons_self⟩
    · rintro ⟨_, h⟩
      rcases List.mem_cons.mp (of_decide_eq_true h) with z | z
      · exact .inr z
      · exact .inl z
end
section
variable {P : Program} {w : World} {K : PySem.W.Frag} {mg : Str → Option Value} {base : Heap} {f : Addr}
theorem sc_counts : FnScope ["self", "place", "taken", "found", "thing", "pairs", "ways"] ["self", "place", "taken"] (defScope sMatCounts) := ⟨rfl, rfl, rfl, by decide +kernel, rfl, by decide +kernel, by decide +kernel⟩
abbrev nm_counts : List Str := ["self", "place", "taken", "found", "thing", "pairs", "ways"]
def spCounts (P : Program) (w : World) (K : PySem.W.Frag) (n : Nat) : Sp := fun vs H Q _ => ∃ m d o T, ∃ (place : Nat) (tk : List Str) (q : Addr), vs = [.ref m, .int place, .ref q] ∧ MatAt P w K H m d o T ∧ place ≤ o.length ∧ o.length ≤ place + n ∧ H q = some (.tup (tk.map V.str)) ∧ tk.Sublist T ∧
  ∀ p H', SameX d H H' → MatAt P w K H' m d o T → H' p = some (.tup ((cn (o.drop place) tk).map V.int)) → Q (.ref p) H'
theorem ok_counts0 (F : Df K "counts" "Matcher.counts" sMatCounts f) (c : Cls K (cMat K)) (me : Meth K (cMat K) "counts" f) (Tx : Txt K mg) : C8.Met P w K mg base 1 (cMat K) "counts" (spCounts P w K 0) [] := by
  refine F.met c me sc_counts (fun _ _ _ _ _ _ us hl => match us, hl with | [_, _, _], _ => rfl) (fun vs H Q E h => ?_) (fun cdv A outer s H vs Q E hr h => ?_)
  · obtain ⟨m, d, o, T, pl, tk, q, rfl, _⟩ := h; rfl
  · obtain ⟨m, d, o, T, pl, tk, q, rfl, hm, h1, h2, hq, hs, fin⟩ := h
    refine ⟨_, pss_cons (ps_if (pt_cmpR op_eq (pv 1) (pe_callB call_len (by rfl) Tx.len boot_len (pa_cons (pe_fld (pv 0) rfl) pa_nil)) (nomark _)) (pss_one (ps_ret (pe_tup (pa_cons pe_int pa_nil)))) pss_nil) pss_never, ?_⟩
    obtain ⟨dx, op, m1, L, m2, rfl, m3⟩ := hm.ex
    have hpl : pl = L.length := by simp at h1 h2; omega
    refine ⟨_, rfl, _, rfl, m, _, dx, _, _, rfl, m1, Tx.clMat, Tx.naOptions, rfl, .ref op, L.length, rfl, .inl ⟨_, SqL.of m2, by simp⟩, rfl, _, rfl, ?_⟩
    rw [decide_eq_true (by rw [hpl])]
    refine iteT ⟨by show 1 ≤ sizeLine; decide, fun p hp => ?_⟩
    refine fin p _ (Same.x (Same.upd hp)) (hm.same (Same.upd hp)) ?_
    rw [upd_same, List.drop_of_length_le (by simp; omega)]
    rfl
end
end Lk
/-! Kd12 -/
namespace Lk
open PySem PySem.Spec PyProof.Rows L2
section
variable {P : Program} {w : World} {K : PySem.W.Frag} {mg : Str → Option Value} {base : Heap} {f : Addr}
theorem sameX_of {d : Addr} {H H' H'' : Hp} (a : SameX d H H') (b : Same H' H'') : SameX d H H'' := fun x o h e => b x o (a x o h e)
theorem ok_counts1 {n : Nat} (hn5 : n ≤ 5) (F : Df K "counts" "Matcher.counts" sMatCounts f) (c : Cls K (cMat K)) (me : Meth K (cMat K) "counts" f) (Tx : Txt K mg) (cR : C8.Met P w K mg base (n + 1) (cMat K) "counts" (spCounts P w K n) []) :
    C8.Met P w K mg base (n + 2) (cMat K) "counts" (spCounts P w K (n + 1)) [] := by
  refine F.met c me sc_counts (fun _ _ _ _ _ _ us hl => match us, hl with | [_, _, _], _ => rfl) (fun vs H Q E h => ?_) (fun cdv A outer s H vs Q E hr h => ?_)
  · obtain ⟨m, d, o, T, pl, tk, q, rfl, _⟩ := h; rfl
  · obtain ⟨m, d, o, T, pl, tk, q, rfl, hm, h1, h2, hq, hs, fin⟩ := h
    refine ⟨_, pss_cons (ps_if (pt_cmpR op_eq (pv 1) (pe_callB call_len (by rfl) Tx.len boot_len (pa_cons (pe_fld (pv 0) rfl) pa_nil)) (nomark _)) (pss_one (ps_ret (pe_tup (pa_cons pe_int pa_nil)))) pss_nil)
      (pss_cons (ps_if (pt_cmp (pc_nnotin hr.units (pe_tup (pa_cons (pv 1) (pa_cons (pv 2) pa_nil))) (pe_fld (pv 0) rfl)))
        (pss_cons (ps_set sc_counts.nd (i := 3) rfl (Or.inl rfl) (pe_op op_cat (pe_callTy call_list_of (by rfl) Tx.list boot_list (pa_cons (C8.pe_mt cR hr (Nat.le_refl _) (pv 0) (pa_cons (pe_op op_add (pv 1) pe_int) (pa_cons (pv 2) pa_nil))) pa_nil)) (pe_lst (pa_cons pe_int pa_nil))))
        (pss_cons (ps_for PassesOwn.never rfl (pi_list (pe_ix ix_tup (pe_ix ix_list (pe_fld (pv 0) rfl) (pv 1) (fun _ _ => rfl)) pe_int (fun _ _ => rfl))) (pg_name (i := 4) sc_counts.nd rfl (Or.inl rfl))
          (pss_one (ps_if (pt_cmpR op_notIn_seq (pv 4) (pv 2) rfl)
            (pss_one (ps_for PassesOwn.never rfl (pi_enumT (by rfl) Tx.enumerate (pa_cons (C8.pe_mt cR hr (Nat.le_refl _) (pv 0) (pa_cons (pe_op op_add (pv 1) pe_int) (pa_cons (pe_callTy call_tuple_of (by rfl) Tx.tuple boot_tuple (pa_cons (pe_callB (cr_sortedTup rfl) (by rfl) Tx.sorted boot_sorted (pa_cons (pe_op op_catA (pv 2) (pe_tup (pa_cons (pv 4) pa_nil))) pa_nil)) pa_nil)) pa_nil))) pa_nil)) (pg_n2 K (i := 5) (j := 6) rfl rfl sc_counts.nd rfl rfl (by first | exact Or.inl rfl | exact Or.inr rfl) (by first | exact Or.inl rfl | exact Or.inr rfl) (by first | exact Or.inr rfl | exact Or.inl rfl) (by first | exact Or.inr rfl | exact Or.inl rfl))
              (pss_one (ps_augS (pv 3) (pe_op op_add (pv 5) pe_int) get_list (pv 6) ip_add set_list))))
            pss_nil)))
        (pss_one (ps_nput hr.units (pe_fld (pv 0) rfl) (pe_tup (pa_cons (pv 1) (pa_cons (pv 2) pa_nil))) (pe_callTy call_tuple_of (by rfl) Tx.tuple boot_tuple (pa_cons (pv 3) pa_nil)) rfl))))
        pss_nil)
      (pss_one (ps_ret (pe_nget hr.units (pe_fld (pv 0) rfl) (pe_tup (pa_cons (pv 1) (pa_cons (pv 2) pa_nil))) (fun _ _ => rfl))))), ?_⟩
    obtain ⟨dx, op, m1, L, m2, eo, m3⟩ := hm.ex
    have hLl : L.length = o.length := by rw [← eo]; simp
    refine ⟨_, rfl, _, rfl, m, _, dx, _, _, rfl, m1, Tx.clMat, Tx.naOptions, rfl, .ref op, L.length, rfl, .inl ⟨_, SqL.of m2, by simp⟩, rfl, _, rfl, ?_⟩
    -- the end: from a dict that has the key
    have last : ∀ {H1 : Hp} {ys : List NE} {v : Addr} {x3 x4 x5 x6 : Option V}, SameX d H H1 → MatAt P w K H1 m d o T → NAt P w H1 d ys → nval ys (nk pl tk) = some v → H1 v = some (.tup ((cn (o.drop pl) tk).map V.int)) →
        tRet (tNGet P w (tFld K (tVar 0) "known") (tTup (tCons (tVar 1) (tCons (tVar 2) tNil)))) { nx := fun _ H' => Q .non H', rt := Q } [some (.ref m), some (.int pl), some (.ref q), x3, x4, x5, x6] H1 := by
      intro H1 ys v x3 x4 x5 x6 s1 k1 g1 hv h5
      obtain ⟨dx1, op1, e1, _⟩ := k1.ex
      refine ⟨_, rfl, m, _, dx1, _, _, rfl, e1, Tx.clMat, Tx.naKnown, rfl, _, rfl, _, rfl, by show 2 ≤ sizeLine; decide, fun b hb => ?_⟩
      have sb : Same H1 (upd H1 b (.tup [.int pl, .ref q])) := Same.upd hb
      refine ⟨d, ys, b, nk pl tk, v, rfl, ⟨sb _ _ g1.ob, fun y hy => (g1.keys y hy).same fun b xs => sb b _⟩, rfl, ⟨pl, q, tk, rfl, upd_same, sb _ _ (hm.keep s1 hq (by intro φ z; cases z))⟩, hv, ?_⟩
      exact fin v _ (sameX_of s1 sb) (k1.same sb) (sb _ _ h5)
    by_cases hpl : pl = o.length
    · rw [decide_eq_true (by rw [hpl, hLl])]
      refine iteT ⟨by show 1 ≤ sizeLine; decide, fun p hp => ?_⟩
      refine fin p _ (Same.x (Same.upd hp)) (hm.same (Same.upd hp)) ?_
      rw [upd_same, List.drop_of_length_le (by omega)]
      rfl
    · have hlt : pl < o.length := by omega
      rw [decide_eq_false (fun e => hpl (by injection e with e; omega))]
      refine iteF ?_
      refine ⟨_, rfl, _, rfl, by show 2 ≤ sizeLine; decide, fun b hb => ?_⟩
      have sb : Same H (upd H b (.tup [.int pl, .ref q])) := Same.upd hb
      obtain ⟨ys, g, hn, hv⟩ := hm.kn.ex
      refine ⟨_, rfl, m, _, dx, _, _, rfl, sb _ _ m1, Tx.clMat, Tx.naKnown, rfl, d, ys, b, nk pl tk, rfl, ⟨sb _ _ g.ob, fun y hy => (g.keys y hy).same fun b xs => sb b _⟩, rfl, ⟨pl, q, tk, rfl, upd_same, sb _ _ hq⟩, _, rfl, ?_⟩
      cases hnv : nval ys (nk pl tk) with
      | some v =>
        refine iteF ?_
        obtain ⟨y, hy, ek, ev⟩ := nval_some hnv
        obtain ⟨p', tk', e1, e2, e3, e4⟩ := hv y hy
        obtain ⟨rfl, rfl⟩ := nk_inj (ek.symm.trans e1)
        rw [ev] at e4
        exact last (Same.x sb) (hm.same sb) ⟨sb _ _ g.ob, fun y hy => (g.keys y hy).same fun b xs => sb b _⟩ hnv (sb _ _ e4)
      | none =>
        refine iteT ?_
        -- the place's own entry
        obtain ⟨y, hy⟩ : ∃ y, L[pl]? = some y := ⟨L[pl]'(by omega), List.getElem?_eq_getElem _⟩
        have hoy : o[pl]? = some y.2.2 := by rw [← eo, List.getElem?_map, hy]; rfl
        have hdrop : o.drop pl = y.2.2 :: o.drop (pl + 1) := by
          rw [List.drop_eq_getElem_cons hlt]
          congr 1
          rw [List.getElem?_eq_getElem hlt] at hoy
          exact Option.some.inj hoy
        have hsub : y.2.2.2.Sublist T := hm.ok.sub _ (mem_of_get hoy)
        have hts5 : y.2.2.2.length ≤ 5 := Nat.le_trans hsub.length_le hm.ok.tlen
        obtain ⟨m4, m5⟩ := m3 y (mem_of_get hy)
        have htk5 : tk.length ≤ 5 := Nat.le_trans hs.length_le hm.ok.tlen
        have hr5 : (o.drop (pl + 1)).length ≤ 5 := by rw [List.length_drop]; have := hm.ok.olen; omega
        refine ⟨_, rfl, m, dx, _, rfl, sb _ _ m1, rfl, _, rfl, _, _, rfl, rfl, _, rfl, m, d, o, T, pl + 1, tk, q, rfl, hm.same sb, by omega, by omega, sb _ _ hq, hs, fun p0 H1 s1 k1 hp0 => ?_⟩
        refine ⟨p0, _, rfl, .inr (SqT.of hp0), fun l0 hl0 => ?_⟩
        refine ⟨by show 1 ≤ sizeLine; decide, fun z0 hz0 => ?_⟩
        refine ⟨l0, z0, _, _, rfl, rfl, upd_keep upd_same hz0, upd_same, by rw [List.length_map, cn_len, sizeLine_eq]; show _ + 1 ≤ _; omega, fun FF hFF => ?_⟩
        have s2 : Same H1 (upd (upd (upd H1 l0 (.lst ((cn (o.drop (pl + 1)) tk).map V.int))) z0 (.lst [.int 0])) FF (.lst ((cn (o.drop (pl + 1)) tk).map V.int ++ [.int 0]))) := Same.upd' (Same.upd' (Same.upd hl0) hz0) hFF
        have sHF : SameX d H (upd (upd (upd H1 l0 (.lst ((cn (o.drop (pl + 1)) tk).map V.int))) z0 (.lst [.int 0])) FF (.lst ((cn (o.drop (pl + 1)) tk).map V.int ++ [.int 0]))) := fun x u hx e => s2 x u (s1 x u hx (sb x u e))
        have hHF : H FF = none := by
          cases e : H FF with
          | none => rfl
          | some u =>
            by_cases hFd : FF = d
            · obtain ⟨ys1, e1⟩ := k1.kn.ob
              rw [hFd] at hFF
              have := upd_keep (u := .lst [.int 0]) (upd_keep (u := .lst ((cn (o.drop (pl + 1)) tk).map V.int)) e1 hl0) hz0
              rw [this] at hFF; cases hFF
            · have e1 := s1 FF u hFd (sb FF u e)
              have := upd_keep (u := .lst [.int 0]) (upd_keep (u := .lst ((cn (o.drop (pl + 1)) tk).map V.int)) e1 hl0) hz0
              rw [this] at hFF; cases hFF
        have e00 : (cn (o.drop (pl + 1)) tk).map V.int ++ [.int 0] = (cn ((y.2.2.1, []) :: o.drop (pl + 1)) tk).map V.int := by rw [cn_nil]; simp
        dsimp only [gName]
        refine gen_seq (fun Hb => SameX d H Hb ∧ MatAt P w K Hb m d o T ∧ Hb FF = some (.lst ((cn ((y.2.2.1, []) :: o.drop (pl + 1)) tk).map V.int))) ⟨sHF, k1.same s2, by rw [upd_same, e00]⟩ ?_
        clear s2 sHF hFF hz0 hl0 hp0
        rintro Hb ⟨tb, kb, hbF⟩
        have kp : ∀ {Hc b' u}, SameX d H Hc → H b' = some u → (∀ φ, u ≠ .ext φ) → Hc b' = some u := fun a h hne => hm.keep a h hne
        have fd : FF ≠ d := fun e => by
          obtain ⟨ys1, e1⟩ := kb.kn.ob
          rw [e, e1] at hbF; cases hbF
        refine ⟨_, rfl, m, _, dx, _, _, rfl, kp tb m1 (by intro φ z; cases z), Tx.clMat, Tx.naOptions, rfl, _, rfl, op, _, _, _, rfl, rfl, SqL.of (kp tb m2 (by intro φ z; cases z)), atI_nat (by rw [List.getElem?_map, hy]; rfl), y.1, _, _, _, rfl, rfl, SqT.of (kp tb m4 (by intro φ z; cases z)), rfl, y.2.1, rfl, ⟨_, SqL.of (kp tb m5 (by intro φ z; cases z))⟩, ?_⟩
        refine for_it (walk_list (xs := y.2.2.2.map V.str)) (fun i σ H' => SameX d H H' ∧ MatAt P w K H' m d o T ∧ (∃ x4 x5 x6, σ = [some (.ref m), some (.int pl), some (.ref q), some (.ref FF), x4, x5, x6]) ∧ H' FF = some (.lst ((cn ((y.2.2.1, y.2.2.2.take i) :: o.drop (pl + 1)) tk).map V.int)))
          ⟨tb, kb, ⟨_, _, _, rfl⟩, hbF⟩ (fun i σ H' _ z => SqL.of (kp z.1 m5 (by intro φ z; cases z))) ?_ ?_
        · rintro i v σ H1 H2 hi ⟨t1, k1, ⟨x4, x5, x6, rfl⟩, f1⟩ ⟨eH, hv⟩
          subst eH
          obtain ⟨t, ht, rfl⟩ := get_map hv
          have htT : t ∈ T := hsub.subset (mem_of_get ht)
          have qt := kp t1 hq (by intro φ z; cases z)
          have etk : y.2.2.2.take (i + 1) = y.2.2.2.take i ++ [t] := by rw [List.take_add_one, ht]; rfl
          refine ⟨_, rfl, _, rfl, q, _, rfl, .inr (SqT.of qt), rfl, flat_strs _, _, rfl, ?_⟩
          rw [inV_strs]
          by_cases htk : t ∈ tk
          · rw [decide_eq_true htk]
            refine iteF ⟨t1, k1, ⟨_, _, _, rfl⟩, ?_⟩
            rw [etk, cn_in htk]; exact f1
          · rw [decide_eq_false htk]
            refine iteT ?_
            refine ⟨_, rfl, m, dx, _, rfl, kp t1 m1 (by intro φ z; cases z), rfl, _, rfl, _, _, rfl, rfl, _, rfl, _, rfl, by show 1 ≤ sizeLine; decide, fun b1 hb1 => ?_⟩
            refine catA_read (upd_keep qt hb1) upd_same (by rw [List.length_map]; omega) fun p2 H3 s3 hp2 => ?_
            refine ⟨p2, tk ++ [t], rfl, SqT.of (by rw [hp2]; simp), by simp; omega, fun zs p3 hperm hso hp3 => ?_⟩
            have ezs := sorted_tk hm.ok.t hs htT htk hperm hso
            refine ⟨p3, _, rfl, .inl ⟨SqL.of upd_same, fun p4 hp4 => ?_⟩⟩
            have s4 : Same H2 (upd (upd H3 p3 (.lst (zs.map V.str))) p4 (.tup (zs.map V.str))) := Same.upd' (Same.upd' ((Same.upd hb1).trans s3) hp3) hp4
            refine ⟨m, d, o, T, pl + 1, zs, p4, rfl, k1.same s4, by omega, by omega, upd_same, by rw [ezs]; exact List.filter_sublist, fun p5 H5 s5 k5 hp5 => ⟨p5, _, rfl, SqT.of hp5, ?_⟩⟩
            have hmem : ∀ x, x ∈ zs ↔ x ∈ t :: tk := fun x => by
              rw [hperm.mem_iff, List.mem_append, List.mem_singleton, List.mem_cons]; exact Or.comm
            have t5 : SameX d H H5 := fun x u hx e => s5 x u hx (s4 x u (t1 x u hx e))
            have f5 : H5 FF = some (.lst ((cn ((y.2.2.1, y.2.2.2.take i) :: o.drop (pl + 1)) tk).map V.int)) := s5 _ _ fd (s4 _ _ f1)
            have hFp5 : FF ≠ p5 := ne_of f5 hp5 (by intro z; cases z)
            refine for_it (walk_enumT (xs := (cn (o.drop (pl + 1)) zs).map V.int)) (fun j σ H' => SameX d H H' ∧ MatAt P w K H' m d o T ∧ H' p5 = some (.tup ((cn (o.drop (pl + 1)) zs).map V.int)) ∧ (∃ x5 x6, σ = [some (.ref m), some (.int pl), some (.ref q), some (.ref FF), some (.str t), x5, x6]) ∧
                H' FF = some (.lst ((mid y.2.2.1 t (y.2.2.2.take i) (o.drop (pl + 1)) tk j).map V.int)))
              ⟨t5, k5, hp5, ⟨_, _, rfl⟩, by rw [mid_zero]; exact f5⟩ (fun j σ H' _ z => SqT.of z.2.2.1) ?_ ?_
            · rintro j v σ H6 H7 hj ⟨t6, k6, hp6, ⟨x5, x6, rfl⟩, f6⟩ ⟨T', u, v, rfl, hT', rfl, hu, hv⟩
              cases hu
              obtain ⟨x, hx, rfl⟩ := get_map hv
              have hj' : j < (o.drop (pl + 1)).length + 1 := by rw [List.length_map, cn_len] at hj; exact hj
              rw [cn_get (by omega)] at hx
              obtain rfl := (Option.some.inj hx).symm
              have t7 : SameX d H (upd H6 T' (.tup [.int (j : Nat), .int ((Ld.W (o.drop (pl + 1)) zs j).length : Int)])) := sameX_of t6 (Same.upd hT')
              have f7 := upd_keep (u := .tup [.int (j : Nat), .int ((Ld.W (o.drop (pl + 1)) zs j).length : Int)]) f6 hT'
              obtain ⟨g1, g2⟩ := mid_step (c := y.2.2.1) (ts := y.2.2.2.take i) (r := o.drop (pl + 1)) htk hmem hj'
              have hml : ((mid y.2.2.1 t (y.2.2.2.take i) (o.drop (pl + 1)) tk j).map V.int).length = (o.drop (pl + 1)).length + 2 := by rw [List.length_map, mid_len]
              have hix : ixN ((mid y.2.2.1 t (y.2.2.2.take i) (o.drop (pl + 1)) tk j).map V.int).length ((j : Int) + 1) = some (j + 1) := by
                rw [hml]; unfold ixN
                rw [if_pos (by omega), if_pos (by omega)]; congr 1
              refine ⟨T', _, rfl, SqT.of upd_same, rfl, _, _, rfl, _, _, rfl, rfl, ?_⟩
              refine ⟨_, rfl, _, rfl, _, _, rfl, rfl, FF, _, (j : Int) + 1, j + 1, .int ((Ld.W ((y.2.2.1, y.2.2.2.take i) :: o.drop (pl + 1)) tk (j + 1)).length : Int), rfl, rfl, by omega, by omega, SqL.of f7, by rw [List.getElem?_map, g1]; rfl, ?_⟩
              refine ⟨_, rfl, _, _, rfl, rfl, FF, _, (j : Int) + 1, j + 1, rfl, rfl, f7, hix, ?_⟩
              have sF : Same H6 (upd H6 T' (.tup [.int (j : Nat), .int ((Ld.W (o.drop (pl + 1)) zs j).length : Int)])) := Same.upd hT'
              have k7 := k6.same sF
              refine ⟨fun x u hx e => ?_, ?_, ?_, ⟨_, _, rfl⟩, ?_⟩
              · rw [upd_ne (fun e2 => by rw [e2, hHF] at e; cases e)]; exact t7 x u hx e
              · -- MatAt: FF is a list of its own
                obtain ⟨dx8, op8, a1, L8, a2, a3, a4⟩ := k7.ex
                have neF : ∀ {b u}, H b = some u → b ≠ FF := fun e z => by rw [z, hHF] at e; cases e
                have mm : ∀ {b u}, H b = some u → (∀ φ, u ≠ .ext φ) → (upd (upd H6 T' (.tup [.int (j : Nat), .int ((Ld.W (o.drop (pl + 1)) zs j).length : Int)])) FF (.lst (((mid y.2.2.1 t (y.2.2.2.take i) (o.drop (pl + 1)) tk j).map V.int).set (j + 1) (.int (((Ld.W ((y.2.2.1, y.2.2.2.take i) :: o.drop (pl + 1)) tk (j + 1)).length : Int) + ((Ld.W (o.drop (pl + 1)) zs j).length : Int)))))) b = some u := fun e hne => by
                  rw [upd_ne (neF e)]; exact kp t7 e hne
                refine ⟨⟨dx, op, mm m1 (by intro φ z; cases z), L, mm m2 (by intro φ z; cases z), eo, fun p hp => ⟨mm (m3 p hp).1 (by intro φ z; cases z), mm (m3 p hp).2 (by intro φ z; cases z)⟩⟩, ?_, hm.ok⟩
                obtain ⟨ys8, g8, n8, v8⟩ := k7.kn.ex
                have tf : ∀ b xs, upd H6 T' (.tup [.int (j : Nat), .int ((Ld.W (o.drop (pl + 1)) zs j).length : Int)]) b = some (.tup xs) → b ≠ FF := fun b xs e => ne_of e f7 (by intro z; cases z)
                refine ⟨ys8, ⟨by rw [upd_ne fd.symm]; exact g8.ob, fun y hy => (g8.keys y hy).same fun b xs e => by rw [upd_ne (tf b xs e)]; exact e⟩, n8, fun y hy => ?_⟩
                obtain ⟨p9, tk9, b1, b2, b3, b4⟩ := v8 y hy
                exact ⟨p9, tk9, b1, b2, b3, by rw [upd_ne (tf _ _ b4)]; exact b4⟩
              · rw [upd_ne (ne_of (upd_keep hp6 hT') f7 (by intro z; cases z))]; exact upd_keep hp6 hT'
              · rw [upd_same, ← g2, List.map_set]
            · rintro σ H6 ⟨t6, k6, hp6, ⟨x5, x6, rfl⟩, f6⟩
              rw [List.length_map, cn_len, mid_all, ← etk] at f6
              exact ⟨t6, k6, ⟨_, _, _, rfl⟩, f6⟩
        · rintro σ H1 ⟨t1, k1, ⟨x4, x5, x6, rfl⟩, f1⟩
          rw [List.length_map, List.take_length] at f1
          have f1 : H1 FF = some (.lst ((cn (o.drop pl) tk).map V.int)) := by rw [hdrop]; exact f1
          refine ⟨_, rfl, FF, _, rfl, .inl ⟨SqL.of f1, fun tp htp => ?_⟩⟩
          have sa : Same H1 (upd H1 tp (.tup ((cn (o.drop pl) tk).map V.int))) := Same.upd htp
          refine ⟨_, rfl, m, _, dx, _, _, rfl, kp (sameX_of t1 sa) m1 (by intro φ z; cases z), Tx.clMat, Tx.naKnown, rfl, _, rfl, _, rfl, by show 2 ≤ sizeLine; decide, fun kb1 hkb => ?_⟩
          have sk : Same H1 (upd (upd H1 tp (.tup ((cn (o.drop pl) tk).map V.int))) kb1 (.tup [.int pl, .ref q])) := Same.upd' sa hkb
          have k2 := k1.same sk
          have t2 := sameX_of t1 sk
          have etp := upd_keep (u := .tup [.int pl, .ref q]) (upd_same (H := H1) (a := tp) (o := .tup ((cn (o.drop pl) tk).map V.int))) hkb
          obtain ⟨ys2, g2, n2, v2⟩ := k2.kn.ex
          have ka : KeyAt (upd (upd H1 tp (.tup ((cn (o.drop pl) tk).map V.int))) kb1 (.tup [.int pl, .ref q])) kb1 (nk pl tk) := ⟨pl, q, tk, rfl, upd_same, kp t2 hq (by intro φ z; cases z)⟩
          refine ⟨d, ys2, kb1, nk pl tk, tp, rfl, g2, rfl, ka, rfl, Kn.few n2 v2 hm.ok, ?_⟩
          have tdn : ∀ b xs, upd (upd H1 tp (.tup ((cn (o.drop pl) tk).map V.int))) kb1 (.tup [.int pl, .ref q]) b = some (.tup xs) → b ≠ d := fun b xs e => notN g2.ob e (by intro φ z; cases z)
          have s3 : SameX d (upd (upd H1 tp (.tup ((cn (o.drop pl) tk).map V.int))) kb1 (.tup [.int pl, .ref q])) (upd (upd (upd H1 tp (.tup ((cn (o.drop pl) tk).map V.int))) kb1 (.tup [.int pl, .ref q])) d (NOb P w d (storeN ys2 (nk pl tk) kb1 tp))) := fun b u hb e => by rw [upd_ne hb]; exact e
          have ks : ∀ {b k}, KeyAt (upd (upd H1 tp (.tup ((cn (o.drop pl) tk).map V.int))) kb1 (.tup [.int pl, .ref q])) b k → KeyAt (upd (upd (upd H1 tp (.tup ((cn (o.drop pl) tk).map V.int))) kb1 (.tup [.int pl, .ref q])) d (NOb P w d (storeN ys2 (nk pl tk) kb1 tp))) b k := fun h => h.same fun b xs e => s3 _ _ (tdn b xs e) e
          have gN : NAt P w (upd (upd (upd H1 tp (.tup ((cn (o.drop pl) tk).map V.int))) kb1 (.tup [.int pl, .ref q])) d (NOb P w d (storeN ys2 (nk pl tk) kb1 tp))) d (storeN ys2 (nk pl tk) kb1 tp) := by
            refine ⟨upd_same, fun y hy => ?_⟩
            rcases mem_store hy with h | ⟨e1, e2, e3⟩
            · exact ks (g2.keys y h)
            · rw [e1]
              rcases e3 with e3 | ⟨z, hz, e4, e5⟩
              · rw [e3]; exact ks ka
              · have h9 := ks (g2.keys z hz)
                rw [e4] at h9
                rw [← e5]; exact h9
          have e5 := s3 _ _ (tdn _ _ etp) etp
          refine last (fun x u hx e => s3 x u hx (t2 x u hx e)) (k2.later s3 ⟨_, gN, store_keys n2, fun y hy => ?_⟩) gN (nval_store _ _ _ _) e5
          rcases mem_store hy with h | ⟨e1, e2, _⟩
          · obtain ⟨p9, tk9, b1, b2, b3, b4⟩ := v2 y h
            exact ⟨p9, tk9, b1, b2, b3, s3 _ _ (tdn _ _ b4) b4⟩
          · exact ⟨pl, tk, e1, hlt, hs, by rw [e2]; exact e5⟩
/-- of any place -/
theorem ok_counts (F : Df K "counts" "Matcher.counts" sMatCounts f) (c : Cls K (cMat K)) (me : Meth K (cMat K) "counts" f) (Tx : Txt K mg) : C8.Met P w K mg base 6 (cMat K) "counts" (spCounts P w K 5) [] := by
  have go : ∀ n, n ≤ 5 → C8.Met P w K mg base (n + 1) (cMat K) "counts" (spCounts P w K n) [] := by
    intro n
    induction n with
    | zero => exact fun _ => ok_counts0 F c me Tx
    | succ n ih => exact fun h => ok_counts1 (by omega) F c me Tx (ih (by omega))
  exact go 5 (by omega)
end
end Lk
/-! Kd13 -/
namespace Lk
open PySem PySem.Spec PyProof.Rows L2
abbrev opsOf (R : Rnd) (T C : List Str) : Op := Ld.O C T (fitR R)
theorem optOk {R : Rnd} {T C : List Str} (h : LabOk T C) : OptOk (opsOf R T C) T :=
  ⟨h.t, h.tlen, by rw [Ld.O_length]; exact h.clen, fun p hp => by rw [(Ld.O_mem.mp hp).2]; exact List.filter_sublist⟩
section
variable {P : Program} {w : World} {K : PySem.W.Frag} {mg : Str → Option Value} {base : Heap} {f : Addr}
theorem sc_matInit : FnScope ["self", "office", "claim"] ["self", "office"] (defScope sMatInit) := ⟨rfl, rfl, rfl, by decide +kernel, rfl, by decide +kernel, by decide +kernel⟩
abbrev nm_matInit : List Str := ["self", "office", "claim"]
theorem sc_has : FnScope ["self", "place", "taken", "pairs", "counts"] ["self", "place", "taken", "pairs"] (defScope sMatHas) := ⟨rfl, rfl, rfl, by decide +kernel, rfl, by decide +kernel, by decide +kernel⟩
abbrev nm_has : List Str := ["self", "place", "taken", "pairs", "counts"]
theorem sc_most : FnScope ["self", "counts", "pairs", "ways"] ["self"] (defScope sMatMost) := ⟨rfl, rfl, rfl, by decide +kernel, rfl, by decide +kernel, by decide +kernel⟩
abbrev nm_most : List Str := ["self", "counts", "pairs", "ways"]
theorem sc_matchCount : FnScope ["office", "size", "counts"] ["office", "size"] (defScope sMatchCount) := ⟨rfl, rfl, rfl, by decide +kernel, rfl, by decide +kernel, by decide +kernel⟩
abbrev nm_matchCount : List Str := ["office", "size", "counts"]
theorem sc_mostPairs : FnScope ["office"] ["office"] (defScope sMostPairs) := ⟨rfl, rfl, rfl, by decide +kernel, rfl, by decide +kernel, by decide +kernel⟩
abbrev nm_mostPairs : List Str := ["office"]
def spMatInit (P : Program) (w : World) (K : PySem.W.Frag) : Sp := fun vs H Q _ => ∃ m R o T C dx, vs = [.ref m, .ref o] ∧ H m = some (.ins (cMat K) dx []) ∧ OffAt K H R o T C ∧ ∀ H' d, SameX m H H' → H d = none → MatAt P w K H' m d (opsOf R T C) T → Q .non H'
theorem ok_matInit (F : Df K "__init__" "Matcher.__init__" sMatInit f) (M : Mk K (cMat K) f) (Tx : Txt K mg) (pC : Pro P w K mg base 1 (cOff K) "claims" (spOffClaims K)) (cF : C8.Cal P w K mg base 6 "fitting_things" (spFitThings K) []) :
    C8.Mak P w K mg base 7 "Matcher" (cMat K) (spMatInit P w K) [] := by
  refine F.mak M Tx.mMat sc_matInit (fun _ _ _ _ _ _ us hl => match us, hl with | [_, _], _ => rfl) (fun vs H Q E h => ?_) (fun cdv A outer s H vs Q E hr h => ?_)
  · obtain ⟨m, R, o, T, C, dx, rfl, _⟩ := h; rfl
  · obtain ⟨m, R, o, T, C, dx, rfl, hm, ho, q⟩ := h
    refine ⟨_, pss_cons (ps_fld (pv 0) (pe_lc (own := [("claim", 2)]) rfl sc_matInit.nd (pi_keys (pe_frz (pe_pr pC hr (by decide) (pv 1)))) (blkOk_by (N := nm_matInit) (sc := defScope sMatInit) (by decide +kernel)) (fun _ _ _ _ _ => pg_name (i := 2) sc_matInit.nd rfl (Or.inl rfl)) (fun _ _ _ _ _ => pts_nil)
        (fun _ _ _ _ _ => pe_tup (pa_cons (pv 2) (pa_cons (C8.pe_c cF hr (by decide) (by rfl) (pa_cons (pv 1) (pa_cons (pv 2) pa_nil))) pa_nil)))) rfl)
      (pss_one (ps_fld (pv 0) pe_dnewN rfl)), ?_⟩
    obtain ⟨odx, f, b, o1, o2, o3⟩ := ho.ex
    have hcl := ho.lab.clen
    refine ⟨_, rfl, o, odx, _, rfl, o1, R, o, T, C, rfl, ho, fun p hp => ⟨p, _, rfl, upd_same, trivial, fun od => ⟨p, od, rfl, .inl ⟨_, upd_same, fun D hD => ?_⟩⟩⟩⟩
    have s0 : Same H (upd (upd H p (.dK (cKvs R C))) p (.frz od (.dK (cKvs R C)))) := Same.fz hp
    refine walk_any walk_keys (fun i H' => Same (upd (upd H p (.dK (cKvs R C))) p (.frz od (.dK (cKvs R C)))) H' ∧ ∃ L : List (Addr × Addr × (Str × List Str)), H' D = some (.lst (L.map fun p => V.ref p.1)) ∧ L.map (·.2.2) = opsOf R T (C.take i) ∧
        ∀ p ∈ L, (p.1 ≠ D ∧ p.2.1 ≠ D) ∧ H' p.1 = some (.tup [.str p.2.2.1, .ref p.2.1]) ∧ H' p.2.1 = some (.lst (p.2.2.2.map V.str)))
      ⟨Same.upd hD, [], upd_same, rfl, fun p hp => by cases hp⟩ (fun i H' _ z => z.1 _ _ upd_same) ?_ ?_
    · rintro i v H1 H2 hi ⟨z1, L, z2, z3, z4⟩ ⟨rfl, k, u, hg, rfl⟩
      unfold cKvs at hg
      obtain ⟨c, hc, e⟩ := get_map hg
      cases e
      have hi' : i < C.length := by unfold cKvs at hi; simpa using hi
      refine ⟨rfl, tyes ⟨_, rfl, _, rfl, _, rfl, R, o, T, C, c, rfl, ho.same (s0.trans z1), mem_of_get hc, fun FL H3 s3 hF0 hFL => ⟨by show 2 ≤ sizeLine; decide, fun t ht => ?_⟩⟩⟩
      have zD := s3 _ _ z2
      have hLl : L.length = i := by
        have := congrArg List.length z3
        rw [List.length_map, Ld.O_length, List.length_take] at this; omega
      have hFD : FL ≠ D := fun e => by rw [e, z2] at hF0; cases hF0
      have htD : t ≠ D := (ne_of_none zD ht).symm
      have z5 := upd_keep (u := .tup [.str c, .ref FL]) zD ht
      have s5 := Same.upd' (o := .tup [.str c, .ref FL]) (z1.trans s3) ht
      refine ⟨L.map fun p => V.ref p.1, (show upd H3 t (HO.tup [kV (Sum.inr c), V.ref FL]) D = some (.lst (L.map fun p => V.ref p.1)) from z5), by rw [List.length_map, sizeLine_eq]; omega, Same.updN s5 hD, L ++ [(t, FL, (c, T.filter (fitR R c)))], by rw [upd_same]; simp, ?_, fun p hp => ?_⟩
      · rw [List.map_append, z3, List.take_add_one, hc]
        unfold opsOf Ld.O
        simp
      · rcases List.mem_append.mp hp with z | z
        · obtain ⟨⟨a1, a2⟩, a3, a4⟩ := z4 p z
          exact ⟨⟨a1, a2⟩, by rw [upd_ne a1]; exact upd_keep (s3 _ _ a3) ht, by rw [upd_ne a2]; exact upd_keep (s3 _ _ a4) ht⟩
        · rw [List.mem_singleton.mp z]
          exact ⟨⟨htD, hFD⟩, by rw [upd_ne htD]; exact upd_same, by rw [upd_ne hFD]; exact upd_keep hFL ht⟩
    · rintro H1 ⟨z1, L, z2, z3, z4⟩
      have e1 : C.take (cKvs R C).length = C := by unfold cKvs; rw [List.length_map, List.take_length]
      rw [e1] at z3
      have s1 := s0.trans z1
      have m1 := s1 _ _ hm
      refine ⟨_, rfl, m, _, dx, [], rfl, m1, Tx.clMat, Tx.naOptions, by decide, ?_⟩
      intro d hd
      have hdm : d ≠ m := fun e => by rw [e, upd_same] at hd; cases hd
      have hdn : H1 d = none := by rw [upd_ne hdm] at hd; exact hd
      refine ⟨_, rfl, m, _, dx, _, rfl, by rw [upd_ne hdm.symm]; exact upd_same, Tx.clMat, Tx.naKnown, by show 1 < 1000; decide, ?_⟩
      have neM : ∀ {b u}, H1 b = some u → (∀ a c e, u ≠ .ins a c e) → b ≠ m := fun h hne e => by rw [e, m1] at h; exact hne _ _ _ (Option.some.inj h).symm
      have neD : ∀ {b u}, H1 b = some u → b ≠ d := fun h e => by rw [e, hdn] at h; cases h
      have kp : ∀ {b u}, H1 b = some u → (∀ a c e, u ≠ .ins a c e) → upd (upd (upd H1 m (.ins (cMat K) dx (putF "options" (.ref D) []))) d (NOb P w d [])) m (.ins (cMat K) dx (putF "known" (.ref d) (putF "options" (.ref D) []))) b = some u := fun h hne => by
        rw [upd_ne (neM h hne), upd_ne (neD h), upd_ne (neM h hne)]; exact h
      refine q _ d (fun b u hb e => ?_) (none_of s1 hdn) ⟨⟨dx, D, upd_same, L, kp z2 (by intro _ _ _ z; cases z), z3, fun p hp => ⟨kp (z4 p hp).2.1 (by intro _ _ _ z; cases z), kp (z4 p hp).2.2 (by intro _ _ _ z; cases z)⟩⟩,
        ⟨[], ⟨by rw [upd_ne hdm]; exact upd_same, fun y hy => by cases hy⟩, List.nodup_nil, fun y hy => by cases hy⟩, optOk ho.lab⟩
      rw [upd_ne hb, upd_ne (neD (s1 _ _ e)), upd_ne hb]; exact s1 _ _ e

def spHas (P : Program) (w : World) (K : PySem.W.Frag) : Sp := fun vs H Q _ => ∃ m d o T, ∃ (place k : Nat) (tk : List Str) (q : Addr), vs = [.ref m, .int place, .ref q, .int k] ∧ MatAt P w K H m d o T ∧ place ≤ o.length ∧ H q = some (.tup (tk.map V.str)) ∧ tk.Sublist T ∧
  ∀ H', SameX d H H' → MatAt P w K H' m d o T → Q (.bl (decide (Ld.W (o.drop place) tk k ≠ []))) H'
theorem ok_has (F : Df K "has" "Matcher.has" sMatHas f) (c : Cls K (cMat K)) (me : Meth K (cMat K) "has" f) (Tx : Txt K mg) (cC : C8.Met P w K mg base 6 (cMat K) "counts" (spCounts P w K 5) []) : C8.Met P w K mg base 7 (cMat K) "has" (spHas P w K) [] := by
  refine F.met c me sc_has (fun _ _ _ _ _ _ us hl => match us, hl with | [_, _, _, _], _ => rfl) (fun vs H Q E h => ?_) (fun cdv A outer s H vs Q E hr h => ?_)
  · obtain ⟨m, d, o, T, pl, k, tk, q, rfl, _⟩ := h; rfl
  · obtain ⟨m, d, o, T, pl, k, tk, q, rfl, hm, h1, hq, hs, fin⟩ := h
    refine ⟨_, pss_cons (ps_set sc_has.nd (i := 4) rfl (Or.inl rfl) (C8.pe_mt cC hr (by decide) (pv 0) (pa_cons (pv 1) (pa_cons (pv 2) pa_nil))))
      (pss_one (ps_ret (pe_and (pe_cmpR op_lt (pv 3) (pe_callB call_len (by rfl) Tx.len boot_len (pa_cons (pv 4) pa_nil)) (nomark _)) (pe_one (pe_cmpR op_gt (pe_ix ix_tup (pv 4) (pv 3) (fun _ _ => rfl)) pe_int (nomark _)))))), ?_⟩
    obtain ⟨dx, op, m1, _⟩ := hm.ex
    have := hm.ok.olen
    refine ⟨_, rfl, m, dx, _, rfl, m1, rfl, _, rfl, _, rfl, m, d, o, T, pl, tk, q, rfl, hm, h1, by omega, hq, hs, fun p H1 s1 k1 hp => ?_⟩
    refine ⟨_, rfl, _, rfl, _, (o.drop pl).length + 1, rfl, .inr ⟨_, SqT.of hp, by rw [List.length_map, cn_len]⟩, _, _, rfl, rfl, _, rfl, ?_⟩
    by_cases hk : k < (o.drop pl).length + 1
    · rw [decide_eq_true (show (k : Int) < (((o.drop pl).length + 1 : Nat) : Int) by omega)]
      refine iteT ⟨_, rfl, _, rfl, p, _, _, _, rfl, rfl, SqT.of hp, atI_nat (by rw [List.getElem?_map, cn_get (by omega)]; rfl), _, _, rfl, rfl, ?_⟩
      have e : decide (Ld.W (o.drop pl) tk k ≠ []) = decide ((0 : Int) < ((Ld.W (o.drop pl) tk k).length : Int)) := by
        rw [Bool.eq_iff_iff, decide_eq_true_iff, decide_eq_true_iff, ← List.length_pos_iff]; omega
      show Q (.bl (decide ((0 : Int) < ((Ld.W (o.drop pl) tk k).length : Int)))) H1
      rw [← e]
      exact fin H1 s1 k1
    · rw [decide_eq_false (show ¬ (k : Int) < (((o.drop pl).length + 1 : Nat) : Int) by omega)]
      refine iteF ?_
      have e : decide (Ld.W (o.drop pl) tk k ≠ []) = false := by rw [Ld.W_long _ _ _ (by omega)]; simp
      rw [← e]
      exact fin H1 s1 k1

def spMost (P : Program) (w : World) (K : PySem.W.Frag) : Sp := fun vs H Q _ => ∃ m d o T, vs = [.ref m] ∧ MatAt P w K H m d o T ∧ ∀ H', SameX d H H' → MatAt P w K H' m d o T → Q (.int (Ld.nu o [])) H'
theorem ok_most (F : Df K "most" "Matcher.most" sMatMost f) (c : Cls K (cMat K)) (me : Meth K (cMat K) "most" f) (Tx : Txt K mg) (cC : C8.Met P w K mg base 6 (cMat K) "counts" (spCounts P w K 5) []) : C8.Met P w K mg base 7 (cMat K) "most" (spMost P w K) [] := by
  refine F.met c me sc_most (fun _ _ _ _ _ _ us hl => match us, hl with | [_], _ => rfl) (fun vs H Q E h => ?_) (fun cdv A outer s H vs Q E hr h => ?_)
  · obtain ⟨m, d, o, T, rfl, _⟩ := h; rfl
  · obtain ⟨m, d, o, T, rfl, hm, fin⟩ := h
    refine ⟨_, pss_cons (ps_set sc_most.nd (i := 1) rfl (Or.inl rfl) (C8.pe_mt cC hr (by decide) (pv 0) (pa_cons pe_int (pa_cons (pe_tup pa_nil) pa_nil))))
      (pss_one (ps_ret (pe_callB (cr_max rfl) (by rfl) Tx.max boot_max (pa_cons (pe_lc (own := [("pairs", 2), ("ways", 3)]) rfl sc_most.nd (pi_enumT (by rfl) Tx.enumerate (pa_cons (pv 1) pa_nil)) (blkOk_by (N := nm_most) (sc := defScope sMatMost) (by decide +kernel)) (fun _ _ _ _ _ => pg_n2 K (i := 2) (j := 3) rfl rfl sc_most.nd rfl rfl (Or.inl rfl) (Or.inl rfl) (Or.inr rfl) (Or.inr rfl))
        (fun _ _ _ _ _ => pts_one (pt_cmpR op_gt (pv 3) pe_int (nomark _))) (fun _ _ _ _ _ => pv 2)) pa_nil)))), ?_⟩
    obtain ⟨dx, op, m1, _⟩ := hm.ex
    have h5 := hm.ok.olen
    refine ⟨_, rfl, m, dx, _, rfl, m1, rfl, by show 0 ≤ sizeLine; decide, fun q hq => ?_⟩
    have s0 : Same H (upd H q (.tup [])) := Same.upd hq
    refine ⟨m, d, o, T, 0, [], q, rfl, hm.same s0, by omega, by omega, upd_same, List.nil_sublist _, fun p H1 s1 k1 hp => ?_⟩
    have hp : H1 p = some (.tup ((cn o []).map V.int)) := hp
    refine ⟨_, rfl, p, _, rfl, SqT.of hp, fun D hD => ?_⟩
    refine lc_it (walk_enumT (xs := (cn o []).map V.int)) (PvS H1 D (outF (List.range (o.length + 1)) (fun k => decide (0 < (Ld.W o [] k).length)) (fun k => .int k))) (.zero hD outF_zero) (fun i H2 _ z => SqT.of (z.1 _ _ hp)) ?_ ?_
    · rintro i v H2 H3 hi ⟨z1, z2⟩ ⟨T', u, y, rfl, hT', rfl, hu, hy⟩
      cases hu
      obtain ⟨x, hx, rfl⟩ := get_map hy
      have hi' : i < o.length + 1 := by rw [List.length_map, cn_len] at hi; exact hi
      rw [cn_get (by omega)] at hx
      obtain rfl := (Option.some.inj hx).symm
      have hr' : (List.range (o.length + 1))[i]? = some i := List.getElem?_range hi'
      refine ⟨T', _, rfl, SqT.of upd_same, rfl, _, _, rfl, _, _, rfl, rfl, rfl, ?_⟩
      refine ⟨_, rfl, _, _, rfl, rfl, _, rfl, ?_⟩
      by_cases hw : 0 < (Ld.W o [] i).length
      · rw [decide_eq_true (show (0 : Int) < ((Ld.W o [] i).length : Int) by omega)]
        exact iteT ⟨_, rfl, PvS.add hD (Same.upd' z1 hT') (upd_keep z2 hT') (outF_len (by rw [List.length_range]; omega)) (outF_yes hr' (decide_eq_true hw))⟩
      · rw [decide_eq_false (show ¬ (0 : Int) < ((Ld.W o [] i).length : Int) by omega)]
        exact iteF (.skip (Same.upd' z1 hT') (upd_keep z2 hT') (outF_no hr' (decide_eq_false hw)))
    · rintro H2 ⟨z1, z2⟩
      rw [outF_all _ (by rw [List.length_map, cn_len, List.length_range])] at z2
      have e2 : ((List.range (o.length + 1)).filter (fun k => decide (0 < (Ld.W o [] k).length))).map (fun k : Nat => V.int k) = (((List.range (o.length + 1)).filter (fun k => decide (0 < (Ld.W o [] k).length))).map (fun k : Nat => (k : Int))).map V.int := by rw [List.map_map]; rfl
      rw [e2] at z2
      have mem : ∀ k : Nat, k ∈ (List.range (o.length + 1)).filter (fun k => decide (0 < (Ld.W o [] k).length)) ↔ k ≤ Ld.nu o [] := fun k => by
        rw [List.mem_filter, List.mem_range, decide_eq_true_iff, List.length_pos_iff, Ld.W_ne]
        exact ⟨fun h => h.2, fun h => ⟨by
          have : Ld.W o [] k ≠ [] := (Ld.W_ne o [] k).mpr h
          by_cases hk : k < o.length + 1
          · exact hk
          · exact absurd (Ld.W_long o [] k (by omega)) this, h⟩⟩
      refine ⟨D, _, rfl, SqL.of z2, ?_, fun M hM hmax => ?_⟩
      · rw [List.length_map]
        exact List.length_pos_iff.mpr (List.ne_nil_of_mem ((mem 0).mpr (Nat.zero_le _)))
      · obtain ⟨k, hk, rfl⟩ := List.mem_map.mp hM
        have h1 := (mem k).mp hk
        have h2 := hmax _ (List.mem_map_of_mem ((mem (Ld.nu o [])).mpr (Nat.le_refl _)))
        have : k = Ld.nu o [] := by omega
        rw [this]
        refine fin H2 (fun b u hb e => z1 _ _ (s1 b u hb (s0 b u e))) (k1.same z1)

/-- Matcher(office) where it is read -/
theorem mk_read {P : Program} {w : World} {K : PySem.W.Frag} {H : Hp} {R : Rnd} {o : Addr} {T C : List Str} {Q : Addr → Hp → Prop} {E : XK} (ho : OffAt K H R o T C) (q : ∀ m d H', Same H H' → MatAt P w K H' m d (opsOf R T C) T → H d = none → Q m H') :
    ∀ x dx, H x = none → H dx = none → dx ≠ x → spMatInit P w K (.ref x :: ([.ref o] ++ [])) (upd (upd H dx (.own x)) x (.ins (cMat K) dx [])) (fun v H2 => v = .non ∧ Q x H2) E := by
  intro x dx hx hdx hne
  have hx2 : upd H dx (.own x) x = none := by rw [upd_ne hne.symm]; exact hx
  have s0 : Same H (upd (upd H dx (.own x)) x (.ins (cMat K) dx [])) := Same.upd' (Same.upd hdx) hx2
  refine ⟨x, R, o, T, C, dx, rfl, upd_same, ho.same s0, fun H' d sx hd km => ⟨rfl, q x d H' (fun b u e => sx b u (fun z => by rw [z, hx] at e; cases e) (s0 b u e)) km (none_of s0 hd)⟩⟩
theorem SameX.back {d : Addr} {H0 H H' : Hp} (s : Same H0 H) (hd : H0 d = none) (x : SameX d H H') : Same H0 H' := fun b u e => x b u (fun z => by rw [z, hd] at e; cases e) (s b u e)

def spMatchCount (K : PySem.W.Frag) : Sp := fun vs H Q _ => ∃ R o T C, ∃ k : Nat, vs = [.ref o, .int k] ∧ OffAt K H R o T C ∧ k ≤ 1000 ∧ ∀ H', Same H H' → Q (.int ((Ld.wO C T (fitR R) k).length : Nat)) H'
theorem ok_matchCount (F : Df K "match_count" "match_count" sMatchCount f) (hm : mg "match_count" = some (.ref f)) (Tx : Txt K mg) (cI : C8.Cal P w K mg base 1 "is_number" spIsNumber []) (cM : C8.Mak P w K mg base 7 "Matcher" (cMat K) (spMatInit P w K) [])
    (cC : C8.Met P w K mg base 6 (cMat K) "counts" (spCounts P w K 5) []) : C8.Cal P w K mg base 9 "match_count" (spMatchCount K) [] := by
  refine F.cal hm sc_matchCount (fun _ _ _ _ _ _ us hl => match us, hl with | [_, _], _ => rfl) (fun vs H Q E h => ?_) (fun cdv A outer s H vs Q E hr h => ?_)
  · obtain ⟨R, o, T, C, k, rfl, _⟩ := h; rfl
  · obtain ⟨R, o, T, C, k, rfl, ho, hk, q⟩ := h
    refine ⟨_, pss_cons (ps_if (pt_not (pt_val (C8.pe_c cI hr (by decide) (by rfl) (pa_cons (pv 1) (pa_cons pe_int (pa_cons (C8.pe_gc (by rfl) Tx.gMaxSize) pa_nil)))))) pss_never pss_nil)
      (pss_cons (ps_set sc_matchCount.nd (i := 2) rfl (Or.inl rfl) (C8.pe_mt cC hr (by decide) (C8.pe_mk cM hr (by decide) (by rfl) (pa_cons (pv 0) pa_nil)) (pa_cons pe_int (pa_cons (pe_tup pa_nil) pa_nil))))
      (pss_one (ps_ret (pe_ifExp (pt_cmpR op_lt (pv 1) (pe_callB call_len (by rfl) Tx.len boot_len (pa_cons (pv 2) pa_nil)) (nomark _)) (pe_ix ix_tup (pv 2) (pv 1) (fun _ _ => rfl)) pe_int)))), ?_⟩
    refine ⟨_, rfl, k, 0, 1000000000000000000, rfl, ?_⟩
    rw [decide_eq_true (show (0 : Int) ≤ k by omega), decide_eq_true (show (k : Int) ≤ 1000000000000000000 by omega)]
    refine ⟨true, rfl, iteF ?_⟩
    refine ⟨_, rfl, mk_read ho fun m d H1 s1 k1 hd => ?_⟩
    obtain ⟨dx, op, m1, _⟩ := k1.ex
    refine ⟨m, dx, _, rfl, m1, rfl, by show 0 ≤ sizeLine; decide, fun qq hq => ?_⟩
    have h5 := k1.ok.olen
    have s2 := Same.upd' (o := .tup []) s1 hq
    refine ⟨m, d, _, T, 0, [], qq, rfl, k1.same (Same.upd hq), by omega, by omega, upd_same, List.nil_sublist _, fun p H2 x2 k2 hp => ?_⟩
    have hp : H2 p = some (.tup ((cn (opsOf R T C) []).map V.int)) := hp
    have s3 := SameX.back s2 hd x2
    refine ⟨_, rfl, _, rfl, _, (opsOf R T C).length + 1, rfl, .inr ⟨_, SqT.of hp, by rw [List.length_map, cn_len]⟩, _, _, rfl, rfl, _, rfl, ?_⟩
    by_cases hk2 : k < (opsOf R T C).length + 1
    · rw [decide_eq_true (show (k : Int) < (((opsOf R T C).length + 1 : Nat) : Int) by omega)]
      exact iteT ⟨_, rfl, _, rfl, p, _, _, _, rfl, rfl, SqT.of hp, atI_nat (by rw [List.getElem?_map, cn_get (by omega)]; rfl), q H2 s3⟩
    · rw [decide_eq_false (show ¬ (k : Int) < (((opsOf R T C).length + 1 : Nat) : Int) by omega)]
      refine iteF ?_
      have e : (Ld.wO C T (fitR R) k) = [] := Ld.W_long _ _ _ (show (opsOf R T C).length < k by omega)
      have := q H2 s3
      rw [e] at this
      exact this
def spMostPairs (K : PySem.W.Frag) : Sp := fun vs H Q _ => ∃ R o T C, vs = [.ref o] ∧ OffAt K H R o T C ∧ ∀ H', Same H H' → Q (.int (Ld.nuO C T (fitR R) : Nat)) H'
theorem ok_mostPairs (F : Df K "most_pairs" "most_pairs" sMostPairs f) (hm : mg "most_pairs" = some (.ref f)) (Tx : Txt K mg) (cM : C8.Mak P w K mg base 7 "Matcher" (cMat K) (spMatInit P w K) [])
    (cC : C8.Met P w K mg base 7 (cMat K) "most" (spMost P w K) []) : C8.Cal P w K mg base 9 "most_pairs" (spMostPairs K) [] := by
  refine F.cal hm sc_mostPairs (fun _ _ _ _ _ _ us hl => match us, hl with | [_], _ => rfl) (fun vs H Q E h => ?_) (fun cdv A outer s H vs Q E hr h => ?_)
  · obtain ⟨R, o, T, C, rfl, _⟩ := h; rfl
  · obtain ⟨R, o, T, C, rfl, ho, q⟩ := h
    refine ⟨_, pss_one (ps_ret (C8.pe_mt0 cC hr (by decide) (C8.pe_mk cM hr (by decide) (by rfl) (pa_cons (pv 0) pa_nil)))), ?_⟩
    refine ⟨_, rfl, mk_read ho fun m d H1 s1 k1 hd => ?_⟩
    obtain ⟨dx, op, m1, _⟩ := k1.ex
    exact ⟨m, dx, _, rfl, m1, rfl, m, d, _, T, rfl, k1, fun H2 x2 k2 => q H2 (SameX.back s1 hd x2)⟩
end
end Lk
/-! Kd14 -/
namespace Lk
open PySem PySem.Spec PyProof.Rows L2
abbrev nuR (R : Rnd) (T C : List Str) : Nat := Ld.nuO C T (fitR R)
abbrev nW (R : Rnd) (T C : List Str) (k : Nat) : Nat := (Ld.wO C T (fitR R) k).length
def judS (R : Rnd) (T C : List Str) (c t : Str) : Str :=
  if fitR R c t = false then "never" else if nuR R (Ld.rmv t T) (Ld.rmv c C) + 1 < nuR R T C then "never" else
  if nW R (Ld.rmv t T) (Ld.rmv c C) (nuR R T C - 1) = nW R T C (nuR R T C) then "surely" else "perhaps"
theorem MatAt.other {P : Program} {w : World} {K : PySem.W.Frag} {H H' : Hp} {m d d1 : Addr} {o : Op} {T : List Str} {ys1 : List NE} (h : MatAt P w K H m d o T) (h1 : H d1 = some (NOb P w d1 ys1)) (hne : d ≠ d1) (s : SameX d1 H H') : MatAt P w K H' m d o T := by
  obtain ⟨dx, op, a1, L, a2, a3, a4⟩ := h.ex
  have kp : ∀ {b u}, H b = some u → (∀ φ, u ≠ .ext φ) → H' b = some u := fun hb hn => s _ _ (notN h1 hb hn) hb
  obtain ⟨ys, g, hn, hv⟩ := h.kn.ex
  refine ⟨⟨dx, op, kp a1 (by intro φ z; cases z), L, kp a2 (by intro φ z; cases z), a3, fun p hp => ⟨kp (a4 p hp).1 (by intro φ z; cases z), kp (a4 p hp).2 (by intro φ z; cases z)⟩⟩,
    ⟨ys, ⟨s _ _ hne g.ob, fun y hy => (g.keys y hy).same fun b xs e => kp e (by intro φ z; cases z)⟩, hn, fun y hy => ?_⟩, h.ok⟩
  obtain ⟨p, tk, b1, b2, b3, b4⟩ := hv y hy
  exact ⟨p, tk, b1, b2, b3, kp b4 (by intro φ z; cases z)⟩
section
variable {P : Program} {w : World} {K : PySem.W.Frag} {mg : Str → Option Value} {base : Heap} {f : Addr}
theorem sc_judged : FnScope ["office", "claim", "thing", "lost", "found", "most", "whole", "least"] ["office", "claim", "thing"] (defScope sJudged) := ⟨rfl, rfl, rfl, by decide +kernel, rfl, by decide +kernel, by decide +kernel⟩
abbrev nm_judged : List Str := ["office", "claim", "thing", "lost", "found", "most", "whole", "least"]
theorem sc_judge : FnScope ["office", "claim", "thing"] ["office", "claim", "thing"] (defScope sJudge) := ⟨rfl, rfl, rfl, by decide +kernel, rfl, by decide +kernel, by decide +kernel⟩
abbrev nm_judge : List Str := ["office", "claim", "thing"]
theorem sc_surePairs : FnScope ["office", "found", "claim", "thing"] ["office"] (defScope sSurePairs) := ⟨rfl, rfl, rfl, by decide +kernel, rfl, by decide +kernel, by decide +kernel⟩
abbrev nm_surePairs : List Str := ["office", "found", "claim", "thing"]
theorem sc_pairLoss : FnScope ["office", "claim", "thing", "rest"] ["office", "claim", "thing"] (defScope sPairLoss) := ⟨rfl, rfl, rfl, by decide +kernel, rfl, by decide +kernel, by decide +kernel⟩
abbrev nm_pairLoss : List Str := ["office", "claim", "thing", "rest"]
theorem sc_service : FnScope ["office", "label", "whole", "without", "most", "free", "total"] ["office", "label"] (defScope sService) := ⟨rfl, rfl, rfl, by decide +kernel, rfl, by decide +kernel, by decide +kernel⟩
abbrev nm_service : List Str := ["office", "label", "whole", "without", "most", "free", "total"]
theorem sc_served : FnScope ["office", "label"] ["office", "label"] (defScope sServed) := ⟨rfl, rfl, rfl, by decide +kernel, rfl, by decide +kernel, by decide +kernel⟩
abbrev nm_served : List Str := ["office", "label"]
/-- o.without(c).without(t), where it is read -/
theorem rest_read {K : PySem.W.Frag} {H : Hp} {R : Rnd} {o : Addr} {T C : List Str} {c t : Str} {Q : VK} (ho : OffAt K H R o T C) (hc : c ∈ C) (ht : t ∈ T)
    {σ : L2.St} {i j : Nat} (hi : σ[i]? = some (some (.str c))) (hj : σ[j]? = some (some (.str t))) {l : Nat} (hl : σ[l]? = some (some (.ref o))) (q : ∀ o' H', Same H H' → OffAt K H' R o' (Ld.rmv t T) (Ld.rmv c C) → Q (.ref o') H') :
    tMeth (cOff K) "without" (spWithout K) [] C8.E0 (tMeth (cOff K) "without" (spWithout K) [] C8.E0 (tVar l) (tCons (tVar i) tNil)) (tCons (tVar j) tNil) σ H Q := by
  obtain ⟨dx, f, b, h1, h2, h3⟩ := ho.ex
  have hcT := ho.lab.cNotT hc
  have htC := ho.lab.tNotC ht
  refine ⟨_, hl, o, dx, _, rfl, h1, rfl, _, hi, R, o, T, C, c, rfl, ho, .inr hc, fun o1 H1 s1 ho1 => ?_⟩
  obtain ⟨dx1, f1, b1, g1, _⟩ := ho1.ex
  refine ⟨o1, dx1, _, rfl, g1, rfl, _, hj, R, o1, _, _, t, rfl, ho1, .inl (mem_rmv2 ht fun e => hcT (e ▸ ht)), fun o2 H2 s2 ho2 => ?_⟩
  rw [rmv_no hcT, rmv_no (l := t) (fun h => htC (mem_rmv h))] at ho2
  exact q o2 H2 (s1.trans s2) ho2
def spJudged (K : PySem.W.Frag) : Sp := fun vs H Q _ => ∃ R o T C c t, vs = [.ref o, .str c, .str t] ∧ OffAt K H R o T C ∧ c ∈ C ∧ t ∈ T ∧ ∀ H', Same H H' → Q (.str (judS R T C c t)) H'
theorem ok_judged (F : Df K "judged" "judged" sJudged f) (hm : mg "judged" = some (.ref f)) (Tx : Txt K mg) (pT : Pro P w K mg base 1 (cOff K) "things" (spOffThings K)) (pC : Pro P w K mg base 1 (cOff K) "claims" (spOffClaims K))
    (cI : C8.Cal P w K mg base 5 "is_fitting" (spIsFitting K) []) (cP : C8.Cal P w K mg base 9 "most_pairs" (spMostPairs K) []) (cW : C8.Met P w K mg base 7 (cOff K) "without" (spWithout K) [])
    (cM : C8.Mak P w K mg base 7 "Matcher" (cMat K) (spMatInit P w K) []) (cC : C8.Met P w K mg base 6 (cMat K) "counts" (spCounts P w K 5) []) : C8.Cal P w K mg base 10 "judged" (spJudged K) [] := by
  refine F.cal hm sc_judged (fun _ _ _ _ _ _ us hl => match us, hl with | [_, _, _], _ => rfl) (fun vs H Q E h => ?_) (fun cdv A outer s H vs Q E hr h => ?_)
  · obtain ⟨R, o, T, C, c, t, rfl, _⟩ := h; rfl
  · obtain ⟨R, o, T, C, c, t, rfl, ho, hc, ht, q⟩ := h
    refine ⟨_, pss_cons (ps_par (i := 3) (j := 4) (by rfl) sc_judged.nd rfl rfl (by decide) rfl rfl (pa_cons (pe_dget (hu_of hr) (pe_pr pC hr (by decide) (pv 0)) (pv 1) (fun _ _ => rfl)) (pa_cons (pe_dget (hu_of hr) (pe_pr pT hr (by decide) (pv 0)) (pv 2) (fun _ _ => rfl)) pa_nil)) (by rfl))
      (pss_cons (ps_if (pt_not (pt_val (C8.pe_c cI hr (by decide) (by rfl) (pa_cons (pv 3) (pa_cons (pv 4) pa_nil))))) (pss_one (ps_ret pe_str)) pss_nil)
      (pss_cons (ps_set sc_judged.nd (i := 5) rfl (Or.inl rfl) (C8.pe_c cP hr (by decide) (by rfl) (pa_cons (pv 0) pa_nil)))
      (pss_cons (ps_if (pt_cmpR op_lt (C8.pe_c cP hr (by decide) (by rfl) (pa_cons (C8.pe_mt cW hr (by decide) (C8.pe_mt cW hr (by decide) (pv 0) (pa_cons (pv 1) pa_nil)) (pa_cons (pv 2) pa_nil)) pa_nil)) (pe_op op_sub (pv 5) pe_int) (nomark _)) (pss_one (ps_ret pe_str)) pss_nil)
      (pss_cons (ps_par (i := 6) (j := 7) (by rfl) sc_judged.nd rfl rfl (by decide) rfl rfl
        (pa_cons (pe_ix ix_tup (C8.pe_mt cC hr (by decide) (C8.pe_mk cM hr (by decide) (by rfl) (pa_cons (pv 0) pa_nil)) (pa_cons pe_int (pa_cons (pe_tup pa_nil) pa_nil))) (pv 5) (fun _ _ => rfl))
        (pa_cons (C8.pe_mk cM hr (by decide) (by rfl) (pa_cons (C8.pe_mt cW hr (by decide) (C8.pe_mt cW hr (by decide) (pv 0) (pa_cons (pv 1) pa_nil)) (pa_cons (pv 2) pa_nil)) pa_nil)) pa_nil)) (by rfl))
      (pss_one (ps_ret (pe_ifExp (pt_cmpR op_eq (pe_ix ix_tup (C8.pe_mt cC hr (by decide) (pv 7) (pa_cons pe_int (pa_cons (pe_tup pa_nil) pa_nil))) (pe_op op_sub (pv 5) pe_int) (fun _ _ => rfl)) (pv 6) (nomark _)) pe_str pe_str))))))), ?_⟩
    obtain ⟨dx, f, b, h1, h2, h3⟩ := ho.ex
    refine ⟨_, rfl, o, dx, _, rfl, h1, R, o, T, C, rfl, ho, fun p hp => ⟨_, rfl, p, .ref (R.ca c), rfl, val_c (R := R) hc ▸ DGet.k (k := .inr c) upd_same, ?_⟩⟩
    have s1 : Same H (upd H p (.dK (cKvs R C))) := Same.upd hp
    refine ⟨_, rfl, o, dx, _, rfl, s1 _ _ h1, R, o, T, C, rfl, ho.same s1, fun p2 hp2 => ⟨_, rfl, p2, .ref (R.ta t), rfl, val_t (R := R) ht ▸ DGet.k (k := .inr t) upd_same, ?_⟩⟩
    have s2 := Same.upd' (o := .dK (tKvs R T)) s1 hp2
    refine ⟨_, _, rfl, ?_⟩
    have ho2 := ho.same s2
    refine ⟨_, rfl, _, rfl, R, c, t, rfl, ho2.cl c hc, ho2.th t ht, ho2.cat, ho2.fs.2.1, fun H3 s3 => ?_⟩
    have s03 := s2.trans s3
    by_cases hf : fitR R c t = true
    · rw [hf]
      refine ⟨true, rfl, iteF ?_⟩
      have hCn : C.Nodup := nodup_cL.sublist ho.lab.c
      have hTn : T.Nodup := nodup_tL.sublist ho.lab.t
      have hp1 : nuR R (Ld.rmv t T) (Ld.rmv c C) + 1 ≤ nuR R T C := Ld.nuO_p1 hCn hTn hc ht hf
      refine ⟨_, rfl, R, o, T, C, rfl, ho.same s03, fun H4 s4 => ?_⟩
      have s04 := s03.trans s4
      refine rest_read (ho.same s04) hc ht rfl rfl rfl fun o' H5 s5 ho5 => ?_
      have s05 := s04.trans s5
      refine ⟨R, o', _, _, rfl, ho5, fun H6 s6 => ?_⟩
      have s06 := s05.trans s6
      refine ⟨_, rfl, _, _, rfl, rfl, _, _, rfl, rfl, _, rfl, ?_⟩
      by_cases hlt : nuR R (Ld.rmv t T) (Ld.rmv c C) + 1 < nuR R T C
      · rw [decide_eq_true (show ((nuR R (Ld.rmv t T) (Ld.rmv c C) : Nat) : Int) < ((nuR R T C : Nat) : Int) - 1 by omega)]
        have e : judS R T C c t = "never" := by unfold judS; rw [if_neg (by rw [hf]; decide), if_pos hlt]
        refine iteT ?_
        have := q H6 s06
        rw [e] at this
        exact this
      · rw [decide_eq_false (show ¬ ((nuR R (Ld.rmv t T) (Ld.rmv c C) : Nat) : Int) < ((nuR R T C : Nat) : Int) - 1 by omega)]
        refine iteF ?_
        refine ⟨_, rfl, mk_read (ho.same s06) fun m d H7 s7 k7 hd7 => ?_⟩
        have s07 := s06.trans s7
        obtain ⟨mdx, op, m1, _⟩ := k7.ex
        have h5 := k7.ok.olen
        refine ⟨m, mdx, _, rfl, m1, rfl, by show 0 ≤ sizeLine; decide, fun qq hq => ?_⟩
        refine ⟨m, d, _, T, 0, [], qq, rfl, k7.same (Same.upd hq), by omega, by omega, upd_same, List.nil_sublist _, fun pp H8 x8 k8 hp8 => ?_⟩
        have hp8 : H8 pp = some (.tup ((cn (opsOf R T C) []).map V.int)) := hp8
        have s08 : Same H H8 := SameX.back (Same.upd' s07 hq) (none_of s06 hd7) x8
        have hnu : nuR R T C ≤ (opsOf R T C).length := by rw [Ld.O_length]; exact Ld.nuO_le
        refine ⟨_, rfl, pp, _, ((nuR R T C : Nat) : Int), _, rfl, rfl, SqT.of hp8, atI_nat (by rw [List.getElem?_map, cn_get hnu]; rfl), ?_⟩
        refine rest_read (ho.same s08) hc ht rfl rfl rfl fun o2 H9 s9 ho9 => ?_
        refine mk_read ho9 fun m2 d2 H10 s10 k10 hd10 => ?_
        have s010 := (s08.trans s9).trans s10
        refine ⟨_, _, rfl, ?_⟩
        obtain ⟨mdx2, op2, mm2, _⟩ := k10.ex
        have h52 := k10.ok.olen
        refine ⟨_, rfl, m2, mdx2, _, rfl, mm2, rfl, by show 0 ≤ sizeLine; decide, fun qq2 hq2 => ?_⟩
        refine ⟨m2, d2, _, _, 0, [], qq2, rfl, k10.same (Same.upd hq2), by omega, by omega, upd_same, List.nil_sublist _, fun pp2 H11 x11 k11 hp11 => ?_⟩
        have hp11 : H11 pp2 = some (.tup ((cn (opsOf R (Ld.rmv t T) (Ld.rmv c C)) []).map V.int)) := hp11
        have s011 : Same H H11 := SameX.back (Same.upd' s010 hq2) (none_of (s08.trans s9) hd10) x11
        have hrl : (Ld.rmv c C).length + 1 ≤ C.length := by
          have : (Ld.rmv c C).length < C.length := by
            unfold Ld.rmv
            exact List.length_filter_lt_length_iff_exists.mpr ⟨c, hc, by simp⟩
          omega
        have hnu1 : nuR R T C - 1 ≤ (opsOf R (Ld.rmv t T) (Ld.rmv c C)).length := by
          rw [Ld.O_length]
          have h1 : nuR R T C ≤ nuR R (Ld.rmv t T) (Ld.rmv c C) + 1 := by omega
          have h2 : nuR R (Ld.rmv t T) (Ld.rmv c C) ≤ (Ld.rmv c C).length := Ld.nuO_le
          omega
        have ecast : ((nuR R T C : Nat) : Int) - 1 = ((nuR R T C - 1 : Nat) : Int) := by omega
        refine ⟨_, rfl, _, _, rfl, rfl, pp2, _, _, _, rfl, rfl, SqT.of hp11, (by rw [ecast]; exact atI_nat (by rw [List.getElem?_map, cn_get hnu1]; rfl)), _, rfl, rfl, _, rfl, ?_⟩
        by_cases he : nW R (Ld.rmv t T) (Ld.rmv c C) (nuR R T C - 1) = nW R T C (nuR R T C)
        · have e : judS R T C c t = "surely" := by unfold judS; rw [if_neg (by rw [hf]; decide), if_neg hlt, if_pos he]
          rw [decide_eq_true (p := V.int (((Ld.W (opsOf R (Ld.rmv t T) (Ld.rmv c C)) [] (nuR R T C - 1)).length : Nat) : Int) = V.int (((Ld.W (opsOf R T C) [] (nuR R T C)).length : Nat) : Int)) (congrArg (fun n : Nat => V.int n) he)]
          refine iteT ?_
          have := q H11 s011
          rw [e] at this
          exact this
        · have e : judS R T C c t = "perhaps" := by unfold judS; rw [if_neg (by rw [hf]; decide), if_neg hlt, if_neg he]
          rw [decide_eq_false (p := V.int (((Ld.W (opsOf R (Ld.rmv t T) (Ld.rmv c C)) [] (nuR R T C - 1)).length : Nat) : Int) = V.int (((Ld.W (opsOf R T C) [] (nuR R T C)).length : Nat) : Int)) (fun z => he (by injection z with z; exact Int.ofNat.inj z))]
          refine iteF ?_
          have := q H11 s011
          rw [e] at this
          exact this
    · have hf : fitR R c t = false := by simpa using hf
      rw [hf]
      refine ⟨false, rfl, iteT ?_⟩
      have e : judS R T C c t = "never" := by unfold judS; rw [if_pos hf]
      have := q H3 s03
      rw [e] at this
      exact this
theorem ok_judge (F : Df K "judge" "judge" sJudge f) (hm : mg "judge" = some (.ref f)) (cV : C8.Cal P w K mg base 4 "validate_pair" (spValPair K) []) (cJ : C8.Cal P w K mg base 10 "judged" (spJudged K) []) : C8.Cal P w K mg base 11 "judge" (spJudged K) [] := by
  refine F.cal hm sc_judge (fun _ _ _ _ _ _ us hl => match us, hl with | [_, _, _], _ => rfl) (fun vs H Q E h => ?_) (fun cdv A outer s H vs Q E hr h => ?_)
  · obtain ⟨R, o, T, C, c, t, rfl, _⟩ := h; rfl
  · obtain ⟨R, o, T, C, c, t, rfl, ho, hc, ht, q⟩ := h
    refine ⟨_, pss_cons (ps_expr (C8.pe_c cV hr (by decide) (by rfl) (pa_cons (pv 0) (pa_cons (pv 1) (pa_cons (pv 2) pa_nil))))) (pss_one (ps_ret (C8.pe_c cJ hr (by decide) (by rfl) (pa_cons (pv 0) (pa_cons (pv 1) (pa_cons (pv 2) pa_nil)))))), ?_⟩
    exact ⟨_, rfl, _, rfl, _, rfl, R, o, T, C, c, t, rfl, ho, hc, ht, fun H1 s1 => ⟨_, rfl, _, rfl, _, rfl, R, o, T, C, c, t, rfl, ho.same s1, hc, ht, fun H' s' => q H' (s1.trans s')⟩⟩

def spSurePairs (K : PySem.W.Frag) : Sp := fun vs H Q _ => ∃ R o T C, vs = [.ref o] ∧ OffAt K H R o T C ∧ ∀ d H' (ks : List (Str × Str)), Same H H' → H d = none → H' d = some (.dK (ks.map fun p => ((Sum.inr p.1 : Key), V.str p.2))) → ks.length ≤ 25 → (ks.map (·.1)).Nodup →
  (∀ p ∈ ks, p.1 ∈ C ∧ p.2 ∈ T ∧ fitR R p.1 p.2 = true ∧ judS R T C p.1 p.2 = "surely") → Q (.ref d) H'
/-- store in a table of texts -/
def putS2 (ks : List (Str × Str)) (c t : Str) : List (Str × Str) := if c ∈ ks.map (·.1) then ks.map (fun p => if p.1 = c then (p.1, t) else p) else ks ++ [(c, t)]
theorem putS2_put (ks : List (Str × Str)) (c t : Str) : putK (ks.map fun p => ((Sum.inr p.1 : Key), V.str p.2)) (.inr c) (.str t) = (putS2 ks c t).map fun p => ((Sum.inr p.1 : Key), V.str p.2) := by
  unfold putS2
  by_cases h : c ∈ ks.map (·.1)
  · rw [if_pos h]
    unfold putK
    have ha : ((ks.map fun p => ((Sum.inr p.1 : Key), V.str p.2)).any fun kv => decide (kv.1 = Sum.inr c)) = true := by
      rw [List.any_map, List.any_eq_true]
      obtain ⟨p, hp, rfl⟩ := List.mem_map.mp h
      exact ⟨p, hp, by simp⟩
    rw [if_pos ha, List.map_map, List.map_map]
    refine List.map_congr_left fun p _ => ?_
    show (if (Sum.inr p.1 : Key) = .inr c then ((Sum.inr p.1 : Key), V.str t) else (.inr p.1, .str p.2)) = _
    by_cases e : p.1 = c
    · rw [if_pos (by rw [e])]; simp [e]
    · rw [if_neg (fun z => e (by injection z))]; simp [e]
  · rw [if_neg h, putK_new]
    · simp
    · have e : (valV (ks.map fun p => ((Sum.inr p.1 : Key), V.str p.2)) (.inr c)) = none := by
        unfold valV
        rw [Option.map_eq_none_iff, List.find?_eq_none]
        intro kv hkv
        obtain ⟨p, hp, rfl⟩ := List.mem_map.mp hkv
        have : p.1 ≠ c := fun e => h (e ▸ List.mem_map_of_mem hp)
        simp [this]
      exact e
theorem putS2_mem {ks : List (Str × Str)} {c t : Str} {p : Str × Str} (h : p ∈ putS2 ks c t) : p ∈ ks ∨ p = (c, t) := by
  unfold putS2 at h
  split at h
  · obtain ⟨z, hz, rfl⟩ := List.mem_map.mp h
    by_cases e : z.1 = c
    · rw [if_pos e]; right; rw [e]
    · rw [if_neg e]; exact .inl hz
  · rcases List.mem_append.mp h with z | z
    · exact .inl z
    · exact .inr (List.mem_singleton.mp z)
theorem putS2_len (ks : List (Str × Str)) (c t : Str) : (putS2 ks c t).length ≤ ks.length + 1 := by unfold putS2; split <;> simp
theorem putS2_nd {ks : List (Str × Str)} {c t : Str} (hn : (ks.map (·.1)).Nodup) : ((putS2 ks c t).map (·.1)).Nodup := by
  unfold putS2
  split
  · rw [List.map_map]
    have e : ((fun p : Str × Str => p.1) ∘ fun p => if p.1 = c then (p.1, t) else p) = fun p => p.1 := by
      funext p
      show (if p.1 = c then (p.1, t) else p).1 = p.1
      split <;> rfl
    rw [e]; exact hn
  · rename_i h
    rw [List.map_append, List.nodup_append]
    exact ⟨hn, by simp, fun a ha b hb => by simp at hb; rw [hb]; exact fun e => h (e ▸ ha)⟩
theorem ok_surePairs (F : Df K "sure_pairs" "sure_pairs" sSurePairs f) (hm : mg "sure_pairs" = some (.ref f)) (Tx : Txt K mg) (pC : Pro P w K mg base 1 (cOff K) "claims" (spOffClaims K)) (cF : C8.Cal P w K mg base 6 "fitting_things" (spFitThings K) [])
    (cJ : C8.Cal P w K mg base 10 "judged" (spJudged K) []) : C8.Cal P w K mg base 11 "sure_pairs" (spSurePairs K) [] := by
  refine F.cal hm sc_surePairs (fun _ _ _ _ _ _ us hl => match us, hl with | [_], _ => rfl) (fun vs H Q E h => ?_) (fun cdv A outer s H vs Q E hr h => ?_)
  · obtain ⟨R, o, T, C, rfl, _⟩ := h; rfl
  · obtain ⟨R, o, T, C, rfl, ho, q⟩ := h
    refine ⟨_, pss_cons (ps_set sc_surePairs.nd (i := 1) rfl (Or.inl rfl) pe_dnewK)
      (pss_cons (ps_for PassesOwn.never rfl (pi_keys (pe_frz (pe_pr pC hr (by decide) (pv 0)))) (pg_name (i := 2) sc_surePairs.nd rfl (Or.inl rfl))
        (pss_one (ps_for PassesOwn.never rfl (pi_list (C8.pe_c cF hr (by decide) (by rfl) (pa_cons (pv 0) (pa_cons (pv 2) pa_nil)))) (pg_name (i := 3) sc_surePairs.nd rfl (Or.inl rfl))
          (pss_one (ps_if (pt_cmpR op_eq (C8.pe_c cJ hr (by decide) (by rfl) (pa_cons (pv 0) (pa_cons (pv 2) (pa_cons (pv 3) pa_nil)))) pe_str (nomark _)) (pss_one (ps_dput (hu_of hr) (pv 1) (pv 2) (pv 3) rfl)) pss_nil)))))
      (pss_one (ps_ret (pv 1)))), ?_⟩
    obtain ⟨dx, f, b, h1, h2, h3⟩ := ho.ex
    have hcl := ho.lab.clen
    have htl := ho.lab.tlen
    intro d hd
    have s0 : Same H (upd H d (.dK [])) := Same.upd hd
    refine ⟨_, rfl, o, dx, _, rfl, s0 _ _ h1, R, o, T, C, rfl, ho.same s0, fun p hp => ⟨p, _, rfl, upd_same, trivial, fun od => ⟨p, od, rfl, .inl ⟨_, upd_same, ?_⟩⟩⟩⟩
    have s1 : Same (upd H d (.dK [])) (upd (upd (upd H d (.dK [])) p (.dK (cKvs R C))) p (.frz od (.dK (cKvs R C)))) := Same.fz hp
    have hpd : p ≠ d := fun e => by rw [e, upd_same] at hp; cases hp
    refine for_it walk_keys (fun i σ H' => Same H H' ∧ H' p = some (.frz od (.dK (cKvs R C))) ∧ (∃ x2 x3, σ = [some (.ref o), some (.ref d), x2, x3]) ∧ ∃ ks : List (Str × Str), H' d = some (.dK (ks.map fun p => ((Sum.inr p.1 : Key), V.str p.2))) ∧ ks.length ≤ 5 * i ∧ (ks.map (·.1)).Nodup ∧
        ∀ p ∈ ks, p.1 ∈ C ∧ p.2 ∈ T ∧ fitR R p.1 p.2 = true ∧ judS R T C p.1 p.2 = "surely")
      ⟨s0.trans s1, upd_same, ⟨_, _, rfl⟩, [], s1 _ _ upd_same, by simp, List.nodup_nil, fun p hp => by cases hp⟩ (fun i σ H' _ z => z.2.1) ?_ ?_
    · rintro i v σ H1 H2 hi ⟨t1, tp, ⟨x2, x3, rfl⟩, ks, k1, k2, k3, k4⟩ ⟨rfl, k, u, hg, rfl⟩
      unfold cKvs at hg
      obtain ⟨c, hc, e⟩ := get_map hg
      cases e
      have hi' : i < C.length := by unfold cKvs at hi; simpa using hi
      have hcC := mem_of_get hc
      have hfl : (T.filter (fitR R c)).length ≤ 5 := Nat.le_trans (List.length_filter_le _ _) htl
      refine ⟨_, rfl, _, rfl, R, o, T, C, c, rfl, ho.same t1, hcC, fun D H3 s3 _ hD3 => ⟨D, rfl, ⟨_, SqL.of hD3⟩, ?_⟩⟩
      have hdD : d ≠ D := ne_of (s3 _ _ k1) hD3 (by intro z; cases z)
      refine for_it (walk_list (xs := (T.filter (fitR R c)).map V.str)) (fun j σ H' => Same H H' ∧ H' p = some (.frz od (.dK (cKvs R C))) ∧ H' D = some (.lst ((T.filter (fitR R c)).map V.str)) ∧ (∃ x3, σ = [some (.ref o), some (.ref d), some (.str c), x3]) ∧
          ∃ ks : List (Str × Str), H' d = some (.dK (ks.map fun p => ((Sum.inr p.1 : Key), V.str p.2))) ∧ ks.length ≤ 5 * i + j ∧ (ks.map (·.1)).Nodup ∧ ∀ p ∈ ks, p.1 ∈ C ∧ p.2 ∈ T ∧ fitR R p.1 p.2 = true ∧ judS R T C p.1 p.2 = "surely")
        ⟨t1.trans s3, s3 _ _ tp, hD3, ⟨_, rfl⟩, ks, s3 _ _ k1, by omega, k3, k4⟩ (fun j σ H' _ z => SqL.of z.2.2.1) ?_ ?_
      · rintro j v σ H4 H5 hj ⟨u1, up, uD, ⟨x3, rfl⟩, ls, l1, l2, l3, l4⟩ ⟨rfl, hv⟩
        obtain ⟨t, ht, rfl⟩ := get_map hv
        have htf := List.mem_filter.mp (mem_of_get ht)
        refine ⟨_, rfl, _, rfl, _, rfl, R, o, T, C, c, t, rfl, ho.same u1, hcC, htf.1, fun H6 s6 => ⟨rfl, _, rfl, ?_⟩⟩
        by_cases hj' : judS R T C c t = "surely"
        · rw [decide_eq_true (congrArg V.str hj')]
          have hj5 : j < (T.filter (fitR R c)).length := by simpa using hj
          refine iteT ⟨_, rfl, _, rfl, _, rfl, d, _, rfl, DPut.k (k := .inr c) (s6 _ _ l1) (by rw [List.length_map, sizeLine_eq]; omega), ?_⟩
          refine ⟨Same.updN (u1.trans s6) hd, by rw [upd_ne hpd]; exact s6 _ _ up, by rw [upd_ne hdD.symm]; exact s6 _ _ uD, ⟨_, rfl⟩, putS2 ls c t, by rw [upd_same, putS2_put], by have := putS2_len ls c t; omega, putS2_nd l3, fun p hp => ?_⟩
          rcases putS2_mem hp with z | z
          · exact l4 p z
          · rw [z]; exact ⟨hcC, htf.1, htf.2, hj'⟩
        · rw [decide_eq_false (fun z => hj' (V.str.inj z))]
          exact iteF ⟨u1.trans s6, s6 _ _ up, s6 _ _ uD, ⟨_, rfl⟩, ls, s6 _ _ l1, by omega, l3, l4⟩
      · rintro σ H4 ⟨u1, up, uD, ⟨x3, rfl⟩, ls, l1, l2, l3, l4⟩
        rw [List.length_map] at l2
        exact ⟨u1, up, ⟨_, _, rfl⟩, ls, l1, by omega, l3, l4⟩
    · rintro σ H1 ⟨t1, tp, ⟨x2, x3, rfl⟩, ks, k1, k2, k3, k4⟩
      unfold cKvs at k2
      rw [List.length_map] at k2
      exact ⟨_, rfl, q d H1 ks t1 hd k1 (by omega) k3 k4⟩

def spPairLoss (K : PySem.W.Frag) : Sp := fun vs H Q _ => ∃ R o T C c t, vs = [.ref o, .str c, .str t] ∧ OffAt K H R o T C ∧ c ∈ C ∧ t ∈ T ∧ fitR R c t = true ∧ ∀ H', Same H H' → Q (.int ((nuR R T C : Int) - 1 - (nuR R (Ld.rmv t T) (Ld.rmv c C) : Int))) H'
theorem ok_pairLoss (F : Df K "pair_loss" "pair_loss" sPairLoss f) (hm : mg "pair_loss" = some (.ref f)) (cH : C8.Cal P w K mg base 9 "handed" (spRest K true) []) (cP : C8.Cal P w K mg base 9 "most_pairs" (spMostPairs K) []) : C8.Cal P w K mg base 10 "pair_loss" (spPairLoss K) [] := by
  refine F.cal hm sc_pairLoss (fun _ _ _ _ _ _ us hl => match us, hl with | [_, _, _], _ => rfl) (fun vs H Q E h => ?_) (fun cdv A outer s H vs Q E hr h => ?_)
  · obtain ⟨R, o, T, C, c, t, rfl, _⟩ := h; rfl
  · obtain ⟨R, o, T, C, c, t, rfl, ho, hc, ht, hf, q⟩ := h
    refine ⟨_, pss_cons (ps_set sc_pairLoss.nd (i := 3) rfl (Or.inl rfl) (C8.pe_c cH hr (by decide) (by rfl) (pa_cons (pv 0) (pa_cons (pv 1) (pa_cons (pv 2) pa_nil)))))
      (pss_one (ps_ret (pe_op op_sub (pe_op op_sub (C8.pe_c cP hr (by decide) (by rfl) (pa_cons (pv 0) pa_nil)) pe_int) (C8.pe_c cP hr (by decide) (by rfl) (pa_cons (pv 3) pa_nil))))), ?_⟩
    refine ⟨_, rfl, _, rfl, _, rfl, R, o, T, C, c, t, rfl, ho, hc, ht, fun _ => hf, fun o' H1 s1 ho1 => ?_⟩
    exact ⟨_, rfl, R, o, T, C, rfl, ho.same s1, fun H2 s2 => ⟨_, _, rfl, rfl, _, rfl, R, o', _, _, rfl, ho1.same s2, fun H3 s3 => ⟨_, _, rfl, rfl, q H3 ((s1.trans s2).trans s3)⟩⟩⟩

def spService (K : PySem.W.Frag) : Sp := fun vs H Q _ => ∃ R o T C l, vs = [.ref o, .str l] ∧ OffAt K H R o T C ∧ (l ∈ T ∨ l ∈ C) ∧ ∀ (z : Str) H', Same H H' → (z = "always" ↔ nuR R (Ld.rmv l T) (Ld.rmv l C) ≠ nuR R T C) → Q (.str z) H'
theorem ok_service (F : Df K "service" "service" sService f) (hm : mg "service" = some (.ref f)) (Tx : Txt K mg) (cW : C8.Met P w K mg base 7 (cOff K) "without" (spWithout K) []) (cM : C8.Mak P w K mg base 7 "Matcher" (cMat K) (spMatInit P w K) [])
    (cC : C8.Met P w K mg base 6 (cMat K) "counts" (spCounts P w K 5) []) (cO : C8.Met P w K mg base 7 (cMat K) "most" (spMost P w K) []) : C8.Cal P w K mg base 9 "service" (spService K) [] := by
  refine F.cal hm sc_service (fun _ _ _ _ _ _ us hl => match us, hl with | [_, _], _ => rfl) (fun vs H Q E h => ?_) (fun cdv A outer s H vs Q E hr h => ?_)
  · obtain ⟨R, o, T, C, l, rfl, _⟩ := h; rfl
  · obtain ⟨R, o, T, C, l, rfl, ho, hl, q⟩ := h
    refine ⟨_, pss_cons (ps_par (i := 2) (j := 3) (by rfl) sc_service.nd rfl rfl (by decide) rfl rfl (pa_cons (C8.pe_mk cM hr (by decide) (by rfl) (pa_cons (pv 0) pa_nil)) (pa_cons (C8.pe_mk cM hr (by decide) (by rfl) (pa_cons (C8.pe_mt cW hr (by decide) (pv 0) (pa_cons (pv 1) pa_nil)) pa_nil)) pa_nil)) (by rfl))
      (pss_cons (ps_set sc_service.nd (i := 4) rfl (Or.inl rfl) (C8.pe_mt0 cO hr (by decide) (pv 2)))
      (pss_cons (ps_set sc_service.nd (i := 5) rfl (Or.inl rfl) (pe_ifExp (pt_cmpR op_eq (C8.pe_mt0 cO hr (by decide) (pv 3)) (pv 4) (nomark _)) (pe_ix ix_tup (C8.pe_mt cC hr (by decide) (pv 3) (pa_cons pe_int (pa_cons (pe_tup pa_nil) pa_nil))) (pv 4) (fun _ _ => rfl)) pe_int))
      (pss_cons (ps_set sc_service.nd (i := 6) rfl (Or.inl rfl) (pe_ix ix_tup (C8.pe_mt cC hr (by decide) (pv 2) (pa_cons pe_int (pa_cons (pe_tup pa_nil) pa_nil))) (pv 4) (fun _ _ => rfl)))
      (pss_cons (ps_if (pt_cmpR op_eq (pv 5) pe_int (nomark _)) (pss_one (ps_ret pe_str)) pss_nil)
      (pss_one (ps_ret (pe_ifExp (pt_cmpR op_eq (pv 5) (pv 6) (nomark _)) pe_str pe_str))))))), ?_⟩
    obtain ⟨dx, f, b, h1, h2, h3⟩ := ho.ex
    refine ⟨_, rfl, mk_read ho fun m d H1 s1 k1 hd => ?_⟩
    refine ⟨_, rfl, o, dx, _, rfl, s1 _ _ h1, rfl, _, rfl, R, o, T, C, l, rfl, ho.same s1, hl, fun o2 H2 s2 ho2 => ?_⟩
    refine mk_read ho2 fun m2 d2 H3 s3 k3 hd2 => ?_
    have s03 := (s1.trans s2).trans s3
    have k13 := k1.same (s2.trans s3)
    obtain ⟨ysd, gd⟩ := k13.kn.ob
    have hdd : d ≠ d2 := fun e => by
      obtain ⟨ys0, g0⟩ := k1.kn.ob
      have g2 := s2 _ _ g0
      rw [e, hd2] at g2; cases g2
    have hd0 : H d = none := hd
    have hd20 : H d2 = none := none_of (s1.trans s2) hd2
    refine ⟨_, _, rfl, ?_⟩
    obtain ⟨mdx, op, m1, _⟩ := k13.ex
    refine ⟨_, rfl, m, mdx, _, rfl, m1, rfl, m, d, _, T, rfl, k13, fun H4 x4 k4 => ?_⟩
    have s04 := SameX.back s03 hd0 x4
    have k24 := k3.other gd (Ne.symm hdd) x4
    obtain ⟨mdx2, op2, n1, _⟩ := k24.ex
    refine ⟨_, rfl, m2, mdx2, _, rfl, n1, rfl, m2, d2, _, _, rfl, k24, fun H5 x5 k25 => ?_⟩
    have s05 := SameX.back s04 hd20 x5
    obtain ⟨ys24, g24⟩ := k24.kn.ob
    have k15 := k4.other g24 hdd x5
    refine ⟨_, rfl, rfl, _, rfl, ?_⟩
    have hnu : nuR R T C ≤ (opsOf R T C).length := by rw [Ld.O_length]; exact Ld.nuO_le
    -- the end, from a free number
    have fin : ∀ (H6 : Hp) (fr : Int) (x6 : Option V), Same H H6 → MatAt P w K H6 m d (opsOf R T C) T → (fr = 0 ↔ nuR R (Ld.rmv l T) (Ld.rmv l C) ≠ nuR R T C) →
        (tSeq (tAsg (tOp (rIxT K) (tMeth (cMat K) "counts" (spCounts P w K 5) [] C8.E0 (tVar 2) (tCons (tC (.int 0)) (tCons (tTup tNil) tNil))) (tVar 4)) (gName 6))
          (tSeq (tIfS (tTest (tOp rEq (tVar 5) (tC (.int 0)))) (tRet (tC (.str "always"))) tNext) (tRet (tIf (tTest (tOp rEq (tVar 5) (tVar 6))) (tC (.str "never")) (tC (.str "sometimes"))))))
          { nx := fun _ H' => Q .non H', rt := Q } [some (.ref o), some (.str l), some (.ref m), some (.ref m2), some (.int ((nuR R T C : Nat) : Int)), some (.int fr), x6] H6 := by
      intro H6 fr x6 s6 k6 hfr
      obtain ⟨mdx6, op6, a1, _⟩ := k6.ex
      have h5 := k6.ok.olen
      refine ⟨_, rfl, m, mdx6, _, rfl, a1, rfl, by show 0 ≤ sizeLine; decide, fun qq hq => ?_⟩
      refine ⟨m, d, _, T, 0, [], qq, rfl, k6.same (Same.upd hq), by omega, by omega, upd_same, List.nil_sublist _, fun pp H7 x7 k7 hp7 => ?_⟩
      have hp7 : H7 pp = some (.tup ((cn (opsOf R T C) []).map V.int)) := hp7
      have s07 : Same H H7 := SameX.back (Same.upd' s6 hq) hd0 x7
      refine ⟨_, rfl, pp, _, ((nuR R T C : Nat) : Int), _, rfl, rfl, SqT.of hp7, atI_nat (by rw [List.getElem?_map, cn_get hnu]; rfl), ?_⟩
      refine ⟨_, rfl, rfl, _, rfl, ?_⟩
      by_cases h0 : fr = 0
      · rw [decide_eq_true (congrArg V.int h0)]
        exact iteT (q "always" H7 s07 ⟨fun _ => hfr.mp h0, fun _ => rfl⟩)
      · rw [decide_eq_false (fun z => h0 (V.int.inj z))]
        refine iteF ⟨_, rfl, _, rfl, rfl, _, rfl, ?_⟩
        by_cases ht : fr = ((Ld.W (opsOf R T C) [] (nuR R T C)).length : Int)
        · rw [decide_eq_true (congrArg V.int ht)]
          exact iteT (q "never" H7 s07 ⟨fun z => absurd z (by decide), fun z => absurd (hfr.mpr z) h0⟩)
        · rw [decide_eq_false (fun z => ht (V.int.inj z))]
          exact iteF (q "sometimes" H7 s07 ⟨fun z => absurd z (by decide), fun z => absurd (hfr.mpr z) h0⟩)
    by_cases he : nuR R (Ld.rmv l T) (Ld.rmv l C) = nuR R T C
    · rw [decide_eq_true (p := V.int ((Ld.nu (opsOf R (Ld.rmv l T) (Ld.rmv l C)) [] : Nat) : Int) = V.int ((Ld.nu (opsOf R T C) [] : Nat) : Int)) (congrArg (fun n : Nat => V.int n) he)]
      refine iteT ?_
      obtain ⟨mdx5, op5, a1, _⟩ := k25.ex
      have h5 := k25.ok.olen
      refine ⟨_, rfl, m2, mdx5, _, rfl, a1, rfl, by show 0 ≤ sizeLine; decide, fun qq hq => ?_⟩
      refine ⟨m2, d2, _, _, 0, [], qq, rfl, k25.same (Same.upd hq), by omega, by omega, upd_same, List.nil_sublist _, fun pp H6 x6 k6 hp6 => ?_⟩
      have hp6 : H6 pp = some (.tup ((cn (opsOf R (Ld.rmv l T) (Ld.rmv l C)) []).map V.int)) := hp6
      have s06 : Same H H6 := SameX.back (Same.upd' s05 hq) hd20 x6
      obtain ⟨ys25, g25⟩ := k25.kn.ob
      have k16 := (k15.same (Same.upd hq)).other ((Same.upd (o := .tup []) hq) _ _ g25) hdd x6
      have hnu2 : nuR R T C ≤ (opsOf R (Ld.rmv l T) (Ld.rmv l C)).length := by rw [Ld.O_length, ← he]; exact Ld.nuO_le
      refine ⟨_, rfl, pp, _, ((nuR R T C : Nat) : Int), _, rfl, rfl, SqT.of hp6, atI_nat (by rw [List.getElem?_map, cn_get hnu2]; rfl), ?_⟩
      refine fin H6 _ _ s06 k16 ⟨fun z => ?_, fun z => absurd he z⟩
      have hne : Ld.W (opsOf R (Ld.rmv l T) (Ld.rmv l C)) [] (nuR R T C) ≠ [] := (Ld.W_ne _ _ _).mpr (by rw [← he]; exact Nat.le_refl _)
      have := List.length_pos_iff.mpr hne
      omega
    · rw [decide_eq_false (p := V.int ((Ld.nu (opsOf R (Ld.rmv l T) (Ld.rmv l C)) [] : Nat) : Int) = V.int ((Ld.nu (opsOf R T C) [] : Nat) : Int)) (fun z => he (by injection z with z; exact Int.ofNat.inj z))]
      exact iteF (fin H5 0 _ s05 k15 ⟨fun _ => he, fun _ => rfl⟩)
theorem ok_served (F : Df K "served" "served" sServed f) (hm : mg "served" = some (.ref f)) (cV : C8.Cal P w K mg base 3 "validate_label" (spValLabel K) []) (cS : C8.Cal P w K mg base 9 "service" (spService K) []) : C8.Cal P w K mg base 10 "served" (spService K) [] := by
  refine F.cal hm sc_served (fun _ _ _ _ _ _ us hl => match us, hl with | [_, _], _ => rfl) (fun vs H Q E h => ?_) (fun cdv A outer s H vs Q E hr h => ?_)
  · obtain ⟨R, o, T, C, l, rfl, _⟩ := h; rfl
  · obtain ⟨R, o, T, C, l, rfl, ho, hl, q⟩ := h
    refine ⟨_, pss_cons (ps_expr (C8.pe_c cV hr (by decide) (by rfl) (pa_cons (pv 0) (pa_cons (pv 1) pa_nil)))) (pss_one (ps_ret (C8.pe_c cS hr (by decide) (by rfl) (pa_cons (pv 0) (pa_cons (pv 1) pa_nil))))), ?_⟩
    exact ⟨_, rfl, _, rfl, R, o, T, C, l, rfl, ho, hl, _, rfl, _, rfl, R, o, T, C, l, rfl, ho, hl, q⟩
end
end Lk
/-! Kd15 -/
namespace Lk
open PySem PySem.Spec PyProof.Rows L2
theorem Same.seqL {K : PySem.W.Frag} {H H' : Hp} {a : Addr} {xs : List V} (e : Same H H') (h : SqL K H a xs) : SqL K H' a xs := by
  rcases h with (h | ⟨o, h⟩) | h
  · exact .inl (.inl (e _ _ h))
  · exact .inl (.inr ⟨o, e _ _ h⟩)
  · exact .inr h
/-- all but two stand -/
def Same2 (h c : Addr) (H H' : Hp) : Prop := ∀ b o, b ≠ h → b ≠ c → H b = some o → H' b = some o
theorem Same2.refl {h c : Addr} {H : Hp} : Same2 h c H H := fun _ _ _ _ e => e
theorem Same2.trans {h c : Addr} {H H1 H2 : Hp} (a : Same2 h c H H1) (b : Same2 h c H1 H2) : Same2 h c H H2 := fun x o h1 h2 e => b x o h1 h2 (a x o h1 h2 e)
theorem Same.s2 {h c : Addr} {H H' : Hp} (s : Same H H') : Same2 h c H H' := fun b o _ _ e => s b o e
/-- the drawer: at h, its cells at c -/
structure Dr (H : Hp) (h c : Addr) : Prop where
  ex : ∃ (st ps : Int) (ns : List Int), H h = some (.lst [.int st, .ref c, .int ps]) ∧ H c = some (.lst (ns.map V.int)) ∧ 0 ≤ st ∧ st < 2147483647 ∧ ns.length ≤ 63
  ne : h ≠ c
theorem Dr.same {H H' : Hp} {h c : Addr} (d : Dr H h c) (s : Same H H') : Dr H' h c := by
  obtain ⟨st, ps, ns, h1, h2, h3⟩ := d.ex
  exact ⟨⟨st, ps, ns, s _ _ h1, s _ _ h2, h3⟩, d.ne⟩
/-- something that is neither of the two -/
theorem Dr.keep {H H' : Hp} {h c : Addr} (d : Dr H h c) (s : Same2 h c H H') {b : Addr} {u : HO} (e : H b = some u) (hne : ∀ xs, u ≠ .lst xs) : H' b = some u := by
  obtain ⟨st, ps, ns, h1, h2, h3⟩ := d.ex
  refine s b u (fun z => ?_) (fun z => ?_) e
  · rw [z, h1] at e; exact hne _ (Option.some.inj e).symm
  · rw [z, h2] at e; exact hne _ (Option.some.inj e).symm
section
variable {P : Program} {w : World} {K : PySem.W.Frag} {mg : Str → Option Value} {base : Heap} {f : Addr}
theorem sc_lawMix : FnScope ["_law_script", "_law_seed", "_law_state", "_law_cell"] ["_law_script", "_law_seed"] (defScope sLawMix) := ⟨rfl, rfl, rfl, by decide +kernel, rfl, by decide +kernel, by decide +kernel⟩
abbrev nm_lawMix : List Str := ["_law_script", "_law_seed", "_law_state", "_law_cell"]
theorem sc_lawNext : FnScope ["_law_h", "_law_limit", "_law_cell"] ["_law_h", "_law_limit"] (defScope sLawNext) := ⟨rfl, rfl, rfl, by decide +kernel, rfl, by decide +kernel, by decide +kernel⟩
abbrev nm_lawNext : List Str := ["_law_h", "_law_limit", "_law_cell"]
theorem sc_lawFeatures : FnScope ["_law_h", "_law_most", "_law_found", "_law_k", "_law_words"] ["_law_h", "_law_most"] (defScope sLawFeatures) := ⟨rfl, rfl, rfl, by decide +kernel, rfl, by decide +kernel, by decide +kernel⟩
abbrev nm_lawFeatures : List Str := ["_law_h", "_law_most", "_law_found", "_law_k", "_law_words"]
theorem sc_lawSome : FnScope ["_law_h", "_law_words", "_law_found", "_law_word"] ["_law_h", "_law_words"] (defScope sLawSome) := ⟨rfl, rfl, rfl, by decide +kernel, rfl, by decide +kernel, by decide +kernel⟩
abbrev nm_lawSome : List Str := ["_law_h", "_law_words", "_law_found", "_law_word"]
theorem sc_lawSets : FnScope ["_law_h", "_law_features_here", "_law_name", "_law_words"] ["_law_h", "_law_features_here"] (defScope sLawSets) := ⟨rfl, rfl, rfl, by decide +kernel, rfl, by decide +kernel, by decide +kernel⟩
abbrev nm_lawSets : List Str := ["_law_h", "_law_features_here", "_law_name", "_law_words"]
def spMix (K : PySem.W.Frag) : Sp := fun vs H Q _ => ∃ (a : Addr) (ns : List Int), vs = [.ref a, .int 18] ∧ SqL K H a (ns.map V.int) ∧ ns.length ≤ 63 ∧ ∀ h c H', Same H H' → H h = none → H c = none → Dr H' h c → Q (.ref h) H'
theorem ok_lawMix (F : Df K "_law_mix" "_law_mix" sLawMix f) (hm : mg "_law_mix" = some (.ref f)) (Tx : Txt K mg) : C8.Cal P w K mg base 1 "_law_mix" (spMix K) [] := by
  refine F.cal hm sc_lawMix (fun _ _ _ _ _ _ us hl => match us, hl with | [_, _], _ => rfl) (fun vs H Q E h => ?_) (fun cdv A outer s H vs Q E hr h => ?_)
  · obtain ⟨a, ns, rfl, _⟩ := h; rfl
  · obtain ⟨a, ns, rfl, ha, hl, q⟩ := h
    refine ⟨_, pss_cons (ps_set sc_lawMix.nd (i := 2) rfl (Or.inl rfl) (pv 1))
      (pss_cons (ps_for PassesOwn.never rfl (pi_list (pv 0)) (pg_name (i := 3) sc_lawMix.nd rfl (Or.inl rfl))
        (pss_one (ps_set sc_lawMix.nd (i := 2) rfl (Or.inl rfl) (pe_op op_mod (pe_callTy call_int1 (by rfl) Tx.int boot_int (pa_cons (pe_op op_add (pe_op op_add (pe_op op_mul (pv 2) pe_int) (pe_op op_mod (pe_callTy call_int1 (by rfl) Tx.int boot_int (pa_cons (pv 3) pa_nil)) pe_int)) pe_int) pa_nil)) pe_int))))
      (pss_one (ps_ret (pe_lst (pa_cons (pv 2) (pa_cons (pe_callTy call_list_of (by rfl) Tx.list boot_list (pa_cons (pv 0) pa_nil)) (pa_cons pe_int pa_nil))))))), ?_⟩
    refine ⟨_, rfl, _, rfl, a, rfl, ⟨_, ha⟩, ?_⟩
    refine for_it (walk_list (xs := ns.map V.int)) (fun i σ H' => H' = H ∧ ∃ (st : Int) (x3 : Option V), 0 ≤ st ∧ st < 2147483647 ∧ σ = [some (.ref a), some (.int 18), some (.int st), x3]) ⟨rfl, 18, _, by decide, by decide, rfl⟩ (fun i σ H' _ z => z.1 ▸ ha) ?_ ?_
    · rintro i v σ H1 H2 hi ⟨rfl, st, x3, h0, h1, rfl⟩ ⟨rfl, hv⟩
      obtain ⟨n, hn, rfl⟩ := get_map hv
      refine ⟨_, rfl, _, _, rfl, rfl, .inl ⟨by omega, by omega⟩, _, rfl, .inl ⟨_, rfl, _, _, rfl, rfl, (by show (0 : Int) < 2147483629; decide), ?_⟩⟩
      refine ⟨_, _, rfl, rfl, _, _, rfl, rfl, .inl ⟨_, rfl, _, _, rfl, rfl, (by show (0 : Int) < 2147483647; decide), ?_⟩⟩
      exact ⟨rfl, _, _, Int.emod_nonneg _ (by decide), Int.emod_lt_of_pos _ (by decide), rfl⟩
    · rintro σ H1 ⟨rfl, st, x3, h0, h1, rfl⟩
      refine ⟨_, rfl, _, rfl, a, _, rfl, .inl ha, fun c hc => ⟨by show 3 ≤ sizeLine; decide, fun h hh => ?_⟩⟩
      have hch : c ≠ h := fun e => by rw [← e, upd_same] at hh; cases hh
      refine q h c _ (Same.upd' (Same.upd hc) hh) (by rw [upd_ne hch.symm] at hh; exact hh) hc ⟨⟨st, 0, ns, upd_same, by rw [upd_ne hch]; exact upd_same, h0, h1, hl⟩, hch.symm⟩

def spNext : Sp := fun vs H Q _ => ∃ (h c : Addr) (lim : Nat), vs = [.ref h, .int lim] ∧ 1 ≤ lim ∧ lim ≤ 1000 ∧ Dr H h c ∧ ∀ (r : Nat) H', r < lim → Same2 h c H H' → Dr H' h c → Q (.int r) H'
theorem ok_lawNext (F : Df K "_law_next" "_law_next" sLawNext f) (hm : mg "_law_next" = some (.ref f)) (Tx : Txt K mg) : C8.Cal P w K mg base 1 "_law_next" spNext [] := by
  refine F.cal hm sc_lawNext (fun _ _ _ _ _ _ us hl => match us, hl with | [_, _], _ => rfl) (fun vs H Q E h => ?_) (fun cdv A outer s H vs Q E hr h => ?_)
  · obtain ⟨h, c, lim, rfl, _⟩ := h; rfl
  · obtain ⟨h, c, lim, rfl, l1, l2, hd, q⟩ := h
    refine ⟨_, pss_cons (ps_set sc_lawNext.nd (i := 2) rfl (Or.inl rfl) (pe_ix ix_list (pe_op op_cat (pe_ix ix_list (pv 0) pe_int (fun _ _ => rfl)) (pe_lst (pa_cons pe_int pa_nil)))
        (pe_op op_mod (pe_callTy call_int1 (by rfl) Tx.int boot_int (pa_cons (pe_ix ix_list (pv 0) pe_int (fun _ _ => rfl)) pa_nil)) (pe_callB (call_max2 rfl) (by rfl) Tx.max boot_max (pa_cons pe_int (pa_cons (pe_callB call_len (by rfl) Tx.len boot_len (pa_cons (pe_ix ix_list (pv 0) pe_int (fun _ _ => rfl)) pa_nil)) pa_nil)))) (fun _ _ => rfl)))
      (pss_cons (ps_if (pt_cmpR op_ge (pv 2) (pe_op op_pow pe_int pe_int) (nomark _))
        (pss_cons (ps_asg (pe_op op_fdiv (pv 2) (pv 1)) (pg_sub (pe_ix ix_list (pv 0) pe_int (fun _ _ => rfl)) (pe_op op_mod (pe_callTy call_int1 (by rfl) Tx.int boot_int (pa_cons (pe_ix ix_list (pv 0) pe_int (fun _ _ => rfl)) pa_nil)) (pe_callB call_len (by rfl) Tx.len boot_len (pa_cons (pe_ix ix_list (pv 0) pe_int (fun _ _ => rfl)) pa_nil))) set_list))
          (pss_one (ps_ret (pe_op op_mod (pe_callTy call_int1 (by rfl) Tx.int boot_int (pa_cons (pv 2) pa_nil)) (pv 1)))))
        pss_nil)
      (pss_cons (ps_asg (pe_op op_mod (pe_callTy call_int1 (by rfl) Tx.int boot_int (pa_cons (pe_op op_add (pe_op op_add (pe_op op_mul (pe_ix ix_list (pv 0) pe_int (fun _ _ => rfl)) pe_int) (pe_op op_mul (pv 2) pe_int)) pe_int) pa_nil)) pe_int) (pg_sub (pv 0) pe_int set_list))
      (pss_cons (ps_asg (pe_op op_add (pe_ix ix_list (pv 0) pe_int (fun _ _ => rfl)) pe_int) (pg_sub (pv 0) pe_int set_list))
      (pss_one (ps_ret (pe_op op_mod (pe_callTy call_int1 (by rfl) Tx.int boot_int (pa_cons (pe_op op_fdiv (pe_ix ix_list (pv 0) pe_int (fun _ _ => rfl)) pe_int) pa_nil)) (pv 1))))))), ?_⟩
    obtain ⟨st, ps, ns, h1, h2, h3, h4, h5⟩ := hd.ex
    have hne := hd.ne
    -- the cell
    obtain ⟨x, hx, hx0⟩ : ∃ x : Int, atI (ns.map V.int ++ [V.int 0]) (ps % (if (ns.length : Int) > 1 then (ns.length : Int) else 1)) = some (.int x) ∧ (1000000000000000000 ≤ x → 0 < ns.length) := by
      by_cases hn : 0 < ns.length
      · have hM : (if (ns.length : Int) > 1 then (ns.length : Int) else 1) = (ns.length : Int) := by split <;> omega
        rw [hM]
        have k0 := Int.emod_nonneg ps (show (ns.length : Int) ≠ 0 by omega)
        have k1 := Int.emod_lt_of_pos ps (show (0 : Int) < ns.length by omega)
        obtain ⟨k, hk⟩ := Int.eq_ofNat_of_zero_le k0
        rw [hk]
        have hkl : k < ns.length := by omega
        refine ⟨ns[k], atI_nat ?_, fun _ => hn⟩
        rw [List.getElem?_append_left (by rw [List.length_map]; exact hkl), List.getElem?_map, List.getElem?_eq_getElem hkl]; rfl
      · have : ns = [] := List.length_eq_zero_iff.mp (by omega)
        subst this
        refine ⟨0, ?_, fun z => absurd z (by decide)⟩
        show atI [V.int 0] (ps % 1) = _
        rw [Int.emod_one]; rfl
    have lp : (0 : Int) < (lim : Int) := by omega
    refine ⟨_, rfl, h, _, _, _, rfl, rfl, SqL.of h1, rfl, by show 1 ≤ sizeLine; decide, fun z hz => ⟨c, z, _, _, rfl, rfl, upd_keep h2 hz, upd_same, by rw [List.length_map, sizeLine_eq]; show ns.length + 1 ≤ _; omega, fun l hl => ?_⟩⟩
    have s1 : Same H (upd (upd H z (.lst [.int 0])) l (.lst (ns.map V.int ++ [.int 0]))) := Same.upd' (Same.upd hz) hl
    refine ⟨_, rfl, h, _, _, _, rfl, rfl, SqL.of (s1 _ _ h1), rfl, .inl ⟨ps, rfl, ?_⟩⟩
    refine ⟨_, rfl, h, _, _, _, rfl, rfl, SqL.of (s1 _ _ h1), rfl, .ref c, ns.length, rfl, .inl ⟨_, SqL.of (s1 _ _ h2), by simp⟩, 1, ns.length, rfl, ?_⟩
    refine ⟨ps, _, rfl, rfl, (by show (0 : Int) < (if (ns.length : Int) > 1 then (ns.length : Int) else 1); split <;> omega), l, _, _, _, rfl, rfl, SqL.of upd_same, hx, ?_⟩
    dsimp only [gName]
    refine gen_seq (fun Hb => Same H Hb) s1 ?_
    intro Hb sb
    have e1 := sb _ _ h1
    have e2 := sb _ _ h2
    refine ⟨_, rfl, _, _, rfl, rfl, ⟨by decide, by decide, by decide⟩, _, _, rfl, rfl, _, rfl, ?_⟩
    by_cases hbig : (10 : Int) ^ (18 : Int).toNat ≤ x
    · rw [decide_eq_true hbig]
      have hn := hx0 hbig
      refine iteT ?_
      refine ⟨_, rfl, _, rfl, _, _, rfl, rfl, ⟨lp, by omega⟩, ?_⟩
      refine ⟨_, rfl, h, _, _, _, rfl, rfl, SqL.of e1, rfl, ?_⟩
      refine ⟨_, rfl, h, _, _, _, rfl, rfl, SqL.of e1, rfl, .inl ⟨ps, rfl, ?_⟩⟩
      refine ⟨_, rfl, h, _, _, _, rfl, rfl, SqL.of e1, rfl, .ref c, ns.length, rfl, .inl ⟨_, SqL.of e2, by simp⟩, ps, _, rfl, rfl, (by show (0 : Int) < (ns.length : Int); omega), ?_⟩
      have k0 := Int.emod_nonneg ps (show (ns.length : Int) ≠ 0 by omega)
      have k1 := Int.emod_lt_of_pos ps (show (0 : Int) < ns.length by omega)
      obtain ⟨k, hk⟩ := Int.eq_ofNat_of_zero_le k0
      have hix : ixN (ns.map V.int).length (ps % (ns.length : Int)) = some k := by
        rw [hk, List.length_map]; unfold ixN
        rw [if_pos (by omega), if_pos (by omega)]; congr 1
      refine ⟨c, _, _, k, rfl, rfl, e2, hix, ?_⟩
      have er : x % (lim : Int) = ((x % (lim : Int)).toNat : Int) := (Int.toNat_of_nonneg (Int.emod_nonneg _ (by omega))).symm
      refine ⟨_, rfl, .inl ⟨x, rfl, _, rfl, x, _, rfl, rfl, lp, ?_⟩⟩
      show Q (.int (x % (lim : Int))) _
      rw [er]
      refine q _ _ (by have := Int.emod_lt_of_pos x lp; omega) (fun b o hb1 hb2 e => by rw [upd_ne hb2]; exact sb _ _ e) ⟨⟨st, ps, ns.set k (x / (lim : Int)), by rw [upd_ne hne]; exact e1, by rw [upd_same, List.map_set], h3, h4, by rw [List.length_set]; exact h5⟩, hne⟩
    · rw [decide_eq_false hbig]
      refine iteF ?_
      refine ⟨_, rfl, h, _, _, _, rfl, rfl, SqL.of e1, rfl, _, _, rfl, rfl, .inl ⟨by omega, by omega⟩, _, rfl, _, _, rfl, rfl, .inr ⟨by decide, by decide⟩, _, _, rfl, rfl, _, _, rfl, rfl, .inl ⟨_, rfl, _, _, rfl, rfl, (by show (0 : Int) < 2147483647; decide), ?_⟩⟩
      refine ⟨_, rfl, h, _, 0, 0, rfl, rfl, e1, rfl, ?_⟩
      refine ⟨_, rfl, h, _, _, _, rfl, rfl, SqL.of upd_same, rfl, _, _, rfl, rfl, ?_⟩
      refine ⟨_, rfl, h, _, 2, 2, rfl, rfl, upd_same, rfl, ?_⟩
      refine ⟨_, rfl, h, _, _, _, rfl, rfl, SqL.of upd_same, rfl, _, _, rfl, rfl, ⟨by decide, by decide⟩, .inl ⟨_, rfl, _, rfl, _, _, rfl, rfl, lp, ?_⟩⟩
      obtain ⟨y, ey⟩ : ∃ y, y = (st * 48271 + x * 69621 + 11) % 2147483647 := ⟨_, rfl⟩
      have y0 : 0 ≤ y := by rw [ey]; exact Int.emod_nonneg _ (by decide)
      have y1 : y < 2147483647 := by rw [ey]; exact Int.emod_lt_of_pos _ (by decide)
      have er : (y / 7) % (lim : Int) = (((y / 7) % (lim : Int)).toNat : Int) := (Int.toNat_of_nonneg (Int.emod_nonneg _ (by omega))).symm
      show Q (.int (((st * 48271 + x * 69621 + 11) % 2147483647 / 7) % (lim : Int))) _
      rw [← ey]
      rw [er]
      refine q _ _ (by have := Int.emod_lt_of_pos (y / 7) lp; omega) (fun b o hb1 hb2 e => by rw [upd_ne hb1, upd_ne hb1]; exact sb _ _ e) ⟨⟨y, ps + 1, ns, by rw [upd_same, ey]; rfl, by rw [upd_ne hne.symm, upd_ne hne.symm]; exact e2, y0, y1, h5⟩, hne⟩
end
end Lk
/-! Kd16 -/
namespace Lk
open PySem PySem.Spec PyProof.Rows L2
abbrev nm6 : List Str := ["hue", "size", "age", "kind", "lid", "bag"]
abbrev base5 : List Str := ["blue", "gray", "pink", "red", "tan"]
theorem asc_base : asc base5 := by unfold asc base5; simp only [List.pairwise_cons]; decide
theorem words_base : ∀ x ∈ base5, wordOk x := by unfold wordOk; decide +kernel
theorem words_nm : ∀ x ∈ nm6, wordOk x := by unfold wordOk; decide +kernel
theorem nodup_nm : nm6.Nodup := by decide +kernel
theorem feOk_of {n : Str} {ws : List Str} (hn : n ∈ nm6) (hs : ws.Sublist base5) (h2 : 2 ≤ ws.length) : feOk (n, ws) :=
  ⟨words_nm n hn, h2, Nat.le_trans hs.length_le (by decide), fun x hx => words_base x (hs.subset hx), asc_base.sublist hs⟩
/-- neither the drawer nor its cells -/
theorem Dr.apart {H : Hp} {h c : Addr} (d : Dr H h c) {D : Addr} (hD : H D = none) : D ≠ h ∧ D ≠ c := by
  obtain ⟨st, ps, ns, h1, h2, _⟩ := d.ex
  exact ⟨fun e => (by rw [e, h1] at hD; cases hD), fun e => (by rw [e, h2] at hD; cases hD)⟩
theorem Dr.upd {H : Hp} {h c D : Addr} {u : HO} (d : Dr H h c) (n : D ≠ h ∧ D ≠ c) : Dr (L2.upd H D u) h c := by
  obtain ⟨st, ps, ns, h1, h2, h3⟩ := d.ex
  exact ⟨⟨st, ps, ns, by rw [upd_ne n.1.symm]; exact h1, by rw [upd_ne n.2.symm]; exact h2, h3⟩, d.ne⟩
theorem Same2.updN {h c D : Addr} {H H' : Hp} {u : HO} (s : Same2 h c H H') (hD : H D = none) : Same2 h c H (L2.upd H' D u) := fun b o h1 h2 e => by rw [upd_ne (ne_of_none e hD)]; exact s b o h1 h2 e
theorem Same2.upd' {h c p : Addr} {H H' : Hp} {u : HO} (s : Same2 h c H H') (hp : H' p = none) : Same2 h c H (L2.upd H' p u) := fun b o h1 h2 e => upd_keep (s b o h1 h2 e) hp
theorem map_erase {α β : Type} (f : α → β) : ∀ (l : List α) (k : Nat), (l.map f).eraseIdx k = (l.eraseIdx k).map f
  | [], k => by simp
  | x :: l, 0 => rfl
  | x :: l, k + 1 => by
    show f x :: (l.map f).eraseIdx k = f x :: (l.eraseIdx k).map f
    rw [map_erase f l k]
section
variable {P : Program} {w : World} {K : PySem.W.Frag} {mg : Str → Option Value} {base : Heap} {f : Addr}
def spFeatures : Sp := fun vs H Q _ => ∃ h c, vs = [.ref h, .int 3] ∧ Dr H h c ∧ ∀ p fs H', Same2 h c H H' → Dr H' h c → FsAt H' p fs → fsOk fs → fs.length ≤ 3 → Q (.ref p) H'
theorem ok_lawFeatures (F : Df K "_law_features" "_law_features" sLawFeatures f) (hm : mg "_law_features" = some (.ref f)) (Tx : Txt K mg) (cN : C8.Cal P w K mg base 1 "_law_next" spNext []) : C8.Cal P w K mg base 2 "_law_features" spFeatures [] := by
  refine F.cal hm sc_lawFeatures (fun _ _ _ _ _ _ us hl => match us, hl with | [_, _], _ => rfl) (fun vs H Q E h => ?_) (fun cdv A outer s H vs Q E hr h => ?_)
  · obtain ⟨h, c, rfl, _⟩ := h; rfl
  · obtain ⟨h, c, rfl, hd, q⟩ := h
    refine ⟨_, pss_cons (ps_set sc_lawFeatures.nd (i := 2) rfl (Or.inl rfl) (pe_lst pa_nil))
      (pss_cons (ps_for PassesOwn.never rfl (pi_range1 (by rfl) Tx.range (pa_cons (pe_op op_add pe_int (C8.pe_c cN hr (by decide) (by rfl) (pa_cons (pv 0) (pa_cons (pv 1) pa_nil)))) pa_nil)) (pg_name (i := 3) sc_lawFeatures.nd rfl (Or.inl rfl))
        (pss_cons (ps_set sc_lawFeatures.nd (i := 4) rfl (Or.inl rfl) (pe_lst (pa_cons pe_str (pa_cons pe_str (pa_cons pe_str (pa_cons pe_str (pa_cons pe_str pa_nil)))))))
        (pss_cons (ps_while PassesOwn.never (pt_cmpR op_gt (pe_callB call_len (by rfl) Tx.len boot_len (pa_cons (pv 4) pa_nil)) (pe_op op_add pe_int (C8.pe_c cN hr (by decide) (by rfl) (pa_cons (pv 0) (pa_cons pe_int pa_nil)))) (nomark _))
          (pss_one (ps_expr (pe_bm PySem.F.plainAttrs_list PySem.F.slot_list_pop PySem.F.type_list_pop mt_popAt (pv 4) (pa_cons (C8.pe_c cN hr (by decide) (by rfl) (pa_cons (pv 0) (pa_cons (pe_callB call_len (by rfl) Tx.len boot_len (pa_cons (pv 4) pa_nil)) pa_nil))) pa_nil)))))
        (pss_one (ps_expr (pe_bm PySem.F.plainAttrs_list PySem.F.slot_list_append PySem.F.type_list_append mt_append (pv 2)
          (pa_cons (pe_tup (pa_cons (pe_ix ix_list (pe_lst (pa_cons pe_str (pa_cons pe_str (pa_cons pe_str (pa_cons pe_str (pa_cons pe_str (pa_cons pe_str pa_nil))))))) (pv 3) (fun _ _ => rfl)) (pa_cons (pe_callTy call_tuple_of (by rfl) Tx.tuple boot_tuple (pa_cons (pv 4) pa_nil)) pa_nil))) pa_nil)))))))
      (pss_one (ps_ret (pe_callTy call_tuple_of (by rfl) Tx.tuple boot_tuple (pa_cons (pv 2) pa_nil))))), ?_⟩
    refine ⟨by show 0 ≤ sizeLine; decide, fun FF hFF => ?_⟩
    have nF := hd.apart hFF
    refine ⟨_, rfl, _, rfl, h, c, 3, rfl, by decide, by decide, hd.same (Same.upd hFF), fun r0 H0 hr0 s0 d0 => ⟨_, _, rfl, rfl, _, rfl, by omega, by omega, ?_⟩⟩
    have en : ((1 : Int) + (r0 : Int)).toNat = 1 + r0 := by omega
    have sF := s0 _ _ nF.1 nF.2 upd_same
    refine for_it (walk_range (lo := 0) (n := ((1 : Int) + (r0 : Int)).toNat)) (fun i σ H' => Same2 h c H H' ∧ Dr H' h c ∧ (∃ x3 x4, σ = [some (.ref h), some (.int 3), some (.ref FF), x3, x4]) ∧
        ∃ L : List (Addr × Fe), H' FF = some (.lst (L.map fun p => V.ref p.1)) ∧ L.map (·.2.1) = nm6.take i ∧ ∀ p ∈ L, FeAt H' p.1 p.2 ∧ feOk p.2)
      ⟨(Same.s2 (Same.upd hFF)).trans s0, d0, ⟨_, _, rfl⟩, [], sF, rfl, fun p hp => by cases hp⟩ (fun _ _ _ _ _ => trivial) ?_ ?_
    · rintro i v σ H1 H2 hi ⟨t1, t2, ⟨x3, x4, rfl⟩, L, l1, l2, l3⟩ ⟨rfl, rfl⟩
      rw [en] at hi
      have hi3 : i < 4 := by omega
      refine ⟨by show 5 ≤ sizeLine; decide, fun W hW => ?_⟩
      have nW := t2.apart hW
      have hWF : W ≠ FF := (ne_of_none l1 hW).symm
      refine ⟨fun m σ H' => (∃ ws : List Str, m = ws.length ∧ H' W = some (.lst (ws.map V.str)) ∧ ws.Sublist base5 ∧ 2 ≤ ws.length) ∧ Same2 h c H H' ∧ Dr H' h c ∧ σ = [some (.ref h), some (.int 3), some (.ref FF), some (.int (0 + (i : Nat))), some (.ref W)] ∧
          H' FF = some (.lst (L.map fun p => V.ref p.1)) ∧ ∀ p ∈ L, FeAt H' p.1 p.2 ∧ feOk p.2, ⟨5, ⟨base5, rfl, upd_same, List.Sublist.refl _, by decide⟩, Same2.upd' t1 hW, t2.upd nW, rfl, upd_keep l1 hW, fun p hp => ⟨(l3 p hp).1.same (Same.upd hW), (l3 p hp).2⟩⟩, ?_⟩
      rintro m σ H3 ⟨⟨ws, rfl, w1, w2, w3⟩, u1, u2, rfl, u3, u4⟩
      have keepFe : ∀ {Ha Hb : Hp} {p : Addr × Fe}, Dr Ha h c → Same2 h c Ha Hb → FeAt Ha p.1 p.2 → FeAt Hb p.1 p.2 := fun d s hf => by
        obtain ⟨wa, g1, g2⟩ := hf.ex
        exact ⟨wa, d.keep s g1 (by intro xs z; cases z), d.keep s g2 (by intro xs z; cases z)⟩
      refine ⟨_, rfl, .ref W, ws.length, rfl, .inl ⟨_, SqL.of w1, by simp⟩, _, rfl, h, c, 3, rfl, by decide, by decide, u2, fun r1 H4 hr1 s4 d4 => ⟨_, _, rfl, rfl, _, _, rfl, rfl, _, rfl, ?_⟩⟩
      have w4 : H4 W = _ := s4 _ _ nW.1 nW.2 w1
      have u34 : H4 FF = _ := s4 _ _ nF.1 nF.2 u3
      have u44 : ∀ p ∈ L, FeAt H4 p.1 p.2 ∧ feOk p.2 := fun p hp => ⟨keepFe u2 s4 (u4 p hp).1, (u4 p hp).2⟩
      have hw5 : ws.length ≤ 5 := Nat.le_trans w2.length_le (by decide)
      by_cases hgt : (2 : Int) + (r1 : Int) < (ws.length : Int)
      · show if decide ((2 : Int) + (r1 : Int) < (ws.length : Int)) = true then _ else _
        rw [decide_eq_true hgt]
        refine iteT ⟨fun σ H' => (∃ ws' : List Str, ws'.length < ws.length ∧ H' W = some (.lst (ws'.map V.str)) ∧ ws'.Sublist base5 ∧ 2 ≤ ws'.length) ∧ Same2 h c H H' ∧ Dr H' h c ∧ σ = [some (.ref h), some (.int 3), some (.ref FF), some (.int (0 + (i : Nat))), some (.ref W)] ∧
          H' FF = some (.lst (L.map fun p => V.ref p.1)) ∧ ∀ p ∈ L, FeAt H' p.1 p.2 ∧ feOk p.2, ?_, ?_⟩
        · rintro σ' H' ⟨⟨ws', a1, a2, a3, a4⟩, a5, a6, a7, a8, a9⟩
          exact ⟨ws'.length, a1, ⟨ws', rfl, a2, a3, a4⟩, a5, a6, a7, a8, a9⟩
        · refine ⟨_, rfl, .inl ⟨rfl, _, SqL.of w4⟩, _, rfl, _, rfl, .ref W, ws.length, rfl, .inl ⟨_, SqL.of w4, by simp⟩, h, c, ws.length, rfl, by omega, by omega, d4, fun r2 H5 hr2 s5 d5 => ?_⟩
          have w5 : H5 W = _ := s5 _ _ nW.1 nW.2 w4
          have hr2' : r2 < (ws.map V.str).length := by rw [List.length_map]; exact hr2
          refine ⟨W, ws.map V.str, r2, r2, (ws.map V.str)[r2]'hr2', rfl, rfl, w5, by omega, by omega, ?_, List.getElem?_eq_getElem hr2', ?_⟩
          · rw [List.length_map]
            unfold seqIndex?
            simp
            omega
          refine ⟨⟨ws.eraseIdx r2, by rw [List.length_eraseIdx_of_lt hr2]; omega, by rw [upd_same, map_erase], (List.eraseIdx_sublist ws r2).trans w2, by rw [List.length_eraseIdx_of_lt hr2]; omega⟩, ?_, d5.upd nW, rfl, by rw [upd_ne hWF.symm]; exact s5 _ _ nF.1 nF.2 u34, fun p hp => ?_⟩
          · intro b o b1 b2 e
            have e5 := s5 b o b1 b2 (s4 b o b1 b2 (u1 b o b1 b2 e))
            rw [upd_ne (fun z => ?_)]
            · exact e5
            · subst z
              have := t1 b o b1 b2 e
              rw [hW] at this; cases this
          · obtain ⟨wa, g1, g2⟩ := (keepFe d4 s5 (u44 p hp).1).ex
            exact ⟨⟨wa, by rw [upd_ne (ne_of g1 w5 (by intro z; cases z))]; exact g1, by rw [upd_ne (ne_of g2 w5 (by intro z; cases z))]; exact g2⟩, (u44 p hp).2⟩
      · show if decide ((2 : Int) + (r1 : Int) < (ws.length : Int)) = true then _ else _
        rw [decide_eq_false hgt]
        refine iteF ?_
        have t4 := u1.trans s4
        refine ⟨_, rfl, .inl ⟨rfl, _, SqL.of u34⟩, by show 6 ≤ sizeLine; decide, fun z hz => ?_⟩
        have hi6 : i < nm6.length := by show i < 6; omega
        have hnm : (nm6.map V.str)[i]? = some (.str nm6[i]) := by rw [List.getElem?_map, List.getElem?_eq_getElem hi6]; rfl
        refine ⟨_, rfl, z, nm6.map V.str, (i : Int), .str nm6[i], rfl, (by show V.int (0 + (i : Int)) = V.int (i : Int); rw [Int.zero_add]), SqL.of upd_same, atI_nat hnm, ?_⟩
        refine ⟨_, rfl, W, _, rfl, .inl ⟨SqL.of (upd_keep w4 hz), fun wt hwt => ⟨by show 2 ≤ sizeLine; decide, fun tt htt => ?_⟩⟩⟩
        have hL4 : L.length ≤ 4 := by
          have := congrArg List.length l2
          rw [List.length_map, List.length_take] at this; omega
        refine ⟨FF, _, _, rfl, rfl, upd_keep (upd_keep (upd_keep u34 hz) hwt) htt, by rw [List.length_map, sizeLine_eq]; omega, ?_⟩
        have s6 : Same H4 (upd (upd (upd H4 z (.lst (nm6.map V.str))) wt (.tup (ws.map V.str))) tt (.tup [.str nm6[i], .ref wt])) := Same.upd' (Same.upd' (Same.upd hz) hwt) htt
        have n1 : tt ≠ FF := fun e => by rw [e, upd_keep (upd_keep u34 hz) hwt] at htt; cases htt
        have n2 : wt ≠ FF := fun e => by rw [e, upd_keep u34 hz] at hwt; cases hwt
        refine ⟨?_, (d4.same s6).upd nF, ⟨_, _, rfl⟩, L ++ [(tt, (nm6[i], ws))], by rw [upd_same]; simp, ?_, fun p hp => ?_⟩
        · exact Same2.updN (t4.trans (Same.s2 s6)) hFF
        · rw [List.map_append, l2, List.take_add_one, List.getElem?_eq_getElem hi6]; rfl
        · rcases List.mem_append.mp hp with y | y
          · obtain ⟨wa, g1, g2⟩ := ((u44 p y).1.same s6).ex
            have fF := s6 _ _ u34
            exact ⟨⟨wa, by rw [upd_ne (ne_of g1 fF (by intro z; cases z))]; exact g1, by rw [upd_ne (ne_of g2 fF (by intro z; cases z))]; exact g2⟩, (u44 p y).2⟩
          · rw [List.mem_singleton.mp y]
            exact ⟨⟨wt, by rw [upd_ne n1]; exact upd_same, by rw [upd_ne n2]; exact upd_keep upd_same htt⟩, feOk_of (List.getElem_mem hi6) w2 w3⟩
    · rintro σ H1 ⟨t1, t2, ⟨x3, x4, rfl⟩, L, l1, l2, l3⟩
      rw [en] at l2
      refine ⟨_, rfl, FF, _, rfl, .inl ⟨SqL.of l1, fun p hp => ?_⟩⟩
      have hLl : L.length = 1 + r0 := by
        have := congrArg List.length l2
        rw [List.length_map, List.length_take] at this
        have e6 : nm6.length = 6 := rfl
        omega
      refine q p (L.map (·.2)) _ (Same2.upd' t1 hp) (t2.same (Same.upd hp)) ⟨L, upd_same, rfl, fun p' hp' => (l3 p' hp').1.same (Same.upd hp)⟩ ⟨?_, by rw [List.length_map]; omega, fun f hf => ?_, ?_⟩ (by rw [List.length_map]; omega)
      · intro e
        have := congrArg List.length e
        rw [List.length_map] at this
        have h9 : L.length = 0 := this
        omega
      · obtain ⟨p', hp', rfl⟩ := List.mem_map.mp hf
        exact (l3 p' hp').2
      · rw [List.map_map]
        have e : L.map ((fun f : Fe => f.1) ∘ fun p : Addr × Fe => p.2) = nm6.take (1 + r0) := l2
        rw [e]
        exact nodup_nm.sublist (List.take_sublist _ _)

/-- the words of a feature, some of them -/
def spSome : Sp := fun vs H Q _ => ∃ h c wa, ∃ f0 : Fe, vs = [.ref h, .ref wa] ∧ Dr H h c ∧ H wa = some (.tup (f0.2.map V.str)) ∧ feOk f0 ∧ ∀ p zs H', Same2 h c H H' → Dr H' h c → H' p = some (.tup (zs.map V.str)) → SetOk f0 zs → Q (.ref p) H'
theorem ok_lawSome (F : Df K "_law_some" "_law_some" sLawSome f) (hm : mg "_law_some" = some (.ref f)) (Tx : Txt K mg) (cN : C8.Cal P w K mg base 1 "_law_next" spNext []) : C8.Cal P w K mg base 2 "_law_some" spSome [] := by
  refine F.cal hm sc_lawSome (fun _ _ _ _ _ _ us hl => match us, hl with | [_, _], _ => rfl) (fun vs H Q E h => ?_) (fun cdv A outer s H vs Q E hr h => ?_)
  · obtain ⟨h, c, wa, f0, rfl, _⟩ := h; rfl
  · obtain ⟨h, c, wa, f0, rfl, hd, hw, hok, q⟩ := h
    obtain ⟨o1, o2, o3, o4, o5⟩ := hok
    refine ⟨_, pss_cons (ps_if (pt_cmpR op_eq (C8.pe_c cN hr (by decide) (by rfl) (pa_cons (pv 0) (pa_cons pe_int pa_nil))) pe_int (nomark _)) (pss_one (ps_ret (pv 1))) pss_nil)
      (pss_cons (ps_setLc (i := 2) (own := [("_law_word", 3)]) (by rfl) sc_lawSome.nd rfl rfl (sw_true rfl rfl rfl (by decide +kernel)) (pi_tup (pv 1)) (blkOk_by (N := nm_lawSome) (sc := defScope sLawSome) (by decide +kernel)) (fun _ _ _ _ _ => pg_name (i := 3) sc_lawSome.nd rfl (Or.inl rfl))
        (fun _ _ _ _ _ => pts_one (pt_cmpR op_eq (C8.pe_c cN hr (by decide) (by rfl) (pa_cons (pv 0) (pa_cons pe_int pa_nil))) pe_int (nomark _))) (fun _ _ _ _ _ => pv 3))
      (pss_one (ps_ret (pe_ifExp (pt_cmpR (op_neD hr.units) (pv 2) (pe_lst pa_nil) (nomark _)) (pe_callTy call_tuple_of (by rfl) Tx.tuple boot_tuple (pa_cons (pv 2) pa_nil))
        (pe_tup (pa_cons (pe_ix ix_tup (pv 1) (C8.pe_c cN hr (by decide) (by rfl) (pa_cons (pv 0) (pa_cons (pe_callB call_len (by rfl) Tx.len boot_len (pa_cons (pv 1) pa_nil)) pa_nil))) (fun _ _ => rfl)) pa_nil)))))), ?_⟩
    refine ⟨_, rfl, h, c, 3, rfl, by decide, by decide, hd, fun r0 H0 hr0 s0 d0 => ⟨rfl, _, rfl, ?_⟩⟩
    have w0 := hd.keep s0 hw (by intro xs z; cases z)
    by_cases e0 : r0 = 0
    · rw [decide_eq_true (show V.int (r0 : Int) = V.int 0 by rw [e0]; rfl)]
      exact iteT ⟨_, rfl, q wa f0.2 H0 s0 d0 w0 ⟨fun e => by rw [e] at o2; simp at o2, o3, o5, fun x hx => hx⟩⟩
    · rw [decide_eq_false (fun z => e0 (by injection z with z; omega))]
      refine iteF ⟨_, rfl, wa, rfl, ⟨_, SqT.of w0⟩, fun D hD => ?_⟩
      have nD := d0.apart hD
      refine lc_it (walk_tup (xs := f0.2.map V.str)) (fun i H' => Same2 h c H0 H' ∧ Dr H' h c ∧ ∃ zs : List Str, H' D = some (.lst (zs.map V.str)) ∧ zs.Sublist (f0.2.take i)) ⟨Same.s2 (Same.upd hD), d0.same (Same.upd hD), [], upd_same, List.nil_sublist _⟩ (fun i H' _ z => SqT.of (d0.keep z.1 w0 (by intro xs z; cases z))) ?_ ?_
      · rintro i v H1 H2 hi ⟨t1, t2, zs, t3, t4⟩ ⟨rfl, hv⟩
        obtain ⟨x, hx, rfl⟩ := get_map hv
        have hsub : ∀ {b : Bool}, (if b = true then zs ++ [x] else zs).Sublist (f0.2.take (i + 1)) := fun {b} => by
          rw [List.take_add_one, hx]
          cases b
          · exact t4.trans (List.sublist_append_left _ _)
          · exact t4.append (List.Sublist.refl _)
        refine ⟨rfl, _, rfl, h, c, 2, rfl, by decide, by decide, t2, fun r1 H3 hr1 s3 d3 => ⟨rfl, _, rfl, ?_⟩⟩
        have z3 := s3 _ _ nD.1 nD.2 t3
        by_cases e1 : r1 = 0
        · rw [decide_eq_true (show V.int (r1 : Int) = V.int 0 by rw [e1]; rfl)]
          refine iteT ⟨_, rfl, zs.map V.str, z3, ?_, Same2.updN (t1.trans s3) hD, d3.upd nD, zs ++ [x], by rw [upd_same]; simp, hsub (b := true)⟩
          have := t4.length_le
          rw [List.length_take] at this
          rw [List.length_map, sizeLine_eq]; omega
        · rw [decide_eq_false (fun z => e1 (by injection z with z; omega))]
          exact iteF ⟨t1.trans s3, d3, zs, z3, hsub (b := false)⟩
      · rintro H1 ⟨t1, t2, zs, t3, t4⟩
        rw [List.length_map, List.take_length] at t4
        have w1 := d0.keep t1 w0 (by intro xs z; cases z)
        have s1 := s0.trans t1
        refine ⟨_, rfl, by show 0 ≤ sizeLine; decide, fun p2 hp2 => ?_⟩
        refine ⟨.list (zs.map PyData.str), .list [], .lst (SqL.of (upd_keep t3 hp2)) (dp_strs _), .lst (SqL.of upd_same) .nil, shaped_strs fun x hx => o4 x (t4.subset hx), rfl, _, rfl, ?_⟩
        rw [eqv_nilL]
        have d2 := t2.same (Same.upd (o := .lst []) hp2)
        have s2 := Same2.upd' (u := .lst []) s1 hp2
        by_cases he : zs = []
        · rw [show zs.isEmpty = true by rw [he]; rfl]
          have hl : f0.2.length ≤ 8 := o3
          refine iteF ⟨_, rfl, _, rfl, _, rfl, .ref wa, f0.2.length, rfl, .inr ⟨_, SqT.of (upd_keep w1 hp2), by simp⟩, h, c, f0.2.length, rfl, by omega, by omega, d2, fun r2 H3 hr2 s3 d3 => ?_⟩
          have w3 := d2.keep s3 (upd_keep w1 hp2) (by intro xs z; cases z)
          refine ⟨wa, _, r2, .str (f0.2[r2]'hr2), rfl, rfl, SqT.of w3, atI_nat (by rw [List.getElem?_map, List.getElem?_eq_getElem hr2]; rfl), by show 1 ≤ sizeLine; decide, fun p3 hp3 => ?_⟩
          exact q p3 [f0.2[r2]'hr2] _ (Same2.upd' (s2.trans s3) hp3) (d3.same (Same.upd hp3)) upd_same ⟨by simp, by show 1 ≤ 8; decide, List.pairwise_singleton _ _, fun x hx => by rw [List.mem_singleton.mp hx]; exact List.getElem_mem hr2⟩
        · rw [show zs.isEmpty = false by cases zs with
            | nil => exact absurd rfl he
            | cons _ _ => rfl]
          refine iteT ⟨_, rfl, D, _, rfl, .inl ⟨SqL.of (upd_keep t3 hp2), fun p3 hp3 => ?_⟩⟩
          exact q p3 zs _ (Same2.upd' s2 hp3) (d2.same (Same.upd hp3)) upd_same ⟨he, Nat.le_trans t4.length_le o3, o5.sublist t4, fun x hx => t4.subset hx⟩

/-- what a drawing tells of one thing: for each feature its words -/
structure DrawAt (H : Hp) (d : Addr) (fs : List Fe) (S : Str → List Str) : Prop where
  ex : ∃ kvs, H d = some (.dK kvs) ∧ ∀ f ∈ fs, SetOk f (S f.1) ∧ ∃ wa, valV kvs (.inr f.1) = some (.ref wa) ∧ H wa = some (.tup ((S f.1).map V.str))
theorem DrawAt.keep {H H' : Hp} {h c d : Addr} {fs : List Fe} {S : Str → List Str} (x : DrawAt H d fs S) (dr : Dr H h c) (s : Same2 h c H H') : DrawAt H' d fs S := by
  obtain ⟨kvs, h1, h2⟩ := x.ex
  refine ⟨kvs, dr.keep s h1 (by intro xs z; cases z), fun f hf => ?_⟩
  obtain ⟨a, wa, b, e⟩ := h2 f hf
  exact ⟨a, wa, b, dr.keep s e (by intro xs z; cases z)⟩
theorem DrawAt.same {H H' : Hp} {d : Addr} {fs : List Fe} {S : Str → List Str} (x : DrawAt H d fs S) (s : Same H H') : DrawAt H' d fs S := by
  obtain ⟨kvs, h1, h2⟩ := x.ex
  refine ⟨kvs, s _ _ h1, fun f hf => ?_⟩
  obtain ⟨a, wa, b, e⟩ := h2 f hf
  exact ⟨a, wa, b, s _ _ e⟩
theorem FsAt.keep {H H' : Hp} {h c a : Addr} {fs : List Fe} (x : FsAt H a fs) (dr : Dr H h c) (s : Same2 h c H H') : FsAt H' a fs := by
  obtain ⟨L, h1, h2, h3⟩ := x.ex
  refine ⟨L, dr.keep s h1 (by intro xs z; cases z), h2, fun p hp => ?_⟩
  obtain ⟨wa, h4, h5⟩ := (h3 p hp).ex
  exact ⟨wa, dr.keep s h4 (by intro xs z; cases z), dr.keep s h5 (by intro xs z; cases z)⟩
/-- dict(pairs) with keys all different -/
theorem merge_new : ∀ (more kvs : List (Key × V)), ((kvs ++ more).map (·.1)).Nodup → mergeK kvs more = kvs ++ more
  | [], kvs, _ => by simp [mergeK]
  | kv :: more, kvs, hn => by
    have h0 : valV kvs kv.1 = none := by
      unfold valV
      rw [Option.map_eq_none_iff, List.find?_eq_none]
      intro x hx
      rw [List.map_append, List.nodup_append] at hn
      have := hn.2.2 x.1 (List.mem_map_of_mem hx) kv.1 (by simp)
      simp [this]
    show mergeK (putK kvs kv.1 kv.2) more = _
    rw [putK_new _ h0, merge_new more _ (by rw [List.append_assoc]; exact hn), List.append_assoc]; rfl
theorem val_pairs {α : Type} (key : α → Str) (g : α → V) : ∀ (L : List α), (L.map key).Nodup → ∀ x ∈ L, valV (L.map fun a => ((Sum.inr (key a) : Key), g a)) (.inr (key x)) = some (g x)
  | [], _, x, hx => by cases hx
  | a :: L, hn, x, hx => by
    rw [List.map_cons]
    rw [List.map_cons, List.nodup_cons] at hn
    rcases List.mem_cons.mp hx with e | hx
    · subst e
      rw [valV_pos (p := ((Sum.inr (key x) : Key), g x)) rfl]
    · have hne : key a ≠ key x := fun e => hn.1 (e ▸ List.mem_map_of_mem hx)
      rw [valV_neg (p := ((Sum.inr (key a) : Key), g a)) (fun e => hne (by injection e))]
      exact val_pairs key g L hn.2 x hx
def spSets : Sp := fun vs H Q _ => ∃ h c a fs, vs = [.ref h, .ref a] ∧ Dr H h c ∧ FsAt H a fs ∧ fsOk fs ∧ ∀ d S H', Same2 h c H H' → Dr H' h c → H d = none → DrawAt H' d fs S → Q (.ref d) H'
theorem ok_lawSets (F : Df K "_law_sets" "_law_sets" sLawSets f) (hm : mg "_law_sets" = some (.ref f)) (Tx : Txt K mg) (cS : C8.Cal P w K mg base 2 "_law_some" spSome []) : C8.Cal P w K mg base 3 "_law_sets" spSets [] := by
  refine F.cal hm sc_lawSets (fun _ _ _ _ _ _ us hl => match us, hl with | [_, _], _ => rfl) (fun vs H Q E h => ?_) (fun cdv A outer s H vs Q E hr h => ?_)
  · obtain ⟨h, c, a, fs, rfl, _⟩ := h; rfl
  · obtain ⟨h, c, a, fs, rfl, hd, hfs, hok, q⟩ := h
    refine ⟨_, pss_one (ps_ret (pe_callTy (call_dictP rfl) (by rfl) Tx.dict boot_dict (pa_cons
      (pe_lc (own := [("_law_name", 2), ("_law_words", 3)]) rfl sc_lawSets.nd (pi_tup (pv 1)) (blkOk_by (N := nm_lawSets) (sc := defScope sLawSets) (by decide +kernel)) (fun _ _ _ _ _ => pg_n2 K (i := 2) (j := 3) rfl rfl sc_lawSets.nd rfl rfl (Or.inl rfl) (Or.inl rfl) (Or.inr rfl) (Or.inr rfl)) (fun _ _ _ _ _ => pts_nil)
        (fun _ _ _ _ _ => pe_tup (pa_cons (pv 2) (pa_cons (C8.pe_c cS hr (by decide) (by rfl) (pa_cons (pv 0) (pa_cons (pv 3) pa_nil))) pa_nil)))) pa_nil))), ?_⟩
    obtain ⟨L, l1, rfl, l3⟩ := hfs.ex
    have h6 : L.length ≤ 6 := by simpa using hok.2.1
    refine ⟨_, rfl, a, rfl, ⟨_, SqT.of l1⟩, fun D hD => ?_⟩
    have nD := hd.apart hD
    refine lc_it (walk_tup (xs := L.map fun p => V.ref p.1)) (fun i H' => Same2 h c H H' ∧ Dr H' h c ∧ ∃ M : List (Addr × Addr × Str × List Str), H' D = some (.lst (M.map fun p => V.ref p.1)) ∧ M.map (·.2.2.1) = (L.take i).map (·.2.1) ∧
        ∀ (j : Nat) (p : Addr × Addr × Str × List Str), M[j]? = some p → ∃ y : Addr × Fe, L[j]? = some y ∧ p.2.2.1 = y.2.1 ∧ SetOk y.2 p.2.2.2 ∧ H' p.1 = some (.tup [.str p.2.2.1, .ref p.2.1]) ∧ H' p.2.1 = some (.tup (p.2.2.2.map V.str)))
      ⟨Same.s2 (Same.upd hD), hd.same (Same.upd hD), [], upd_same, rfl, fun j p hp => by simp at hp⟩ (fun i H' _ z => SqT.of (hd.keep z.1 l1 (by intro xs z; cases z))) ?_ ?_
    · rintro i v H1 H2 hi ⟨t1, t2, M, m1, m2, m3⟩ ⟨rfl, hv⟩
      obtain ⟨y, hy, rfl⟩ := get_map hv
      obtain ⟨wa, g1, g2⟩ := (l3 y (mem_of_get hy)).ex
      have g1' := hd.keep t1 g1 (by intro xs z; cases z)
      have g2' := hd.keep t1 g2 (by intro xs z; cases z)
      have hil : i < L.length := by simpa using hi
      have hMl : M.length = i := by
        have := congrArg List.length m2
        rw [List.length_map, List.length_map, List.length_take] at this; omega
      refine ⟨y.1, _, rfl, SqT.of g1', rfl, _, _, rfl, _, _, rfl, rfl, rfl, ?_⟩
      refine tyes ⟨_, rfl, _, rfl, _, rfl, h, c, wa, y.2, rfl, t2, g2', hok.2.2.1 y.2 (List.mem_map_of_mem (mem_of_get hy)), fun p zs H3 s3 d3 hp hset => ⟨by show 2 ≤ sizeLine; decide, fun t ht => ?_⟩⟩
      have m1' := s3 _ _ nD.1 nD.2 m1
      have htD : t ≠ D := (ne_of_none m1' ht).symm
      have hpD : p ≠ D := ne_of hp m1' (by intro z; cases z)
      refine ⟨_, upd_keep m1' ht, by rw [List.length_map, sizeLine_eq]; omega, Same2.updN (Same2.upd' (t1.trans s3) ht) hD, (d3.same (Same.upd ht)).upd nD, M ++ [(t, p, y.2.1, zs)], by rw [upd_same]; simp, ?_, ?_⟩
      · rw [List.map_append, m2, List.take_add_one, hy]; simp
      · intro j p' hp'
        by_cases hj : j < M.length
        · rw [List.getElem?_append_left hj] at hp'
          obtain ⟨y', e1, e2, e3, e4, e5⟩ := m3 j p' hp'
          have e4' := t2.keep s3 e4 (by intro xs z; cases z)
          have e5' := t2.keep s3 e5 (by intro xs z; cases z)
          exact ⟨y', e1, e2, e3, by rw [upd_ne (ne_of e4' m1' (by intro z; cases z))]; exact upd_keep e4' ht, by rw [upd_ne (ne_of e5' m1' (by intro z; cases z))]; exact upd_keep e5' ht⟩
        · rw [List.getElem?_append_right (by omega)] at hp'
          have hj0 : j - M.length = 0 := by
            cases hjj : j - M.length with
            | zero => rfl
            | succ n => rw [hjj] at hp'; simp at hp'
          rw [hj0] at hp'
          have e0 : p' = (t, p, y.2.1, zs) := by simpa using hp'.symm
          have hji : j = i := by omega
          rw [e0, hji]
          exact ⟨y, hy, rfl, hset, by rw [upd_ne htD]; exact upd_same, by rw [upd_ne hpD]; exact upd_keep hp ht⟩
    · rintro H1 ⟨t1, t2, M, m1, m2, m3⟩
      rw [List.length_map, List.take_length] at m2
      have hkeys : (M.map (·.2.2.1)).Nodup := by
        rw [m2]
        have := hok.2.2.2
        rw [List.map_map] at this
        exact this
      have hM : ∀ p : Addr × Addr × Str × List Str, p ∈ M → ∃ y : Addr × Fe, y ∈ L ∧ p.2.2.1 = y.2.1 ∧ SetOk y.2 p.2.2.2 ∧ H1 p.1 = some (.tup [.str p.2.2.1, .ref p.2.1]) ∧ H1 p.2.1 = some (.tup (p.2.2.2.map V.str)) := fun p hp => by
        obtain ⟨j, hj⟩ := List.mem_iff_getElem?.mp hp
        obtain ⟨y, e1, e2⟩ := m3 j p hj
        exact ⟨y, mem_of_get e1, e2⟩
      have hpr : ∀ N : List (Addr × Addr × Str × List Str), (∀ p ∈ N, p ∈ M) → Paired (fun (p : Addr) (kv : Key × V) => SqT K H1 p [kV kv.1, kv.2]) (N.map fun p => p.1) (N.map fun p => ((Sum.inr p.2.2.1 : Key), V.ref p.2.1)) := by
        intro N
        induction N with
        | nil => exact fun _ => .nil
        | cons p N ih =>
          intro hN
          obtain ⟨y, _, _, _, e4, _⟩ := hM p (hN p List.mem_cons_self)
          exact .cons (SqT.of e4) (ih fun x hx => hN x (List.mem_cons_of_mem _ hx))
      refine ⟨D, M.map fun (p : Addr × Addr × Str × List Str) => p.1, M.map fun (p : Addr × Addr × Str × List Str) => ((Sum.inr p.2.2.1 : Key), V.ref p.2.1), rfl, SqL.of (by rw [m1, List.map_map]; rfl), hpr M fun p hp => hp, fun d hdn => ?_⟩
      rw [merge_new _ [] (by
        rw [List.nil_append, List.map_map]
        have e : ((fun kv : Key × V => kv.1) ∘ fun p : Addr × Addr × Str × List Str => ((Sum.inr p.2.2.1 : Key), V.ref p.2.1)) = (fun s : Str => (Sum.inr s : Key)) ∘ fun p => p.2.2.1 := rfl
        rw [e, ← List.map_map]
        exact (List.pairwise_map.mpr (hkeys.imp fun hne e => hne (by injection e)))), List.nil_append]
      refine q d (fun s => match M.find? (fun p => decide (p.2.2.1 = s)) with | some p => p.2.2.2 | none => []) _ (Same2.upd' t1 hdn) (t2.same (Same.upd hdn)) ?_ ⟨_, upd_same, fun f hf => ?_⟩
      · cases e : H d with
        | none => rfl
        | some u =>
          obtain ⟨st, ps, ns, d1, d2, _⟩ := hd.ex
          obtain ⟨st', ps', ns', d1', d2', _⟩ := t2.ex
          by_cases e1 : d = h
          · rw [e1, d1'] at hdn; cases hdn
          · by_cases e2 : d = c
            · obtain ⟨st2, ps2, ns2, x1, x2, _⟩ := t2.ex
              rw [e2, x2] at hdn; cases hdn
            · rw [t1 d u e1 e2 e] at hdn; cases hdn
      · obtain ⟨y, hy, rfl⟩ := List.mem_map.mp hf
        obtain ⟨j, hj⟩ := List.mem_iff_getElem?.mp hy
        have hMl : M.length = L.length := by have := congrArg List.length m2; simpa using this
        have hjl : j < M.length := by rw [hMl]; exact (List.getElem?_eq_some_iff.mp hj).1
        obtain ⟨y', e1, e2, e3, e4, e5⟩ := m3 j M[j] (List.getElem?_eq_getElem hjl)
        rw [hj] at e1
        cases e1
        have hfind : M.find? (fun p => decide (p.2.2.1 = y.2.1)) = some M[j] := by
          have : ∃ q, M.find? (fun p => decide (p.2.2.1 = y.2.1)) = some q := by
            cases hh : M.find? (fun p => decide (p.2.2.1 = y.2.1)) with
            | some q => exact ⟨q, rfl⟩
            | none => exact absurd (List.find?_eq_none.mp hh M[j] (List.getElem_mem hjl)) (by simp [e2])
          obtain ⟨q', hq'⟩ := this
          have hk' : q'.2.2.1 = y.2.1 := by simpa using List.find?_some hq'
          obtain ⟨j', hj'⟩ := List.mem_iff_getElem?.mp (List.mem_of_find?_eq_some hq')
          have hjj : j' = j := by
            obtain ⟨b1, b2⟩ := List.getElem?_eq_some_iff.mp hj'
            have n1 : (M.map (·.2.2.1))[j']'(by rw [List.length_map]; exact b1) = (M.map (·.2.2.1))[j]'(by rw [List.length_map]; exact hjl) := by
              rw [List.getElem_map, List.getElem_map, b2, hk', e2]
            rcases Nat.lt_trichotomy j' j with lt | eq | gt
            · exact absurd n1 (List.pairwise_iff_getElem.mp hkeys j' j _ _ lt)
            · exact eq
            · exact absurd n1.symm (List.pairwise_iff_getElem.mp hkeys j j' _ _ gt)
          rw [hq', ← hj', hjj, List.getElem?_eq_getElem hjl]
        show SetOk y.2 (match M.find? (fun p => decide (p.2.2.1 = y.2.1)) with | some p => p.2.2.2 | none => []) ∧ _
        rw [hfind]
        refine ⟨e3, M[j].2.1, ?_, upd_keep e5 hdn⟩
        have := val_pairs (fun p : Addr × Addr × Str × List Str => p.2.2.1) (fun p => V.ref p.2.1) M hkeys M[j] (List.getElem_mem hjl)
        rw [e2] at this
        exact this
end
end Lk
/-! Kd17 -/
namespace Lk
open PySem PySem.Spec PyProof.Rows L2
/-- one drawn thing or claim -/
structure En where
  v : Addr
  d : Addr
  S : Str → List Str
  day : Int
  slip : Int
  worth : Int
structure TEn (H : Hp) (fs : List Fe) (e : En) : Prop where
  v : H e.v = some (.tup [.ref e.d, .int e.day])
  d : DrawAt H e.d fs e.S
  b : 0 ≤ e.day ∧ e.day ≤ 1000
structure CEn (H : Hp) (fs : List Fe) (e : En) : Prop where
  v : H e.v = some (.tup [.ref e.d, .int e.day, .int e.slip, .int e.worth])
  d : DrawAt H e.d fs e.S
  b : 0 ≤ e.day ∧ e.day ≤ 1000
  s : 0 ≤ e.slip ∧ e.slip ≤ 2
  w : 1 ≤ e.worth ∧ e.worth ≤ 1000
theorem TEn.keep {H H' : Hp} {h c : Addr} {fs : List Fe} {e : En} (x : TEn H fs e) (dr : Dr H h c) (s : Same2 h c H H') : TEn H' fs e := ⟨dr.keep s x.v (by intro xs z; cases z), x.d.keep dr s, x.b⟩
theorem CEn.keep {H H' : Hp} {h c : Addr} {fs : List Fe} {e : En} (x : CEn H fs e) (dr : Dr H h c) (s : Same2 h c H H') : CEn H' fs e := ⟨dr.keep s x.v (by intro xs z; cases z), x.d.keep dr s, x.b, x.s, x.w⟩
theorem TEn.same {H H' : Hp} {fs : List Fe} {e : En} (x : TEn H fs e) (s : Same H H') : TEn H' fs e := ⟨s _ _ x.v, x.d.same s, x.b⟩
theorem CEn.same {H H' : Hp} {fs : List Fe} {e : En} (x : CEn H fs e) (s : Same H H') : CEn H' fs e := ⟨s _ _ x.v, x.d.same s, x.b, x.s, x.w⟩
def enKvs (g : Str → En) (T : List Str) : List (Key × V) := T.map fun l => (.inr l, .ref (g l).v)
structure DrawnAt (H : Hp) (p : Addr) (T C : List Str) : Prop where
  ex : ∃ fa fo lo fs, ∃ (gt gc : Str → En), H p = some (.tup [.ref fa, .ref fo, .ref lo]) ∧ FsAt H fa fs ∧ fsOk fs ∧ H fo = some (.dK (enKvs gt T)) ∧ H lo = some (.dK (enKvs gc C)) ∧ (∀ l ∈ T, TEn H fs (gt l) ∧ (gt l).d ≠ fo ∧ (gt l).d ≠ lo) ∧ (∀ l ∈ C, CEn H fs (gc l) ∧ (gc l).d ≠ fo ∧ (gc l).d ≠ lo) ∧ fo ≠ lo
  lab : LabOk T C
theorem DrawnAt.same {H H' : Hp} {p : Addr} {T C : List Str} (x : DrawnAt H p T C) (s : Same H H') : DrawnAt H' p T C := by
  obtain ⟨fa, fo, lo, fs, gt, gc, h1, h2, h3, h4, h5, h6, h7, h8⟩ := x.ex
  exact ⟨⟨fa, fo, lo, fs, gt, gc, s _ _ h1, h2.same s, h3, s _ _ h4, s _ _ h5, fun l hl => ⟨(h6 l hl).1.same s, (h6 l hl).2⟩, fun l hl => ⟨(h7 l hl).1.same s, (h7 l hl).2⟩, h8⟩, x.lab⟩
def upF (g : Str → En) (x : Str) (e : En) : Str → En := fun l => if l = x then e else g l
theorem upF_same {g : Str → En} {x : Str} {e : En} : upF g x e x = e := if_pos rfl
theorem upF_ne {g : Str → En} {x l : Str} {e : En} (h : l ≠ x) : upF g x e l = g l := if_neg h
/-- one more entry -/
theorem en_put {L : List Str} {g : Str → En} {i : Nat} {x : Str} {e : En} (hn : L.Nodup) (hx : L[i]? = some x) : putK (enKvs g (L.take i)) (.inr x) (.ref e.v) = enKvs (upF g x e) (L.take (i + 1)) := by
  have hni : x ∉ L.take i := by
    intro hm
    obtain ⟨j, hj, hj2⟩ := List.mem_take_iff_getElem.mp hm
    obtain ⟨hlt, hj3⟩ := List.getElem?_eq_some_iff.mp hx
    exact List.pairwise_iff_getElem.mp hn j i _ hlt (by omega) (hj2.trans hj3.symm)
  unfold enKvs
  rw [putK_new]
  · rw [List.take_add_one, hx, List.map_append]
    congr 1
    · refine List.map_congr_left fun y hy => ?_
      rw [upF_ne (fun z : y = x => hni (z ▸ hy))]
    · simp [upF_same]
  · rw [val_map (fun l => .ref (g l).v), if_neg hni]
theorem DrawAt.updD {H : Hp} {d fo : Addr} {fs : List Fe} {S : Str → List Str} {k0 k1 : List (Key × V)} (x : DrawAt H d fs S) (hf : H fo = some (.dK k0)) (hne : d ≠ fo) : DrawAt (upd H fo (.dK k1)) d fs S := by
  obtain ⟨kvs, h1, h2⟩ := x.ex
  refine ⟨kvs, by rw [upd_ne hne]; exact h1, fun f h => ?_⟩
  obtain ⟨a, wa, b, e⟩ := h2 f h
  exact ⟨a, wa, b, by rw [upd_ne (ne_of e hf (by intro z; cases z))]; exact e⟩
theorem TEn.updD {H : Hp} {fo : Addr} {fs : List Fe} {e : En} {k0 k1 : List (Key × V)} (x : TEn H fs e) (hf : H fo = some (.dK k0)) (hne : e.d ≠ fo) : TEn (upd H fo (.dK k1)) fs e :=
  ⟨by rw [upd_ne (ne_of x.v hf (by intro z; cases z))]; exact x.v, x.d.updD hf hne, x.b⟩
theorem CEn.updD {H : Hp} {fo : Addr} {fs : List Fe} {e : En} {k0 k1 : List (Key × V)} (x : CEn H fs e) (hf : H fo = some (.dK k0)) (hne : e.d ≠ fo) : CEn (upd H fo (.dK k1)) fs e :=
  ⟨by rw [upd_ne (ne_of x.v hf (by intro z; cases z))]; exact x.v, x.d.updD hf hne, x.b, x.s, x.w⟩
section
variable {P : Program} {w : World} {K : PySem.W.Frag} {mg : Str → Option Value} {base : Heap} {f : Addr}
theorem sc_lawDrawn : FnScope ["_law_h", "_law_things", "_law_claims", "_law_features_here", "_law_found", "_law_lost", "_law_label", "_law_slips"] ["_law_h", "_law_things", "_law_claims"] (defScope sLawDrawn) := ⟨rfl, rfl, rfl, by decide +kernel, rfl, by decide +kernel, by decide +kernel⟩
abbrev nm_lawDrawn : List Str := ["_law_h", "_law_things", "_law_claims", "_law_features_here", "_law_found", "_law_lost", "_law_label", "_law_slips"]
def spDrawn : Sp := fun vs H Q _ => ∃ h c, vs = [.ref h, .int 5, .int 5] ∧ Dr H h c ∧ ∀ p T C H', Same2 h c H H' → Dr H' h c → DrawnAt H' p T C → Q (.ref p) H'
theorem ok_lawDrawn (F : Df K "_law_drawn" "_law_drawn" sLawDrawn f) (hm : mg "_law_drawn" = some (.ref f)) (Tx : Txt K mg) (cN : C8.Cal P w K mg base 1 "_law_next" spNext []) (cF : C8.Cal P w K mg base 2 "_law_features" spFeatures [])
    (cS : C8.Cal P w K mg base 3 "_law_sets" spSets []) : C8.Cal P w K mg base 4 "_law_drawn" spDrawn [] := by
  refine F.cal hm sc_lawDrawn (fun _ _ _ _ _ _ us hl => match us, hl with | [_, _, _], _ => rfl) (fun vs H Q E h => ?_) (fun cdv A outer s H vs Q E hr h => ?_)
  · obtain ⟨h, c, rfl, _⟩ := h; rfl
  · obtain ⟨h, c, rfl, hd, q⟩ := h
    refine ⟨_, pss_cons (ps_par3 (i := 3) (j := 4) (l := 5) (by rfl) sc_lawDrawn.nd rfl rfl rfl (by decide) (by decide) (by decide) rfl rfl rfl (pa_cons (C8.pe_c cF hr (by decide) (by rfl) (pa_cons (pv 0) (pa_cons pe_int pa_nil))) (pa_cons pe_dnewK (pa_cons pe_dnewK pa_nil))) (by rfl))
      (pss_cons (ps_for PassesOwn.never rfl (pi_list (pe_slice sl_list (pe_lst (pa_cons pe_str (pa_cons pe_str (pa_cons pe_str (pa_cons pe_str (pa_cons pe_str (pa_cons pe_str pa_nil))))))) po_none (po_some (C8.pe_c cN hr (by decide) (by rfl) (pa_cons (pv 0) (pa_cons (pe_op op_add (pv 1) pe_int) pa_nil)))))) (pg_name (i := 6) sc_lawDrawn.nd rfl (Or.inl rfl))
        (pss_one (ps_dput (hu_of hr) (pv 4) (pv 6) (pe_tup (pa_cons (C8.pe_c cS hr (by decide) (by rfl) (pa_cons (pv 0) (pa_cons (pv 3) pa_nil))) (pa_cons (pe_op op_add pe_int (C8.pe_c cN hr (by decide) (by rfl) (pa_cons (pv 0) (pa_cons pe_int pa_nil)))) pa_nil))) rfl)))
      (pss_cons (ps_for PassesOwn.never rfl (pi_list (pe_slice sl_list (pe_lst (pa_cons pe_str (pa_cons pe_str (pa_cons pe_str (pa_cons pe_str (pa_cons pe_str (pa_cons pe_str pa_nil))))))) po_none (po_some (C8.pe_c cN hr (by decide) (by rfl) (pa_cons (pv 0) (pa_cons (pe_op op_add (pv 2) pe_int) pa_nil)))))) (pg_name (i := 6) sc_lawDrawn.nd rfl (Or.inl rfl))
        (pss_cons (ps_set sc_lawDrawn.nd (i := 7) rfl (Or.inl rfl) (pe_ix ix_list (pe_lst (pa_cons pe_int (pa_cons pe_int (pa_cons pe_int (pa_cons pe_int pa_nil))))) (C8.pe_c cN hr (by decide) (by rfl) (pa_cons (pv 0) (pa_cons pe_int pa_nil))) (fun _ _ => rfl)))
        (pss_one (ps_dput (hu_of hr) (pv 5) (pv 6) (pe_tup (pa_cons (C8.pe_c cS hr (by decide) (by rfl) (pa_cons (pv 0) (pa_cons (pv 3) pa_nil))) (pa_cons (C8.pe_c cN hr (by decide) (by rfl) (pa_cons (pv 0) (pa_cons pe_int pa_nil)))
          (pa_cons (pv 7) (pa_cons (pe_op op_add pe_int (C8.pe_c cN hr (by decide) (by rfl) (pa_cons (pv 0) (pa_cons (pe_ix ix_list (pe_lst (pa_cons pe_int (pa_cons pe_int pa_nil))) (C8.pe_c cN hr (by decide) (by rfl) (pa_cons (pv 0) (pa_cons pe_int pa_nil))) (fun _ _ => rfl)) pa_nil)))) pa_nil))))) rfl))))
      (pss_one (ps_ret (pe_tup (pa_cons (pv 3) (pa_cons (pv 4) (pa_cons (pv 5) pa_nil)))))))), ?_⟩
    refine ⟨_, rfl, h, c, rfl, hd, fun fa fs H1 s1 d1 hfs hok _ => ?_⟩
    refine fun fo hfo => fun lo hlo => ⟨_, _, _, rfl, ?_⟩
    have nfo := d1.apart hfo
    have hlf : lo ≠ fo := fun e => by rw [e, upd_same] at hlo; cases hlo
    have hlo1 : H1 lo = none := by rw [upd_ne hlf] at hlo; exact hlo
    have nlo := d1.apart hlo1
    have sa : Same H1 (upd (upd H1 fo (.dK [])) lo (.dK [])) := Same.upd' (Same.upd hfo) hlo
    refine ⟨by show 6 ≤ sizeLine; decide, fun z hz => ?_⟩
    have sz := Same.upd' (o := .lst (tL.map V.str)) sa hz
    refine ⟨_, rfl, _, rfl, _, _, rfl, rfl, h, c, 6, rfl, by decide, by decide, d1.same sz, fun r0 H2 hr0 s2 d2 => ?_⟩
    have nz := (d1.same sa).apart hz
    have z2 := s2 _ _ nz.1 nz.2 upd_same
    refine ⟨_, rfl, z, tL.map V.str, rfl, SqL.of z2, fun LL hLL => ?_⟩
    rw [cut_take (by show r0 ≤ 6; omega), ← List.map_take]
    have hT : ∀ i, ((tL.take r0).take i).Sublist tL := fun i => (List.take_sublist _ _).trans (List.take_sublist _ _)
    have hTn : (tL.take r0).Nodup := nodup_tL.sublist (List.take_sublist _ _)
    have hTl : (tL.take r0).length ≤ 5 := by rw [List.length_take]; omega
    refine ⟨LL, rfl, ⟨_, SqL.of upd_same⟩, ?_⟩
    have nL := d2.apart hLL
    have fs2 : ∀ {Hx}, Same2 h c H1 Hx → FsAt Hx fa fs := fun s => hfs.keep d1 s
    have s12 : Same2 h c H1 (upd H2 LL (.lst ((tL.take r0).map V.str))) := Same2.upd' ((Same.s2 sz).trans s2) hLL
    have kfo : H2 fo = some (.dK []) := s2 _ _ nfo.1 nfo.2 (upd_keep (upd_keep upd_same hlo) hz)
    have klo : H2 lo = some (.dK []) := s2 _ _ nlo.1 nlo.2 (upd_keep upd_same hz)
    refine for_it (walk_list (xs := (tL.take r0).map V.str)) (fun i σ H' => Same2 h c H1 H' ∧ Dr H' h c ∧ H' LL = some (.lst ((tL.take r0).map V.str)) ∧ (∃ x6 x7, σ = [some (.ref h), some (.int 5), some (.int 5), some (.ref fa), some (.ref fo), some (.ref lo), x6, x7]) ∧ H' lo = some (.dK []) ∧
        ∃ gt : Str → En, H' fo = some (.dK (enKvs gt ((tL.take r0).take i))) ∧ ∀ l ∈ (tL.take r0).take i, TEn H' fs (gt l) ∧ (gt l).d ≠ fo ∧ (gt l).d ≠ lo)
      ⟨s12, d2.same (Same.upd hLL), upd_same, ⟨_, _, rfl⟩, upd_keep klo hLL, fun _ => ⟨0, 0, fun _ => [], 0, 0, 0⟩, upd_keep kfo hLL, fun l hl => by simp at hl⟩ (fun i σ H' _ z => SqL.of z.2.2.1) ?_ ?_
    · rintro i v σ H3 H4 hi ⟨t1, t2, tL1, ⟨x6, x7, rfl⟩, tlo, gt, g1, g2⟩ ⟨rfl, hv⟩
      obtain ⟨x, hx, rfl⟩ := get_map hv
      have hil : i < (tL.take r0).length := by simpa using hi
      have hx1 : (tL.take r0).take (i + 1) = (tL.take r0).take i ++ [x] := by rw [List.take_add_one, hx]; rfl
      refine ⟨_, rfl, _, rfl, h, c, fa, fs, rfl, t2, fs2 t1, hok, fun d S H5 s5 d5 hdn hdraw => ?_⟩
      have hdfo : d ≠ fo := fun e => by rw [e, g1] at hdn; cases hdn
      have hdlo : d ≠ lo := fun e => by rw [e, tlo] at hdn; cases hdn
      refine ⟨_, rfl, h, c, 9, rfl, by decide, by decide, d5, fun r1 H6 hr1 s6 d6 => ⟨_, _, rfl, rfl, by show 2 ≤ sizeLine; decide, fun t ht => ?_⟩⟩
      have s56 := s5.trans s6
      have sf := s56 _ _ nfo.1 nfo.2 g1
      have htf : t ≠ fo := (ne_of_none sf ht).symm
      have sft := upd_keep (u := .tup [.ref d, .int (2 + (r1 : Int))]) sf ht
      have su : Same H6 (upd H6 t (.tup [.ref d, .int (2 + (r1 : Int))])) := Same.upd ht
      refine ⟨_, rfl, _, rfl, fo, _, rfl, DPut.k (k := .inr x) sft (by unfold enKvs; rw [List.length_map, List.length_take, sizeLine_eq]; omega), ?_⟩
      have hfo0 : H1 fo = none := hfo
      refine ⟨Same2.updN (Same2.upd' (t1.trans s56) ht) hfo0, (d6.same su).upd nfo, ?_, ⟨_, _, rfl⟩, ?_, upF gt x ⟨t, d, S, 2 + (r1 : Int), 0, 0⟩, ?_, fun l hl => ?_⟩
      · have e1 := su _ _ (s56 _ _ nL.1 nL.2 tL1)
        rw [upd_ne (ne_of e1 sft (by intro z; cases z))]; exact e1
      · rw [upd_ne hlf]; exact su _ _ (s56 _ _ nlo.1 nlo.2 tlo)
      · rw [upd_same, ← en_put (e := ⟨t, d, S, 2 + (r1 : Int), 0, 0⟩) hTn hx]
      · by_cases hlx : l = x
        · rw [hlx, upF_same]
          exact ⟨TEn.updD ⟨upd_same, (hdraw.keep d5 s6).same su, by show 0 ≤ 2 + (r1 : Int); omega, by show 2 + (r1 : Int) ≤ 1000; omega⟩ sft hdfo, hdfo, hdlo⟩
        · rw [upF_ne hlx]
          rw [hx1] at hl
          have hl' := (List.mem_append.mp hl).resolve_right fun z => hlx (List.mem_singleton.mp z)
          obtain ⟨b1, b2, b3⟩ := g2 l hl'
          exact ⟨((b1.keep t2 s56).same su).updD sft b2, b2, b3⟩
    · rintro σ H3 ⟨t1, t2, tL1, ⟨x6, x7, rfl⟩, tlo, gt, g1, g2⟩
      rw [List.length_map, List.take_length] at g1 g2
      refine ⟨by show 6 ≤ sizeLine; decide, fun z3 hz3 => ?_⟩
      have sz3 : Same H3 (upd H3 z3 (.lst (cL.map V.str))) := Same.upd hz3
      have nz3 := t2.apart hz3
      refine ⟨_, rfl, _, rfl, _, _, rfl, rfl, h, c, 6, rfl, by decide, by decide, t2.same sz3, fun r4 H4 hr4 s4 d4 => ?_⟩
      have z4 := s4 _ _ nz3.1 nz3.2 upd_same
      refine ⟨_, rfl, z3, cL.map V.str, rfl, SqL.of z4, fun L2 hL2 => ?_⟩
      rw [cut_take (by show r4 ≤ 6; omega), ← List.map_take]
      have hCn : (cL.take r4).Nodup := nodup_cL.sublist (List.take_sublist _ _)
      have hCl : (cL.take r4).length ≤ 5 := by rw [List.length_take]; omega
      have nL2 := d4.apart hL2
      have sA : Same2 h c H3 H4 := (Same.s2 sz3).trans s4
      have sB : Same2 h c H1 (upd H4 L2 (.lst ((cL.take r4).map V.str))) := Same2.upd' (t1.trans sA) hL2
      refine ⟨L2, rfl, ⟨_, SqL.of upd_same⟩, ?_⟩
      refine for_it (walk_list (xs := (cL.take r4).map V.str)) (fun i σ H' => Same2 h c H1 H' ∧ Dr H' h c ∧ H' L2 = some (.lst ((cL.take r4).map V.str)) ∧ (∃ x6 x7, σ = [some (.ref h), some (.int 5), some (.int 5), some (.ref fa), some (.ref fo), some (.ref lo), x6, x7]) ∧
          H' fo = some (.dK (enKvs gt (tL.take r0))) ∧ (∀ l ∈ tL.take r0, TEn H' fs (gt l) ∧ (gt l).d ≠ fo ∧ (gt l).d ≠ lo) ∧
          ∃ gc : Str → En, H' lo = some (.dK (enKvs gc ((cL.take r4).take i))) ∧ ∀ l ∈ (cL.take r4).take i, CEn H' fs (gc l) ∧ (gc l).d ≠ fo ∧ (gc l).d ≠ lo)
        ⟨sB, d4.same (Same.upd hL2), upd_same, ⟨_, _, rfl⟩, upd_keep (sA _ _ nfo.1 nfo.2 g1) hL2, fun l hl => ⟨((g2 l hl).1.keep t2 sA).same (Same.upd hL2), (g2 l hl).2⟩, fun _ => ⟨0, 0, fun _ => [], 0, 0, 0⟩, upd_keep (sA _ _ nlo.1 nlo.2 tlo) hL2, fun l hl => by simp at hl⟩ (fun i σ H' _ z => SqL.of z.2.2.1) ?_ ?_
      · rintro i v σ H5 H6 hi ⟨u1, u2, uL, ⟨x6, x7, rfl⟩, ufo, ug, gc, k1, k2⟩ ⟨rfl, hv⟩
        obtain ⟨x, hx, rfl⟩ := get_map hv
        have hil : i < (cL.take r4).length := by simpa using hi
        have hx1 : (cL.take r4).take (i + 1) = (cL.take r4).take i ++ [x] := by rw [List.take_add_one, hx]; rfl
        refine ⟨by show 4 ≤ sizeLine; decide, fun z7 hz7 => ?_⟩
        have sz7 : Same H6 (upd H6 z7 (.lst [.int 0, .int 0, .int 1, .int 2])) := Same.upd hz7
        have nz7 := u2.apart hz7
        refine ⟨_, rfl, h, c, 4, rfl, by decide, by decide, u2.same sz7, fun r7 H7 hr7 s7 d7 => ?_⟩
        have z8 := s7 _ _ nz7.1 nz7.2 upd_same
        obtain ⟨sl, hsl, hsl0, hsl2⟩ : ∃ sl : Int, [V.int 0, V.int 0, V.int 1, V.int 2][r7]? = some (.int sl) ∧ 0 ≤ sl ∧ sl ≤ 2 := by
          have : r7 = 0 ∨ r7 = 1 ∨ r7 = 2 ∨ r7 = 3 := by omega
          rcases this with e | e | e | e <;> subst e
          · exact ⟨0, rfl, by decide, by decide⟩
          · exact ⟨0, rfl, by decide, by decide⟩
          · exact ⟨1, rfl, by decide, by decide⟩
          · exact ⟨2, rfl, by decide, by decide⟩
        refine ⟨z7, _, (r7 : Int), .int sl, rfl, rfl, SqL.of z8, atI_nat hsl, ?_⟩
        have sC : Same2 h c H6 H7 := (Same.s2 sz7).trans s7
        refine ⟨_, rfl, _, rfl, h, c, fa, fs, rfl, d7, fs2 (u1.trans sC), hok, fun d S H8 s8 d8 hdn hdraw => ?_⟩
        have hdlo : d ≠ lo := fun e => by rw [e, sC _ _ nlo.1 nlo.2 k1] at hdn; cases hdn
        have hdfo : d ≠ fo := fun e => by rw [e, sC _ _ nfo.1 nfo.2 ufo] at hdn; cases hdn
        refine ⟨_, rfl, h, c, 9, rfl, by decide, by decide, d8, fun r9 H9 hr9 s9 d9 => ?_⟩
        refine ⟨_, rfl, _, rfl, by show 2 ≤ sizeLine; decide, fun z10 hz10 => ?_⟩
        have sz10 : Same H9 (upd H9 z10 (.lst [.int 3, .int 9])) := Same.upd hz10
        have nz10 := d9.apart hz10
        refine ⟨_, rfl, h, c, 2, rfl, by decide, by decide, d9.same sz10, fun r11 H11 hr11 s11 d11 => ?_⟩
        have z11 := s11 _ _ nz10.1 nz10.2 upd_same
        obtain ⟨lm, hlm, hlm0, hlm2⟩ : ∃ lm : Nat, [V.int 3, V.int 9][r11]? = some (.int (lm : Int)) ∧ 1 ≤ lm ∧ lm ≤ 9 := by
          have : r11 = 0 ∨ r11 = 1 := by omega
          rcases this with e | e <;> subst e
          · exact ⟨3, rfl, by decide, by decide⟩
          · exact ⟨9, rfl, by decide, by decide⟩
        refine ⟨z10, _, (r11 : Int), .int (lm : Int), rfl, rfl, SqL.of z11, atI_nat hlm, h, c, lm, rfl, hlm0, by omega, d11, fun r12 H12 hr12 s12 d12 => ⟨_, _, rfl, rfl, by show 4 ≤ sizeLine; decide, fun t ht => ?_⟩⟩
        have sD : Same2 h c H8 H12 := ((s9.trans (Same.s2 sz10)).trans s11).trans s12
        have sE : Same2 h c H6 H12 := (sC.trans s8).trans sD
        have sl1 := sE _ _ nlo.1 nlo.2 k1
        have slt := upd_keep (u := .tup [.ref d, .int (r9 : Int), .int sl, .int (1 + (r12 : Int))]) sl1 ht
        have su : Same H12 (upd H12 t (.tup [.ref d, .int (r9 : Int), .int sl, .int (1 + (r12 : Int))])) := Same.upd ht
        refine ⟨_, rfl, _, rfl, lo, _, rfl, DPut.k (k := .inr x) slt (by unfold enKvs; rw [List.length_map, List.length_take, sizeLine_eq]; omega), ?_⟩
        refine ⟨Same2.updN (Same2.upd' (u1.trans sE) ht) hlo1, (d12.same su).upd nlo, ?_, ⟨_, _, rfl⟩, ?_, fun l hl => ⟨(((ug l hl).1.keep u2 sE).same su).updD slt (ug l hl).2.2, (ug l hl).2⟩, upF gc x ⟨t, d, S, (r9 : Int), sl, 1 + (r12 : Int)⟩, ?_, fun l hl => ?_⟩
        · have e1 := su _ _ (sE _ _ nL2.1 nL2.2 uL)
          rw [upd_ne (ne_of e1 slt (by intro z; cases z))]; exact e1
        · rw [upd_ne hlf.symm]; exact su _ _ (sE _ _ nfo.1 nfo.2 ufo)
        · rw [upd_same, ← en_put (e := ⟨t, d, S, (r9 : Int), sl, 1 + (r12 : Int)⟩) hCn hx]
        · by_cases hlx : l = x
          · rw [hlx, upF_same]
            exact ⟨CEn.updD ⟨upd_same, (hdraw.keep d8 sD).same su, ⟨by show (0 : Int) ≤ (r9 : Int); omega, by show (r9 : Int) ≤ 1000; omega⟩, ⟨hsl0, hsl2⟩, ⟨by show (1 : Int) ≤ 1 + (r12 : Int); omega, by show 1 + (r12 : Int) ≤ 1000; omega⟩⟩ slt hdlo, hdfo, hdlo⟩
          · rw [upF_ne hlx]
            rw [hx1] at hl
            have hl' := (List.mem_append.mp hl).resolve_right fun z => hlx (List.mem_singleton.mp z)
            obtain ⟨b1, b2, b3⟩ := k2 l hl'
            exact ⟨((b1.keep u2 sE).same su).updD slt b3, b2, b3⟩
      · rintro σ H5 ⟨u1, u2, uL, ⟨x6, x7, rfl⟩, ufo, ug, gc, k1, k2⟩
        rw [List.length_map, List.take_length] at k1 k2
        refine ⟨_, rfl, _, rfl, _, rfl, by show 3 ≤ sizeLine; decide, fun p hp => ?_⟩
        have sp : Same H5 (upd H5 p (.tup [.ref fa, .ref fo, .ref lo])) := Same.upd hp
        refine q p (tL.take r0) (cL.take r4) _ (Same2.upd' (s1.trans u1) hp) (u2.same sp) ⟨⟨fa, fo, lo, fs, gt, gc, upd_same, (fs2 u1).same sp, hok, sp _ _ ufo, sp _ _ k1, fun l hl => ⟨(ug l hl).1.same sp, (ug l hl).2⟩, fun l hl => ⟨(k2 l hl).1.same sp, (k2 l hl).2⟩, hlf.symm⟩, List.take_sublist _ _, List.take_sublist _ _, hTl, hCl⟩
end
end Lk
/-! Kd18 -/
namespace Lk
open PySem PySem.Spec PyProof.Rows L2
theorem eqv_strs : ∀ a b : List Str, PyData.eqvAll (a.map PyData.str) (b.map PyData.str) = decide (a = b)
  | [], [] => by simp [PyData.eqvAll]
  | [], _ :: _ => by simp [PyData.eqvAll]
  | _ :: _, [] => by simp [PyData.eqvAll]
  | x :: a, y :: b => by
    rw [List.map_cons, List.map_cons, PyData.eqvAll, eqv_strs a b, Bool.eq_iff_iff]
    simp [PyData.eqv]
def adOf : Option V → Addr
  | some (.ref a) => a
  | _ => 0
theorem uniq_key {α : Type} (key : α → Str) : ∀ L : List α, (L.map key).Nodup → ∀ a ∈ L, ∀ b ∈ L, key a = key b → a = b
  | [], _, a, ha, _, _, _ => by cases ha
  | x :: L, hn, a, ha, b, hb, e => by
    rw [List.map_cons, List.nodup_cons] at hn
    rcases List.mem_cons.mp ha with ea | ha
    · rcases List.mem_cons.mp hb with eb | hb
      · rw [ea, eb]
      · exact absurd (by rw [← ea, e]; exact List.mem_map_of_mem hb) hn.1
    · rcases List.mem_cons.mp hb with eb | hb
      · exact absurd (by rw [← eb, ← e]; exact List.mem_map_of_mem ha) hn.1
      · exact uniq_key key L hn.2 a ha b hb e
/-- C(..) of a class whose making leaves all as it was but the new thing -/
theorem make_same {H : Hp} {x dx C : Addr} (hx : H x = none) (hdx : H dx = none) (hne : dx ≠ x) : Same H (L2.upd (L2.upd H dx (.own x)) x (.ins C dx [])) ∧ (∀ H', SameX x (L2.upd (L2.upd H dx (.own x)) x (.ins C dx [])) H' → Same H H') := by
  have hx2 : L2.upd H dx (.own x) x = none := by rw [upd_ne hne.symm]; exact hx
  have s0 : Same H (L2.upd (L2.upd H dx (.own x)) x (.ins C dx [])) := Same.upd' (Same.upd hdx) hx2
  exact ⟨s0, fun H' sx b u e => sx b u (fun z => by rw [z, hx] at e; cases e) (s0 b u e)⟩
section
variable {P : Program} {w : World} {K : PySem.W.Frag} {mg : Str → Option Value} {base : Heap} {f : Addr}
theorem sc_lawNote : FnScope ["_law_catalog", "_law_features_here", "_law_sets_here", "_law_name", "_law_words"] ["_law_catalog", "_law_features_here", "_law_sets_here"] (defScope sLawNote) := ⟨rfl, rfl, rfl, by decide +kernel, rfl, by decide +kernel, by decide +kernel⟩
abbrev nm_lawNote : List Str := ["_law_catalog", "_law_features_here", "_law_sets_here", "_law_name", "_law_words"]
def spLawNote (K : PySem.W.Frag) : Sp := fun vs H Q _ => ∃ cat fa d fs S, vs = [.ref cat, .ref fa, .ref d] ∧ CatAt K H cat fs ∧ FsAt H fa fs ∧ fsOk fs ∧ DrawAt H d fs S ∧ ∀ n H', Same H H' → NoteAt K H' n cat fs S → Q (.ref n) H'
theorem ok_lawNote (F : Df K "_law_note" "_law_note" sLawNote f) (hm : mg "_law_note" = some (.ref f)) (Tx : Txt K mg) (cM : C8.Mak P w K mg base 4 "Note" (cNote K) (spNoteInit K) []) : C8.Cal P w K mg base 6 "_law_note" (spLawNote K) [] := by
  refine F.cal hm sc_lawNote (fun _ _ _ _ _ _ us hl => match us, hl with | [_, _, _], _ => rfl) (fun vs H Q E h => ?_) (fun cdv A outer s H vs Q E hr h => ?_)
  · obtain ⟨cat, fa, d, fs, S, rfl, _⟩ := h; rfl
  · obtain ⟨cat, fa, d, fs, S, rfl, hcat, hfs, hok, hdr, q⟩ := h
    refine ⟨_, pss_one (ps_ret (C8.pe_mk cM hr (by decide) (by rfl) (pa_cons (pv 0) (pa_cons (pe_callTy (call_dictP rfl) (by rfl) Tx.dict boot_dict (pa_cons
      (pe_lc (own := [("_law_name", 3), ("_law_words", 4)]) rfl sc_lawNote.nd (pi_tup (pv 1)) (blkOk_by (N := nm_lawNote) (sc := defScope sLawNote) (by decide +kernel)) (fun _ _ _ _ _ => pg_n2 K (i := 3) (j := 4) rfl rfl sc_lawNote.nd rfl rfl (Or.inl rfl) (Or.inl rfl) (Or.inr rfl) (Or.inr rfl))
        (fun _ _ _ _ _ => pts_one (pt_cmpR (op_neK K rfl hr.units) (pe_dget (hu_of hr) (pv 2) (pv 3) (fun _ _ => rfl)) (pv 4) (nomark _)))
        (fun _ _ _ _ _ => pe_tup (pa_cons (pv 3) (pa_cons (pe_dget (hu_of hr) (pv 2) (pv 3) (fun _ _ => rfl)) pa_nil)))) pa_nil)) pa_nil)))), ?_⟩
    obtain ⟨L, l1, rfl, l3⟩ := hfs.ex
    obtain ⟨kvs, k1, k2⟩ := hdr.ex
    have h6 : L.length ≤ 6 := by simpa using hok.2.1
    obtain ⟨wa, hwa⟩ : ∃ wa : Str → Addr, ∀ f ∈ L.map (·.2), valV kvs (.inr f.1) = some (.ref (wa f.1)) ∧ H (wa f.1) = some (.tup ((S f.1).map V.str)) := by
      refine ⟨fun n => adOf (valV kvs (.inr n)), fun f hf => ?_⟩
      obtain ⟨_, a, b, e⟩ := k2 f hf
      have ea : adOf (valV kvs (.inr f.1)) = a := by rw [b]; rfl
      show valV kvs (.inr f.1) = some (.ref (adOf (valV kvs (.inr f.1)))) ∧ H (adOf (valV kvs (.inr f.1))) = _
      rw [ea]; exact ⟨b, e⟩
    refine ⟨_, rfl, _, rfl, fa, rfl, ⟨_, SqT.of l1⟩, fun D hD => ?_⟩
    refine lc_it (walk_tup (xs := L.map fun p => V.ref p.1)) (fun i H' => Same H H' ∧ ∃ M : List (Addr × Str), H' D = some (.lst (M.map fun p => V.ref p.1)) ∧ M.map (·.2) = (((L.map (·.2)).take i).filter fun f => decide (S f.1 ≠ f.2)).map (·.1) ∧ ∀ p ∈ M, p.1 ≠ D ∧ H' p.1 = some (.tup [.str p.2, .ref (wa p.2)]))
      ⟨Same.upd hD, [], upd_same, rfl, fun p hp => by cases hp⟩ (fun i H' _ z => SqT.of (z.1 _ _ l1)) ?_ ?_
    · rintro i v H1 H2 hi ⟨s1, M, m1, m2, m3⟩ ⟨rfl, hv⟩
      obtain ⟨y, hy, rfl⟩ := get_map hv
      have hyf : y.2 ∈ L.map (·.2) := List.mem_map_of_mem (mem_of_get hy)
      obtain ⟨wb, g1, g2⟩ := (l3 y (mem_of_get hy)).ex
      obtain ⟨hset, _⟩ := k2 y.2 hyf
      obtain ⟨hv1, hv2⟩ := hwa y.2 hyf
      have hfy : ((L.map (·.2)).take (i + 1)) = (L.map (·.2)).take i ++ [y.2] := by rw [List.take_add_one, List.getElem?_map, hy]; rfl
      have hMl : M.length ≤ 6 := by
        have := congrArg List.length m2
        rw [List.length_map, List.length_map] at this
        have h9 := List.length_filter_le (fun f : Fe => decide (S f.1 ≠ f.2)) ((L.map (·.2)).take i)
        rw [List.length_take, List.length_map] at h9; omega
      refine ⟨y.1, _, rfl, SqT.of (s1 _ _ g1), rfl, _, _, rfl, _, _, rfl, rfl, rfl, ?_⟩
      refine ⟨_, rfl, _, rfl, d, _, rfl, hv1 ▸ DGet.k (k := .inr y.2.1) (s1 _ _ k1), _, rfl, ?_⟩
      have hfe := hok.2.2.1 y.2 hyf
      have sh : ∀ {zs : List Str}, (∀ x ∈ zs, wordOk x) → SeqAt.shaped (.tuple (zs.map PyData.str)) = true := fun {zs} hz => by
        unfold SeqAt.shaped
        have h1 := dep_strs zs
        rw [Bool.and_eq_true]
        exact ⟨by simp only [PyData.canLay0]; exact can_strs _ hz, decide_eq_true (by simp only [PyData.depth]; omega)⟩
      refine ⟨.tuple ((S y.2.1).map PyData.str), .tuple (y.2.2.map PyData.str), .tup (SqT.of (s1 _ _ hv2)) (dp_strs _), .tup (SqT.of (s1 _ _ g2)) (dp_strs _), sh fun x hx => hfe.2.2.2.1 x (hset.sub x hx), sh hfe.2.2.2.1, _, rfl, ?_⟩
      have ee : PyData.eqv (.tuple ((S y.2.1).map PyData.str)) (.tuple (y.2.2.map PyData.str)) = decide (S y.2.1 = y.2.2) := by rw [PyData.eqv, eqv_strs]
      rw [ee]
      by_cases he : S y.2.1 = y.2.2
      · rw [decide_eq_true he]
        refine iteF ⟨s1, M, m1, ?_, m3⟩
        rw [m2, hfy, List.filter_append]
        simp [he]
      · rw [decide_eq_false he]
        refine iteT ⟨_, rfl, _, rfl, _, rfl, d, _, rfl, hv1 ▸ DGet.k (k := .inr y.2.1) (s1 _ _ k1), by show 2 ≤ sizeLine; decide, fun t ht => ?_⟩
        have htD : t ≠ D := (ne_of_none m1 ht).symm
        refine ⟨_, upd_keep m1 ht, by rw [List.length_map, sizeLine_eq]; omega, Same.updN (Same.upd' s1 ht) hD, M ++ [(t, y.2.1)], by rw [upd_same]; simp, ?_, fun p hp => ?_⟩
        · rw [List.map_append, m2, hfy, List.filter_append]
          simp [he]
        · rcases List.mem_append.mp hp with z | z
          · obtain ⟨a1, a2⟩ := m3 p z
            exact ⟨a1, by rw [upd_ne a1]; exact upd_keep a2 ht⟩
          · rw [List.mem_singleton.mp z]
            exact ⟨htD, by rw [upd_ne htD]; exact upd_same⟩
    · rintro H1 ⟨s1, M, m1, m2, m3⟩
      rw [List.length_map, show (L.map (·.2)).take L.length = L.map (·.2) by rw [List.take_of_length_le (by simp)]] at m2
      have hnm : (M.map (·.2)).Nodup := by
        rw [m2]
        exact hok.2.2.2.sublist (List.filter_sublist.map _)
      have hpr : ∀ N : List (Addr × Str), (∀ p ∈ N, p ∈ M) → Paired (fun (p : Addr) (kv : Key × V) => SqT K H1 p [kV kv.1, kv.2]) (N.map fun p => p.1) (N.map fun p => ((Sum.inr p.2 : Key), V.ref (wa p.2))) := by
        intro N
        induction N with
        | nil => exact fun _ => .nil
        | cons p N ih =>
          intro hN
          exact .cons (SqT.of (m3 p (hN p List.mem_cons_self)).2) (ih fun x hx => hN x (List.mem_cons_of_mem _ hx))
      refine ⟨D, M.map fun (p : Addr × Str) => p.1, M.map fun (p : Addr × Str) => ((Sum.inr p.2 : Key), V.ref (wa p.2)), rfl, SqL.of (by rw [m1, List.map_map]; rfl), hpr M fun p hp => hp, fun t ht => ?_⟩
      have ekv : (M.map fun (p : Addr × Str) => ((Sum.inr p.2 : Key), V.ref (wa p.2))) = (M.map (·.2)).map fun n => ((Sum.inr n : Key), V.ref (wa n)) := by rw [List.map_map]; rfl
      rw [merge_new _ [] (by
        rw [List.nil_append, List.map_map]
        have e : ((fun kv : Key × V => kv.1) ∘ fun p : Addr × Str => ((Sum.inr p.2 : Key), V.ref (wa p.2))) = (fun s : Str => (Sum.inr s : Key)) ∘ fun p => p.2 := rfl
        rw [e, ← List.map_map]
        exact (List.pairwise_map.mpr (hnm.imp fun hne e => hne (by injection e)))), List.nil_append, ekv]
      have s2 := Same.upd' (o := .dK ((M.map (·.2)).map fun n => ((Sum.inr n : Key), V.ref (wa n)))) s1 ht
      intro x dx hx hdx hne
      obtain ⟨sm, sb⟩ := make_same (C := cNote K) hx hdx hne
      have s3 := s2.trans sm
      refine ⟨x, cat, t, dx, L.map (·.2), _, S, rfl, upd_same, hcat.same s3, hok, sm _ _ upd_same, fun kv hkv => ?_, fun f hf => ?_, fun H' sx hn => ⟨rfl, q x H' (s2.trans (sb H' sx)) hn⟩⟩
      · obtain ⟨n, hn, rfl⟩ := List.mem_map.mp hkv
        rw [m2] at hn
        obtain ⟨f, hf, rfl⟩ := List.mem_map.mp hn
        exact ⟨f, (List.mem_filter.mp hf).1, rfl⟩
      · obtain ⟨hset, _⟩ := k2 f hf
        obtain ⟨hv1, hv2⟩ := hwa f hf
        refine ⟨hset, ?_⟩
        rw [val_map (fun n => V.ref (wa n))]
        by_cases he : S f.1 = f.2
        · right
          refine ⟨if_neg fun hm => ?_, he⟩
          rw [m2] at hm
          obtain ⟨f', hf', e'⟩ := List.mem_map.mp hm
          obtain ⟨f1, f2⟩ := List.mem_filter.mp hf'
          have : f' = f := uniq_key (fun f : Fe => f.1) _ hok.2.2.2 f' f1 f hf e'
          rw [this] at f2
          simp [he] at f2
        · left
          exact ⟨wa f.1, if_pos (by rw [m2]; exact List.mem_map_of_mem (List.mem_filter.mpr ⟨hf, by simp [he]⟩)), s3 _ _ hv2⟩
end
end Lk
/-! Kd19 -/
namespace Lk
open PySem PySem.Spec PyProof.Rows L2
/-- the round of a drawing: notes and things by their addresses -/
def mkR (c : Addr) (fs : List Fe) (gt gc : Str → En) (st sc : Str → Addr × Addr) : Rnd :=
  ⟨c, fs, fun l => (st l).1, fun l => (st l).2, fun l => (gt l).S, fun l => (gt l).day, fun l => (sc l).1, fun l => (sc l).2, fun l => (gc l).S, fun l => (gc l).day, fun l => (gc l).slip⟩
def upA (g : Str → Addr × Addr) (x : Str) (e : Addr × Addr) : Str → Addr × Addr := fun l => if l = x then e else g l
theorem upA_same {g : Str → Addr × Addr} {x : Str} {e : Addr × Addr} : upA g x e x = e := if_pos rfl
theorem upA_ne {g : Str → Addr × Addr} {x l : Str} {e : Addr × Addr} (h : l ≠ x) : upA g x e l = g l := if_neg h
def adK (g : Str → Addr × Addr) (T : List Str) : List (Key × V) := T.map fun l => (.inr l, .ref (g l).1)
theorem ad_put {L : List Str} {g : Str → Addr × Addr} {i : Nat} {x : Str} {e : Addr × Addr} (hn : L.Nodup) (hx : L[i]? = some x) : putK (adK g (L.take i)) (.inr x) (.ref e.1) = adK (upA g x e) (L.take (i + 1)) := by
  have hni : x ∉ L.take i := by
    intro hm
    obtain ⟨j, hj, hj2⟩ := List.mem_take_iff_getElem.mp hm
    obtain ⟨hlt, hj3⟩ := List.getElem?_eq_some_iff.mp hx
    exact List.pairwise_iff_getElem.mp hn j i _ hlt (by omega) (hj2.trans hj3.symm)
  unfold adK
  rw [putK_new]
  · rw [List.take_add_one, hx, List.map_append]
    congr 1
    · refine List.map_congr_left fun y hy => ?_
      rw [upA_ne (fun z : y = x => hni (z ▸ hy))]
    · simp [upA_same]
  · rw [val_map (fun l => .ref (g l).1), if_neg hni]
theorem val_inl (g : Str → V) (z : Int) (L : List Str) : valV (L.map fun l => ((Sum.inr l : Key), g l)) (.inl z) = none := by
  unfold valV
  rw [Option.map_eq_none_iff, List.find?_eq_none]
  intro kv hkv
  obtain ⟨y, _, rfl⟩ := List.mem_map.mp hkv
  simp
/-- one thing, one claim, as they stand -/
structure ThA (K : PySem.W.Frag) (H : Hp) (c : Addr) (fs : List Fe) (e : En) (p : Addr × Addr) : Prop where
  ex : ∃ dx, H p.1 = some (.ins (cThing K) dx [("own_note", .ref p.2), ("own_day", .int e.day)])
  note : NoteAt K H p.2 c fs e.S
structure ClA (K : PySem.W.Frag) (H : Hp) (c : Addr) (fs : List Fe) (e : En) (p : Addr × Addr) : Prop where
  ex : ∃ dx, H p.1 = some (.ins (cClaim K) dx [("own_note", .ref p.2), ("own_day", .int e.day), ("own_slips", .int e.slip), ("own_worth", .int e.worth)])
  note : NoteAt K H p.2 c fs e.S
section
variable {K : PySem.W.Frag} {H H' : Hp} {c : Addr} {fs : List Fe} {e : En} {p : Addr × Addr}
theorem ThA.same (x : ThA K H c fs e p) (s : Same H H') : ThA K H' c fs e p := ⟨let ⟨dx, h⟩ := x.ex; ⟨dx, s _ _ h⟩, x.note.same s⟩
theorem ClA.same (x : ClA K H c fs e p) (s : Same H H') : ClA K H' c fs e p := ⟨let ⟨dx, h⟩ := x.ex; ⟨dx, s _ _ h⟩, x.note.same s⟩
/-- a dict of things changes: no note's own -/
theorem NoteAt.updT {n th : Addr} {S : Str → List Str} {k0 : List (Key × V)} {u : HO} (x : NoteAt K H n c fs S) (ht : H th = some (.dK k0)) (hv : ∀ k v, valV k0 k = some v → ∃ a u, v = .ref a ∧ H a = some u ∧ ∀ ws : List Str, u ≠ .tup (ws.map V.str)) (hne : fs ≠ []) : NoteAt K (upd H th u) n c fs S := by
  obtain ⟨dx, d, kvs, h1, h2, h3⟩ := x.ex
  have hd : d ≠ th := by
    rintro rfl
    rw [ht] at h2
    have ek : k0 = kvs := by injection h2 with h2; injection h2
    subst ek
    obtain ⟨f, r, rfl⟩ := List.exists_cons_of_ne_nil hne
    obtain ⟨_, wa, e1, e2⟩ := h3 f List.mem_cons_self
    obtain ⟨a, u, e3, e4, e5⟩ := hv _ _ e1
    injection e3 with e3
    subst e3
    rw [e4] at e2
    exact e5 _ (Option.some.inj e2)
  refine ⟨dx, d, kvs, by rw [upd_ne (ne_of h1 ht (by intro z; cases z))]; exact h1, by rw [upd_ne hd]; exact h2, fun f hf => ?_⟩
  obtain ⟨a, wa, b, e⟩ := h3 f hf
  exact ⟨a, wa, b, by rw [upd_ne (ne_of e ht (by intro z; cases z))]; exact e⟩
theorem ThA.updT {th : Addr} {k0 : List (Key × V)} {u : HO} (x : ThA K H c fs e p) (ht : H th = some (.dK k0)) (hv : ∀ k v, valV k0 k = some v → ∃ a u, v = .ref a ∧ H a = some u ∧ ∀ ws : List Str, u ≠ .tup (ws.map V.str)) (hne : fs ≠ []) : ThA K (upd H th u) c fs e p := by
  obtain ⟨dx, h⟩ := x.ex
  exact ⟨⟨dx, by rw [upd_ne (ne_of h ht (by intro z; cases z))]; exact h⟩, x.note.updT ht hv hne⟩
theorem ClA.updT {th : Addr} {k0 : List (Key × V)} {u : HO} (x : ClA K H c fs e p) (ht : H th = some (.dK k0)) (hv : ∀ k v, valV k0 k = some v → ∃ a u, v = .ref a ∧ H a = some u ∧ ∀ ws : List Str, u ≠ .tup (ws.map V.str)) (hne : fs ≠ []) : ClA K (upd H th u) c fs e p := by
  obtain ⟨dx, h⟩ := x.ex
  exact ⟨⟨dx, by rw [upd_ne (ne_of h ht (by intro z; cases z))]; exact h⟩, x.note.updT ht hv hne⟩
/-- a locked dict is let go -/
theorem NoteAt.unf {n fo : Addr} {S : Str → List Str} {od : Obj} {u u' : HO} (x : NoteAt K H n c fs S) (hf : H fo = some (.frz od u)) : NoteAt K (upd H fo u') n c fs S := by
  have ne : ∀ {b o}, H b = some o → (∀ a z, o ≠ .frz a z) → b ≠ fo := fun e hn z => by rw [z, hf] at e; exact hn _ _ (Option.some.inj e).symm
  obtain ⟨dx, d, kvs, h1, h2, h3⟩ := x.ex
  refine ⟨dx, d, kvs, by rw [upd_ne (ne h1 (by intro a z q; cases q))]; exact h1, by rw [upd_ne (ne h2 (by intro a z q; cases q))]; exact h2, fun f hff => ?_⟩
  obtain ⟨a, wa, b, e⟩ := h3 f hff
  exact ⟨a, wa, b, by rw [upd_ne (ne e (by intro a z q; cases q))]; exact e⟩
theorem ThA.unf {fo : Addr} {od : Obj} {u u' : HO} (x : ThA K H c fs e p) (hf : H fo = some (.frz od u)) : ThA K (upd H fo u') c fs e p := by
  obtain ⟨dx, h⟩ := x.ex
  exact ⟨⟨dx, by rw [upd_ne (ne_of h hf (by intro z; cases z))]; exact h⟩, x.note.unf hf⟩
theorem ClA.unf {fo : Addr} {od : Obj} {u u' : HO} (x : ClA K H c fs e p) (hf : H fo = some (.frz od u)) : ClA K (upd H fo u') c fs e p := by
  obtain ⟨dx, h⟩ := x.ex
  exact ⟨⟨dx, by rw [upd_ne (ne_of h hf (by intro z; cases z))]; exact h⟩, x.note.unf hf⟩
end
/-- a dict is locked: what leans on other dicts stands -/
theorem DrawAt.lock {H : Hp} {d fo : Addr} {fs : List Fe} {S : Str → List Str} {k0 : List (Key × V)} {u : HO} (x : DrawAt H d fs S) (hf : H fo = some (.dK k0)) (hne : d ≠ fo) : DrawAt (upd H fo u) d fs S := by
  obtain ⟨kvs, h1, h2⟩ := x.ex
  refine ⟨kvs, by rw [upd_ne hne]; exact h1, fun f h => ?_⟩
  obtain ⟨a, wa, b, e⟩ := h2 f h
  exact ⟨a, wa, b, by rw [upd_ne (ne_of e hf (by intro z; cases z))]; exact e⟩
section
variable {P : Program} {w : World} {K : PySem.W.Frag} {mg : Str → Option Value} {base : Heap} {f : Addr}
theorem sc_lawOffice : FnScope ["_law_drawn_here", "_law_features_here", "_law_found", "_law_lost", "_law_catalog", "_law_things", "_law_claims", "_law_label", "_law_sets_here", "_law_day", "_law_slip", "_law_value"] ["_law_drawn_here"] (defScope sLawOffice) := ⟨rfl, rfl, rfl, by decide +kernel, rfl, by decide +kernel, by decide +kernel⟩
abbrev nm_lawOffice : List Str := ["_law_drawn_here", "_law_features_here", "_law_found", "_law_lost", "_law_catalog", "_law_things", "_law_claims", "_law_label", "_law_sets_here", "_law_day", "_law_slip", "_law_value"]
theorem pg_n3 {X : Cx} (Kf : PySem.W.Frag) {pos p1 p2 p3 : Pos} {i1 i2 i3 k : Nat} {x1 x2 x3 : Str} (hK : X.K = Kf) (hc : X.calm = true) (hN : X.N.Nodup) (h1 : X.N[i1]? = some x1) (h2 : X.N[i2]? = some x2) (h3 : X.N[i3]? = some x3)
    (l1 : X.env.scope.names.lookup x1 = some .local) (l2 : X.env.scope.names.lookup x2 = some .local) (l3 : X.env.scope.names.lookup x3 = some .local) :
    PG X (.Tuple [.Name x1 p1, .Name x2 p2, .Name x3 p3] k pos) (gTup Kf 3 (gCons (gName i1) (gCons (gName i2) (gCons (gName i3) gNil)))) := by
  subst hK
  exact pg_tup hc (pgs_cons (pg_name hN h1 (.inl l1) (.inr l1)) (pgs_cons (pg_name hN h2 (.inl l2) (.inr l2)) (pgs_cons (pg_name hN h3 (.inl l3) (.inr l3)) pgs_nil)))
def spLawOffice (K : PySem.W.Frag) : Sp := fun vs H Q _ => ∃ p T C, vs = [.ref p] ∧ DrawnAt H p T C ∧ ∀ o R H', Same H H' → OffAt K H' R o T C → (∀ dx a b cc, H' o = some (.ins (cOff K) dx [("own_catalog", cc), ("found", .ref a), ("lost", .ref b)]) → H a = none ∧ H b = none) → Q (.ref o) H'
theorem ok_lawOffice (F : Df K "_law_office" "_law_office" sLawOffice f) (hm : mg "_law_office" = some (.ref f)) (Tx : Txt K mg) (cCt : C8.Mak P w K mg base 3 "Catalog" (cCat K) (spCatInit K) []) (cTh : C8.Mak P w K mg base 2 "Thing" (cThing K) (spThingInit K) [])
    (cCl : C8.Mak P w K mg base 2 "Claim" (cClaim K) (spClaimInit K) []) (cN : C8.Cal P w K mg base 6 "_law_note" (spLawNote K) []) (cO : C8.Mak P w K mg base 5 "Office" (cOff K) (spOffInit K) []) : C8.Cal P w K mg base 7 "_law_office" (spLawOffice K) [] := by
  refine F.cal hm sc_lawOffice (fun _ _ _ _ _ _ us hl => match us, hl with | [_], _ => rfl) (fun vs H Q E h => ?_) (fun cdv A outer s H vs Q E hr h => ?_)
  · obtain ⟨p, T, C, rfl, _⟩ := h; rfl
  · obtain ⟨p, T, C, rfl, hd, q⟩ := h
    refine ⟨_, pss_cons (ps_asg (pv 0) (pg_n3 K (i1 := 1) (i2 := 2) (i3 := 3) rfl rfl sc_lawOffice.nd rfl rfl rfl rfl rfl rfl))
      (pss_cons (ps_par3 (i := 4) (j := 5) (l := 6) (by rfl) sc_lawOffice.nd rfl rfl rfl (by decide) (by decide) (by decide) rfl rfl rfl (pa_cons (C8.pe_mk cCt hr (by decide) (by rfl) (pa_cons (pv 1) pa_nil)) (pa_cons pe_dnewK (pa_cons pe_dnewK pa_nil))) (by rfl))
      (pss_cons (ps_lock (ps_for PassesOwn.never rfl (pi_keys (pv 2)) (pg_name (i := 7) sc_lawOffice.nd rfl (Or.inl rfl))
        (pss_one (ps_dput (hu_of hr) (pv 5) (pv 7) (C8.pe_mk cTh hr (by decide) (by rfl) (pa_cons (C8.pe_c cN hr (by decide) (by rfl) (pa_cons (pv 4) (pa_cons (pv 1) (pa_cons (pe_ix ix_tup (pe_dget (hu_of hr) (pv 2) (pv 7) (fun _ _ => rfl)) pe_int (fun _ _ => rfl)) pa_nil))))
          (pa_cons (pe_ix ix_tup (pe_dget (hu_of hr) (pv 2) (pv 7) (fun _ _ => rfl)) pe_int (fun _ _ => rfl)) pa_nil))) rfl))))
      (pss_cons (ps_lock (ps_for PassesOwn.never rfl (pi_keys (pv 3)) (pg_name (i := 7) sc_lawOffice.nd rfl (Or.inl rfl))
        (pss_cons (ps_asg (pe_dget (hu_of hr) (pv 3) (pv 7) (fun _ _ => rfl)) (pg_n4 K (i1 := 8) (i2 := 9) (i3 := 10) (i4 := 11) rfl rfl sc_lawOffice.nd rfl rfl rfl rfl rfl rfl rfl rfl))
        (pss_one (ps_dput (hu_of hr) (pv 6) (pv 7) (C8.pe_mk cCl hr (by decide) (by rfl) (pa_cons (C8.pe_c cN hr (by decide) (by rfl) (pa_cons (pv 4) (pa_cons (pv 1) (pa_cons (pv 8) pa_nil)))) (pa_cons (pv 9) (pa_cons (pv 10) (pa_cons (pv 11) pa_nil))))) rfl)))))
      (pss_one (ps_ret (C8.pe_mk cO hr (by decide) (by rfl) (pa_cons (pv 4) (pa_cons (pv 5) (pa_cons (pv 6) pa_nil))))))))), ?_⟩
    obtain ⟨fa, fo, lo, fs, gt, gc, h1, h2, h3, h4, h5, h6, h7, h8⟩ := hd.ex
    have hlab := hd.lab
    have hTn : T.Nodup := nodup_tL.sublist hlab.t
    have hCn : C.Nodup := nodup_cL.sublist hlab.c
    have hTl := hlab.tlen
    have hCl := hlab.clen
    refine ⟨_, rfl, p, _, rfl, SqT.of h1, rfl, _, _, rfl, _, _, rfl, _, _, rfl, rfl, ?_⟩
    refine ⟨_, rfl, ?_⟩
    intro c cdx hc hcdx hcne
    obtain ⟨sm, sb⟩ := make_same (C := cCat K) hc hcdx hcne
    refine ⟨c, fa, cdx, fs, rfl, upd_same, h2.same sm, h3, fun H1 sx hc1 => ⟨rfl, ?_⟩⟩
    have s1 : Same H H1 := sb H1 sx
    have hcat : CatAt K H1 c fs := ⟨cdx, fa, hc1, h2.same s1⟩
    intro th hth
    intro cl hcl
    refine ⟨_, _, _, rfl, ?_⟩
    have hct : cl ≠ th := fun e => by rw [e, upd_same] at hcl; cases hcl
    have s2 : Same H1 (upd (upd H1 th (.dK [])) cl (.dK [])) := Same.upd' (Same.upd hth) hcl
    have hcl1 : H1 cl = none := by rw [upd_ne hct] at hcl; exact hcl
    have s02 := s1.trans s2
    have hfo2 := s02 _ _ h4
    have hlo2 := s02 _ _ h5
    have thfo : th ≠ fo := fun e => by rw [e, s1 _ _ h4] at hth; cases hth
    have thlo : th ≠ lo := fun e => by rw [e, s1 _ _ h5] at hth; cases hth
    have clfo : cl ≠ fo := fun e => by rw [e, s1 _ _ h4] at hcl1; cases hcl1
    have cllo : cl ≠ lo := fun e => by rw [e, s1 _ _ h5] at hcl1; cases hcl1
    -- the base of the first loop
    refine gen_seq (fun Hb => Same H1 Hb ∧ Hb th = some (.dK []) ∧ Hb cl = some (.dK [])) ⟨s2, by rw [upd_ne hct.symm]; exact upd_same, upd_same⟩ ?_
    rintro Hb ⟨sb1, bth, bcl⟩
    have sHb := s1.trans sb1
    have bfo := sHb _ _ h4
    have blo := sHb _ _ h5
    refine ⟨fo, _, bfo, trivial, fun od => ?_⟩
    refine ⟨_, rfl, fo, od, rfl, .inl ⟨_, upd_same, ?_⟩⟩
    refine for_it walk_keys (fun i σ H' => (∀ b u, b ≠ fo → b ≠ th → Hb b = some u → H' b = some u) ∧ H' fo = some (.frz od (.dK (enKvs gt T))) ∧ (∃ x7 x8 x9 x10 x11, σ = [some (.ref p), some (.ref fa), some (.ref fo), some (.ref lo), some (.ref c), some (.ref th), some (.ref cl), x7, x8, x9, x10, x11]) ∧
        ∃ st : Str → Addr × Addr, H' th = some (.dK (adK st (T.take i))) ∧ ∀ l ∈ T.take i, ThA K H' c fs (gt l) (st l))
      ⟨fun b u e1 _ e => by rw [upd_ne e1]; exact e, upd_same, ⟨_, _, _, _, _, rfl⟩, fun _ => (0, 0), by rw [upd_ne thfo]; exact bth, fun l hl => by simp at hl⟩ (fun i σ H' _ z => z.2.1) ?_ ?_
    · rintro i v σ H2 H3 hi ⟨t1, t2, ⟨x7, x8, x9, x10, x11, rfl⟩, st, t3, t4⟩ ⟨rfl, k, u, hg, rfl⟩
      unfold enKvs at hg
      obtain ⟨l, hl, e⟩ := get_map hg
      cases e
      have hlT := mem_of_get hl
      have hil : i < T.length := (List.getElem?_eq_some_iff.mp hl).1
      obtain ⟨en, ed1, ed2⟩ := h6 l hlT
      have kp : ∀ {b u}, H b = some u → b ≠ fo → b ≠ th → H3 b = some u := fun e a b => t1 _ _ a b (sHb _ _ e)
      have kpt : ∀ {b xs}, H b = some (.tup xs) → H3 b = some (.tup xs) := fun e => kp e (ne_of e h4 (by intro z; cases z)) (fun z => by rw [z] at e; rw [s1 _ _ e] at hth; cases hth)
      have gv : valV (enKvs gt T) (.inr l) = some (.ref (gt l).v) := by unfold enKvs; rw [val_map (fun l => .ref (gt l).v), if_pos hlT]
      have hfa3 : FsAt H3 fa fs := by
        obtain ⟨L, a1, a2, a3⟩ := h2.ex
        refine ⟨L, kpt a1, a2, fun p hp => ?_⟩
        obtain ⟨wa, a4, a5⟩ := (a3 p hp).ex
        exact ⟨wa, kpt a4, kpt a5⟩
      have hdr3 : DrawAt H3 (gt l).d fs (gt l).S := by
        obtain ⟨kvs, a1, a2⟩ := en.d.ex
        have nth : (gt l).d ≠ th := fun z => by rw [z] at a1; rw [s1 _ _ a1] at hth; cases hth
        refine ⟨kvs, kp a1 ed1 nth, fun f hf => ?_⟩
        obtain ⟨b1, wa, b2, b3⟩ := a2 f hf
        exact ⟨b1, wa, b2, kpt b3⟩
      have hcat3 : CatAt K H3 c fs := ⟨cdx, fa, t1 _ _ (ne_of (sb1 _ _ hc1) bfo (by intro z; cases z)) (ne_of (sb1 _ _ hc1) bth (by intro z; cases z)) (sb1 _ _ hc1), hfa3⟩
      have hv3 := kpt en.v
      have dg : DGet H3 fo (.str l) (some (.ref (gt l).v)) := .inl ⟨_, .inr l, .inr ⟨od, t2⟩, rfl, gv.symm⟩
      refine ⟨_, rfl, _, rfl, _, rfl, _, rfl, fo, _, rfl, dg, (gt l).v, _, 0, _, rfl, rfl, SqT.of hv3, rfl, c, fa, (gt l).d, fs, (gt l).S, rfl, hcat3, hfa3, h3, hdr3, fun n H4 s4 hn4 => ?_⟩
      have dg4 : DGet H4 fo (.str l) (some (.ref (gt l).v)) := .inl ⟨_, .inr l, .inr ⟨od, s4 _ _ t2⟩, rfl, gv.symm⟩
      refine ⟨_, rfl, _, rfl, fo, _, rfl, dg4, (gt l).v, _, 1, _, rfl, rfl, SqT.of (s4 _ _ hv3), rfl, ?_⟩
      intro x dx hx hdx hne
      obtain ⟨sm2, sb2⟩ := make_same (C := cThing K) hx hdx hne
      refine ⟨x, n, (gt l).day, dx, rfl, upd_same, en.b.1, by have := en.b.2; omega, fun H5 sx5 hx5 => ⟨rfl, ?_⟩⟩
      have s5 := sb2 H5 sx5
      have s35 := s4.trans s5
      have e5 := s35 _ _ t3
      have hxth : x ≠ th := ne_of hx5 e5 (by intro z; cases z)
      refine ⟨_, rfl, _, rfl, th, _, rfl, DPut.k (k := .inr l) e5 (by unfold adK; rw [List.length_map, List.length_take, sizeLine_eq]; omega), ?_⟩
      have hv5 : ∀ k v, valV (adK st (T.take i)) k = some v → ∃ a u, v = .ref a ∧ H5 a = some u ∧ ∀ ws : List Str, u ≠ .tup (ws.map V.str) := by
        intro k v hk
        cases k with
        | inl z => 
          rw [show valV (adK st (T.take i)) (.inl z) = none from val_inl _ _ _] at hk; cases hk
        | inr y =>
          unfold adK at hk
          rw [val_map (fun l => .ref (st l).1)] at hk
          by_cases hy : y ∈ T.take i
          · rw [if_pos hy] at hk
            cases hk
            obtain ⟨ddx, he⟩ := (t4 y hy).ex
            exact ⟨_, _, rfl, s35 _ _ he, by intro ws z; cases z⟩
          · rw [if_neg hy] at hk; cases hk
      refine ⟨fun b u b1 b2 e => by rw [upd_ne b2]; exact s35 _ _ (t1 b u b1 b2 e), by rw [upd_ne thfo.symm]; exact s35 _ _ t2, ⟨_, _, _, _, _, rfl⟩, upA st l (x, n), by rw [upd_same, ← ad_put (e := (x, n)) hTn hl], fun y hy => ?_⟩
      by_cases hyl : y = l
      · rw [hyl, upA_same]
        exact ThA.updT ⟨⟨dx, hx5⟩, hn4.same s5⟩ e5 hv5 h3.1
      · rw [upA_ne hyl]
        rw [List.take_add_one, hl] at hy
        have hy' := (List.mem_append.mp hy).resolve_right fun z => hyl (List.mem_singleton.mp z)
        exact ((t4 y hy').same s35).updT e5 hv5 h3.1
    · rintro σ H2 ⟨t1, t2, ⟨x7, x8, x9, x10, x11, rfl⟩, st, t3, t4⟩
      have e1 : T.take (enKvs gt T).length = T := by unfold enKvs; rw [List.length_map, List.take_length]
      rw [e1] at t3 t4
      refine ⟨t2, ?_⟩
      refine gen_seq (fun Hb2 => (∀ b u, b ≠ th → Hb b = some u → Hb2 b = some u) ∧ Hb2 th = some (.dK (adK st T)) ∧ ∀ l ∈ T, ThA K Hb2 c fs (gt l) (st l)) ⟨fun b u b2 e => ?_, by rw [upd_ne thfo]; exact t3, fun l hl => (t4 l hl).unf t2⟩ ?_
      · by_cases hb : b = fo
        · rw [hb, upd_same]; rw [hb, bfo] at e; exact e
        · rw [upd_ne hb]; exact t1 b u hb b2 e
      clear t1 t2 t3 t4
      rintro Hb2 ⟨r1, r2, r3⟩
      have lo2 := r1 _ _ thlo.symm blo
      have cl2 := r1 _ _ hct bcl
      refine ⟨lo, _, lo2, trivial, fun od => ?_⟩
      refine ⟨_, rfl, lo, od, rfl, .inl ⟨_, upd_same, ?_⟩⟩
      refine for_it walk_keys (fun i σ H' => (∀ b u, b ≠ lo → b ≠ cl → Hb2 b = some u → H' b = some u) ∧ H' lo = some (.frz od (.dK (enKvs gc C))) ∧ (∃ x7 x8 x9 x10 x11, σ = [some (.ref p), some (.ref fa), some (.ref fo), some (.ref lo), some (.ref c), some (.ref th), some (.ref cl), x7, x8, x9, x10, x11]) ∧
          (∀ l ∈ T, ThA K H' c fs (gt l) (st l)) ∧ ∃ sc : Str → Addr × Addr, H' cl = some (.dK (adK sc (C.take i))) ∧ ∀ l ∈ C.take i, ClA K H' c fs (gc l) (sc l))
        ⟨fun b u e1 _ e => by rw [upd_ne e1]; exact e, upd_same, ⟨_, _, _, _, _, rfl⟩, fun l hl => ?_, fun _ => (0, 0), by rw [upd_ne cllo]; exact cl2, fun l hl => by simp at hl⟩ (fun i σ H' _ z => z.2.1) ?_ ?_
      · refine (r3 l hl).updT lo2 (fun k v hk => ?_) h3.1
        cases k with
        | inl z => rw [show valV (enKvs gc C) (.inl z) = none from val_inl _ _ _] at hk; cases hk
        | inr y =>
          unfold enKvs at hk
          rw [val_map (fun l => .ref (gc l).v)] at hk
          by_cases hy : y ∈ C
          · rw [if_pos hy] at hk
            cases hk
            have hv := (h7 y hy).1.v
            have hv2 := r1 _ _ (fun z => by rw [z] at hv; rw [s1 _ _ hv] at hth; cases hth) (sHb _ _ hv)
            refine ⟨_, _, rfl, hv2, fun ws z => ?_⟩
            injection z with z
            cases ws with
            | nil => cases z
            | cons a b => injection z with z _; cases z
          · rw [if_neg hy] at hk; cases hk
      · rintro i v σ H3 H4 hi ⟨t1, t2, ⟨x7, x8, x9, x10, x11, rfl⟩, tT, sc, t3, t4⟩ ⟨rfl, k, u, hg, rfl⟩
        unfold enKvs at hg
        obtain ⟨l, hl, e⟩ := get_map hg
        cases e
        have hlC := mem_of_get hl
        have hil : i < C.length := (List.getElem?_eq_some_iff.mp hl).1
        obtain ⟨en, ed1, ed2⟩ := h7 l hlC
        have kp : ∀ {b u}, H b = some u → b ≠ lo → H4 b = some u := fun e a => by
          have nth : ∀ {b u}, H b = some u → b ≠ th := fun e z => by rw [z] at e; rw [s1 _ _ e] at hth; cases hth
          have ncl : ∀ {b u}, H b = some u → b ≠ cl := fun e z => by rw [z] at e; rw [s1 _ _ e] at hcl1; cases hcl1
          exact t1 _ _ a (ncl e) (r1 _ _ (nth e) (sHb _ _ e))
        have kpt : ∀ {b xs}, H b = some (.tup xs) → H4 b = some (.tup xs) := fun e => kp e (ne_of e h5 (by intro z; cases z))
        have gv : valV (enKvs gc C) (.inr l) = some (.ref (gc l).v) := by unfold enKvs; rw [val_map (fun l => .ref (gc l).v), if_pos hlC]
        have hfa3 : FsAt H4 fa fs := by
          obtain ⟨L, a1, a2, a3⟩ := h2.ex
          refine ⟨L, kpt a1, a2, fun p hp => ?_⟩
          obtain ⟨wa, a4, a5⟩ := (a3 p hp).ex
          exact ⟨wa, kpt a4, kpt a5⟩
        have hdr3 : DrawAt H4 (gc l).d fs (gc l).S := by
          obtain ⟨kvs, a1, a2⟩ := en.d.ex
          refine ⟨kvs, kp a1 ed2, fun f hf => ?_⟩
          obtain ⟨b1, wa, b2, b3⟩ := a2 f hf
          exact ⟨b1, wa, b2, kpt b3⟩
        have hc1b := sb1 _ _ hc1
        have hcat3 : CatAt K H4 c fs := ⟨cdx, fa, t1 _ _ (ne_of hc1b blo (by intro z; cases z)) (ne_of hc1b bcl (by intro z; cases z)) (r1 _ _ (ne_of hc1b bth (by intro z; cases z)) hc1b), hfa3⟩
        have hv3 := kpt en.v
        have dg : DGet H4 lo (.str l) (some (.ref (gc l).v)) := .inl ⟨_, .inr l, .inr ⟨od, t2⟩, rfl, gv.symm⟩
        refine ⟨_, rfl, _, rfl, lo, _, rfl, dg, (gc l).v, _, rfl, SqT.of hv3, rfl, _, _, rfl, _, _, rfl, _, _, rfl, _, _, rfl, rfl, ?_⟩
        refine ⟨_, rfl, _, rfl, _, rfl, c, fa, (gc l).d, fs, (gc l).S, rfl, hcat3, hfa3, h3, hdr3, fun n H5 s5 hn5 => ?_⟩
        refine ⟨_, rfl, _, rfl, _, rfl, ?_⟩
        intro x dx hx hdx hne
        obtain ⟨sm2, sb2⟩ := make_same (C := cClaim K) hx hdx hne
        refine ⟨x, n, (gc l).day, (gc l).slip, (gc l).worth, dx, rfl, upd_same, en.b.1, by have := en.b.2; omega, en.s.1, en.s.2, en.w.1, by have := en.w.2; omega, fun H6 sx6 hx6 => ⟨rfl, ?_⟩⟩
        have s6 := sb2 H6 sx6
        have s46 := s5.trans s6
        have e6 := s46 _ _ t3
        refine ⟨_, rfl, _, rfl, cl, _, rfl, DPut.k (k := .inr l) e6 (by unfold adK; rw [List.length_map, List.length_take, sizeLine_eq]; omega), ?_⟩
        have hv6 : ∀ k v, valV (adK sc (C.take i)) k = some v → ∃ a u, v = .ref a ∧ H6 a = some u ∧ ∀ ws : List Str, u ≠ .tup (ws.map V.str) := by
          intro k v hk
          cases k with
          | inl z => rw [show valV (adK sc (C.take i)) (.inl z) = none from val_inl _ _ _] at hk; cases hk
          | inr y =>
            unfold adK at hk
            rw [val_map (fun l => .ref (sc l).1)] at hk
            by_cases hy : y ∈ C.take i
            · rw [if_pos hy] at hk
              cases hk
              obtain ⟨ddx, he⟩ := (t4 y hy).ex
              exact ⟨_, _, rfl, s46 _ _ he, by intro ws z; cases z⟩
            · rw [if_neg hy] at hk; cases hk
        refine ⟨fun b u b1 b2 e => by rw [upd_ne b2]; exact s46 _ _ (t1 b u b1 b2 e), by rw [upd_ne cllo.symm]; exact s46 _ _ t2, ⟨_, _, _, _, _, rfl⟩, fun y hy => ((tT y hy).same s46).updT e6 hv6 h3.1, upA sc l (x, n), by rw [upd_same, ← ad_put (e := (x, n)) hCn hl], fun y hy => ?_⟩
        by_cases hyl : y = l
        · rw [hyl, upA_same]
          exact ClA.updT ⟨⟨dx, hx6⟩, hn5.same s6⟩ e6 hv6 h3.1
        · rw [upA_ne hyl]
          rw [List.take_add_one, hl] at hy
          have hy' := (List.mem_append.mp hy).resolve_right fun z => hyl (List.mem_singleton.mp z)
          exact ((t4 y hy').same s46).updT e6 hv6 h3.1
      · rintro σ H3 ⟨t1, t2, ⟨x7, x8, x9, x10, x11, rfl⟩, tT, sc, t3, t4⟩
        have e1 : C.take (enKvs gc C).length = C := by unfold enKvs; rw [List.length_map, List.take_length]
        rw [e1] at t3 t4
        refine ⟨t2, ?_⟩
        have sAll : ∀ b u, b ≠ th → b ≠ cl → Hb b = some u → upd H3 lo (.dK (enKvs gc C)) b = some u := fun b u b1 b2 e => by
          by_cases hb : b = lo
          · rw [hb, upd_same]; rw [hb, blo] at e; exact e
          · rw [upd_ne hb]; exact t1 b u hb b2 (r1 b u b1 e)
        have sH : Same H (upd H3 lo (.dK (enKvs gc C))) := fun b u e => sAll b u (fun z => by rw [z] at e; rw [s1 _ _ e] at hth; cases hth) (fun z => by rw [z] at e; rw [s1 _ _ e] at hcl1; cases hcl1) (sHb b u e)
        have hc1b := sb1 _ _ hc1
        have hcF : CatAt K (upd H3 lo (.dK (enKvs gc C))) c fs := ⟨cdx, fa, sAll _ _ (ne_of hc1b bth (by intro z; cases z)) (ne_of hc1b bcl (by intro z; cases z)) hc1b, h2.same sH⟩
        have thF : upd H3 lo (.dK (enKvs gc C)) th = some (.dK (adK st T)) := by rw [upd_ne thlo]; exact t1 _ _ thlo hct.symm r2
        have clF : upd H3 lo (.dK (enKvs gc C)) cl = some (.dK (adK sc C)) := by rw [upd_ne cllo]; exact t3
        refine ⟨_, rfl, _, rfl, _, rfl, ?_⟩
        intro x dx hx hdx hne
        obtain ⟨sm2, sb2⟩ := make_same (C := cOff K) hx hdx hne
        have hT : ∀ l ∈ T, ThingAt K (upd H3 lo (.dK (enKvs gc C))) (mkR c fs gt gc st sc) l := fun l hl => by
          have := (tT l hl).unf t2 (u' := .dK (enKvs gc C))
          exact ⟨this.ex, this.note⟩
        have hC : ∀ l ∈ C, ClaimAt K (upd H3 lo (.dK (enKvs gc C))) (mkR c fs gt gc st sc) l := fun l hl => by
          have := (t4 l hl).unf t2 (u' := .dK (enKvs gc C))
          obtain ⟨ddx, he⟩ := this.ex
          exact ⟨⟨ddx, _, he⟩, this.note⟩
        refine ⟨mkR c fs gt gc st sc, x, th, cl, dx, T, C, rfl, upd_same, sm2 _ _ thF, sm2 _ _ clF, hcF.same sm2, h3, fun l hl => (hT l hl).same sm2, fun l hl => (hC l hl).same sm2, hlab, fun H4 sx hex => ⟨rfl, ?_⟩⟩
        have s4 := sb2 H4 sx
        obtain ⟨xdx, xf, xl, x1, x2, x3, x4, x5⟩ := hex
        refine q x (mkR c fs gt gc st sc) H4 (sH.trans s4) ⟨⟨xdx, xf, xl, x1, x2, x3⟩, hcF.same s4, h3, fun l hl => (hT l hl).same s4, fun l hl => (hC l hl).same s4, hlab⟩ fun ddx a b cc e => ?_
        rw [x1] at e
        injection e with e
        injection e with _ _ e
        injection e with e1 e
        injection e with e2 e
        injection e with e3 e
        injection e2 with _ e2
        injection e3 with _ e3
        injection e2 with e2
        injection e3 with e3
        subst e2; subst e3
        exact ⟨none_of sH (none_of sm2 x4), none_of sH (none_of sm2 x5)⟩
end
end Lk
/-! Kd20 -/
namespace Lk
open PySem PySem.Spec PyProof.Rows L2
section
variable {P : Program} {w : World} {K : PySem.W.Frag} {mg : Str → Option Value} {base : Heap} {f : Addr}
theorem sc_pairRight : FnScope ["_law_office_here", "_law_claim", "_law_thing", "_law_most", "_law_word", "_law_loss", "_law_count"] ["_law_office_here", "_law_claim", "_law_thing", "_law_most"] (defScope sLawPairRight) := ⟨rfl, rfl, rfl, by decide +kernel, rfl, by decide +kernel, by decide +kernel⟩
abbrev nm_pairRight : List Str := ["_law_office_here", "_law_claim", "_law_thing", "_law_most", "_law_word", "_law_loss", "_law_count"]
def spPairRight (K : PySem.W.Frag) : Sp := fun vs H Q _ => ∃ R o T C c t, vs = [.ref o, .str c, .str t, .int (nuR R T C : Nat)] ∧ OffAt K H R o T C ∧ c ∈ C ∧ t ∈ T ∧ fitR R c t = true ∧ ∀ H', Same H H' → Q (.bl true) H'
theorem ok_pairRight (F : Df K "_law_pair_right" "_law_pair_right" sLawPairRight f) (hm : mg "_law_pair_right" = some (.ref f)) (cJ : C8.Cal P w K mg base 11 "judge" (spJudged K) []) (cL : C8.Cal P w K mg base 10 "pair_loss" (spPairLoss K) [])
    (cC : C8.Cal P w K mg base 7 "candidates" (spCandidates K) []) (cM : C8.Cal P w K mg base 9 "match_count" (spMatchCount K) []) (cH : C8.Cal P w K mg base 9 "handed" (spRest K true) []) : C8.Cal P w K mg base 12 "_law_pair_right" (spPairRight K) [] := by
  refine F.cal hm sc_pairRight (fun _ _ _ _ _ _ us hl => match us, hl with | [_, _, _, _], _ => rfl) (fun vs H Q E h => ?_) (fun cdv A outer s H vs Q E hr h => ?_)
  · obtain ⟨R, o, T, C, c, t, rfl, _⟩ := h; rfl
  · obtain ⟨R, o, T, C, c, t, rfl, ho, hc, ht, hf, q⟩ := h
    refine ⟨_, pss_cons (ps_par (i := 4) (j := 5) (by rfl) sc_pairRight.nd rfl rfl (by decide) rfl rfl (pa_cons (C8.pe_c cJ hr (by decide) (by rfl) (pa_cons (pv 0) (pa_cons (pv 1) (pa_cons (pv 2) pa_nil)))) (pa_cons (C8.pe_c cL hr (by decide) (by rfl) (pa_cons (pv 0) (pa_cons (pv 1) (pa_cons (pv 2) pa_nil)))) pa_nil)) (by rfl))
      (pss_cons (ps_if (PW.pt (pw_or (pt_cmpR op_notIn_seq (pv 5) (pe_tup (pa_cons pe_int (pa_cons pe_int pa_nil))) rfl) (pw_or (pt_cmpR op_ne (pe_cmpR op_eq (pv 4) pe_str (nomark _)) (pe_cmpR op_eq (pv 5) pe_int (nomark _)) (nomark _))
          (pw_or1 (pt_cmpR op_notIn_seq (pv 1) (C8.pe_c cC hr (by decide) (by rfl) (pa_cons (pv 0) (pa_cons (pv 2) pa_nil))) rfl))))) (pss_one (ps_ret pe_bl)) pss_nil)
      (pss_cons (ps_if (pt_cmpR op_ne (pv 4) pe_str (nomark _))
        (pss_cons (ps_set sc_pairRight.nd (i := 6) rfl (Or.inl rfl) (C8.pe_c cM hr (by decide) (by rfl) (pa_cons (C8.pe_c cH hr (by decide) (by rfl) (pa_cons (pv 0) (pa_cons (pv 1) (pa_cons (pv 2) pa_nil)))) (pa_cons (pe_op op_sub (pv 3) pe_int) pa_nil))))
        (pss_one (ps_ret (pe_cmpR op_eq (pe_cmpR op_eq (pv 4) pe_str (nomark _)) (pe_cmpR op_eq (pv 6) (C8.pe_c cM hr (by decide) (by rfl) (pa_cons (pv 0) (pa_cons (pv 3) pa_nil))) (nomark _)) (nomark _)))))
        pss_nil)
      (pss_one (ps_ret pe_bl)))), ?_⟩
    have hCn : C.Nodup := nodup_cL.sublist ho.lab.c
    have hTn : T.Nodup := nodup_tL.sublist ho.lab.t
    have hp1 : nuR R (Ld.rmv t T) (Ld.rmv c C) + 1 ≤ nuR R T C := Ld.nuO_p1 hCn hTn hc ht hf
    have hp2 : nuR R T C ≤ nuR R (Ld.rmv t T) (Ld.rmv c C) + 2 := Ld.nuO_p2 hCn c t
    have hnl : nuR R T C ≤ C.length := Ld.nuO_le
    have hcl := ho.lab.clen
    have htC := ho.lab.tNotC ht
    refine ⟨_, rfl, _, rfl, _, rfl, R, o, T, C, c, t, rfl, ho, hc, ht, fun H1 s1 => ?_⟩
    refine ⟨_, rfl, _, rfl, _, rfl, R, o, T, C, c, t, rfl, ho.same s1, hc, ht, hf, fun H2 s2 => ⟨_, _, rfl, ?_⟩⟩
    have s02 := s1.trans s2
    -- the word and the loss
    obtain ⟨ls, hls, hwl⟩ : ∃ ls : Nat, ((nuR R T C : Nat) : Int) - 1 - ((nuR R (Ld.rmv t T) (Ld.rmv c C) : Nat) : Int) = (ls : Int) ∧ ((ls = 1 ∧ judS R T C c t = "never") ∨ (ls = 0 ∧ judS R T C c t ≠ "never" ∧ (judS R T C c t = "surely" ↔ nW R (Ld.rmv t T) (Ld.rmv c C) (nuR R T C - 1) = nW R T C (nuR R T C)))) := by
      by_cases hlt : nuR R (Ld.rmv t T) (Ld.rmv c C) + 1 < nuR R T C
      · refine ⟨1, by omega, .inl ⟨rfl, ?_⟩⟩
        unfold judS; rw [if_neg (by rw [hf]; decide), if_pos hlt]
      · refine ⟨0, by omega, .inr ⟨rfl, ?_⟩⟩
        unfold judS
        rw [if_neg (by rw [hf]; decide), if_neg hlt]
        split
        · rename_i he
          exact ⟨by decide, fun _ => he, fun _ => rfl⟩
        · rename_i he
          exact ⟨by decide, fun z => absurd z (by decide), fun z => absurd z he⟩
    refine ⟨_, rfl, by show 2 ≤ sizeLine; decide, fun p hp => ⟨p, _, rfl, .inr (SqT.of upd_same), rfl, rfl, ?_⟩⟩
    have s03 := Same.upd' (o := .tup [.int 0, .int 1]) s02 hp
    have hin : inV (.int (((nuR R T C : Nat) : Int) - 1 - ((nuR R (Ld.rmv t T) (Ld.rmv c C) : Nat) : Int))) [.int 0, .int 1] = true := by
      rw [hls]
      rcases hwl with ⟨e, _⟩ | ⟨e, _⟩ <;> subst e <;> rfl
    refine ⟨false, congrArg V.bl (show (!inV (.int (((nuR R T C : Nat) : Int) - 1 - ((nuR R (Ld.rmv t T) (Ld.rmv c C) : Nat) : Int))) [.int 0, .int 1]) = false by rw [hin]; rfl), iteF ?_⟩
    refine ⟨_, rfl, rfl, _, rfl, rfl, rfl, _, rfl, ?_⟩
    have heq : (!decide (V.bl (decide (V.str (judS R T C c t) = V.str "never")) = V.bl (decide (V.int (((nuR R T C : Nat) : Int) - 1 - ((nuR R (Ld.rmv t T) (Ld.rmv c C) : Nat) : Int)) = V.int 1)))) = false := by
      rw [hls]
      rcases hwl with ⟨e, e2⟩ | ⟨e, e2, _⟩
      · subst e; rw [e2]; simp
      · subst e
        rw [decide_eq_false (fun z => e2 (V.str.inj z))]; simp
    show if (!decide (V.bl (decide (V.str (judS R T C c t) = V.str "never")) = V.bl (decide (V.int (((nuR R T C : Nat) : Int) - 1 - ((nuR R (Ld.rmv t T) (Ld.rmv c C) : Nat) : Int)) = V.int 1)))) = true then _ else _
    rw [heq]
    refine iteF ⟨_, rfl, _, rfl, _, rfl, R, o, T, C, t, rfl, ho.same s03, .inl ht, fun D H4 s4 hD => ?_⟩
    refine ⟨D, _, rfl, .inl (SqL.of hD), rfl, flat_strs _, false, ?_, iteF ?_⟩
    · rw [show inV (.str c) ((cands R T C t).map V.str) = true from by
        rw [inV_strs]
        refine decide_eq_true ?_
        unfold cands
        rw [if_neg htC]
        exact List.mem_filter.mpr ⟨hc, hf⟩]
      rfl
    have s04 := s03.trans s4
    refine ⟨_, rfl, rfl, _, rfl, ?_⟩
    show if (!decide (V.str (judS R T C c t) = V.str "never")) = true then _ else _
    rcases hwl with ⟨e, e2⟩ | ⟨e, e2, e3⟩
    · rw [e2]
      exact iteF (q H4 s04)
    · rw [decide_eq_false (fun z => e2 (V.str.inj z))]
      refine iteT ⟨_, rfl, _, rfl, _, rfl, R, o, T, C, c, t, rfl, ho.same s04, hc, ht, fun _ => hf, fun o5 H5 s5 ho5 => ?_⟩
      refine ⟨_, rfl, _, _, rfl, rfl, R, o5, _, _, nuR R T C - 1, (by show [V.ref o5, V.int (((nuR R T C : Nat) : Int) - 1)] = _; rw [show ((nuR R T C : Nat) : Int) - 1 = ((nuR R T C - 1 : Nat) : Int) by omega]), ho5, by omega, fun H6 s6 => ?_⟩
      refine ⟨_, rfl, rfl, _, rfl, _, rfl, _, rfl, R, o, T, C, nuR R T C, rfl, ho.same ((s04.trans s5).trans s6), by omega, fun H7 s7 => ⟨rfl, rfl, ?_⟩⟩
      have fin := q H7 (((s04.trans s5).trans s6).trans s7)
      have ee : decide (V.bl (decide (V.str (judS R T C c t) = V.str "surely")) = V.bl (decide (V.int ((nW R (Ld.rmv t T) (Ld.rmv c C) (nuR R T C - 1) : Nat) : Int) = V.int ((nW R T C (nuR R T C) : Nat) : Int)))) = true := by
        by_cases hs : judS R T C c t = "surely"
        · rw [decide_eq_true (congrArg V.str hs), decide_eq_true (congrArg (fun n : Nat => V.int n) (e3.mp hs))]; rfl
        · rw [decide_eq_false (fun z => hs (V.str.inj z)), decide_eq_false (p := V.int ((nW R (Ld.rmv t T) (Ld.rmv c C) (nuR R T C - 1) : Nat) : Int) = V.int ((nW R T C (nuR R T C) : Nat) : Int)) (fun z => hs (e3.mpr (Int.ofNat.inj (V.int.inj z))))]; rfl
      show Q (.bl (decide (V.bl (decide (V.str (judS R T C c t) = V.str "surely")) = V.bl (decide (V.int ((nW R (Ld.rmv t T) (Ld.rmv c C) (nuR R T C - 1) : Nat) : Int) = V.int ((nW R T C (nuR R T C) : Nat) : Int)))))) H7
      rw [ee]
      exact fin
end
end Lk
/-! Kd21 -/
namespace Lk
open PySem PySem.Spec PyProof.Rows L2
def spFirstMatch (K : PySem.W.Frag) : Sp := fun vs H Q _ => ∃ R o T C, vs = [.ref o] ∧ OffAt K H R o T C ∧ ∀ d H' (M : List (Str × Str)), Same H H' → M ∈ Ld.wO C T (fitR R) (nuR R T C) → H' d = some (.dK (M.map fun p => ((Sum.inr p.1 : Key), V.str p.2))) → Q (.ref d) H'
def tMatches (K : PySem.W.Frag) (te : TE) : TE := fun σ H Q => te σ H fun x H1 => ∃ R o T C, x = .ref o ∧ OffAt K H1 R o T C ∧ ∀ D H' (out : List V), Same H1 H' → H' D = some (.lst out) → out.length = nW R T C (nuR R T C) → Q (.ref D) H'
/-- list(matches(e)) -/
def ListMatches (P : Program) (w : World) (K : PySem.W.Frag) (mg : Str → Option Value) (base : Heap) (k : Nat) : Prop :=
  ∀ (X : Cx) (j : Nat) (p1 p2 q1 q2 : Pos) (e : Expr) (te : TE), X.prog = P → X.w = w → X.K = K → X.mg = mg → X.base = base → X.calm = true → Room j X.A → k ≤ j → Gl X "list" → Gl X "matches" → PE X e te →
    starEach [e] X.env = (false, eval e X.env) :: starEach [] X.env → (backTo q2 (starEach [] X.env)).any (·.1) = false →
    starEach [Expr.Call (.Name "matches" p2) [e] [] q2] X.env = (false, eval (.Call (.Name "matches" p2) [e] [] q2) X.env) :: starEach [] X.env →
    PE X (.Call (.Name "list" p1) [.Call (.Name "matches" p2) [e] [] q2] [] q1) (tMatches K te)
theorem ListsAt.lock {H : Hp} {F lo : Addr} {gs : List (List Str)} {k0 : List (Key × V)} {u : HO} (x : ListsAt H F gs) (hl : H lo = some (.dK k0)) : ListsAt (upd H lo u) F gs := by
  obtain ⟨L, h1, h2, h3⟩ := x.ex
  exact ⟨L, by rw [upd_ne (ne_of h1 hl (by intro z; cases z))]; exact h1, h2, fun p hp => by rw [upd_ne (ne_of (h3 p hp) hl (by intro z; cases z))]; exact h3 p hp⟩
theorem ListsAt.unf {H : Hp} {F lo : Addr} {gs : List (List Str)} {od : Obj} {u u' : HO} (x : ListsAt H F gs) (hl : H lo = some (.frz od u)) : ListsAt (upd H lo u') F gs := by
  obtain ⟨L, h1, h2, h3⟩ := x.ex
  exact ⟨L, by rw [upd_ne (ne_of h1 hl (by intro z; cases z))]; exact h1, h2, fun p hp => by rw [upd_ne (ne_of (h3 p hp) hl (by intro z; cases z))]; exact h3 p hp⟩
/-- a dict of tuples, known for a while: the office stands -/
theorem OffAt.lock {K : PySem.W.Frag} {H : Hp} {R : Rnd} {o lo : Addr} {T C L : List Str} {g : Str → En} {u : HO} (x : OffAt K H R o T C) (hl : H lo = some (.dK (enKvs g L))) (hv : ∀ l ∈ L, ∃ r xs, H (g l).v = some (.tup (.ref r :: xs)))
    (nf : ∀ dx a b cc, H o = some (.ins (cOff K) dx [("own_catalog", cc), ("found", .ref a), ("lost", .ref b)]) → a ≠ lo ∧ b ≠ lo) : OffAt K (upd H lo u) R o T C := by
  obtain ⟨dx, f, l, h1, h2, h3⟩ := x.ex
  obtain ⟨n1, n2⟩ := nf _ _ _ _ h1
  have hvv : ∀ k v, valV (enKvs g L) k = some v → ∃ a u, v = .ref a ∧ H a = some u ∧ ∀ ws : List Str, u ≠ .tup (ws.map V.str) := by
    intro k v hk
    cases k with
    | inl z => rw [show valV (enKvs g L) (.inl z) = none from val_inl _ _ _] at hk; cases hk
    | inr y =>
      unfold enKvs at hk
      rw [val_map (fun l => .ref (g l).v)] at hk
      by_cases hy : y ∈ L
      · rw [if_pos hy] at hk
        cases hk
        obtain ⟨r, xs, e⟩ := hv y hy
        refine ⟨_, _, rfl, e, fun ws z => ?_⟩
        injection z with z
        cases ws with
        | nil => cases z
        | cons a b => injection z with z _; cases z
      · rw [if_neg hy] at hk; cases hk
  have hne := x.fs.1
  refine ⟨⟨dx, f, l, by rw [upd_ne (ne_of h1 hl (by intro z; cases z))]; exact h1, by rw [upd_ne n1]; exact h2, by rw [upd_ne n2]; exact h3⟩, ?_, x.fs, fun l hl' => ?_, fun l hl' => ?_, x.lab⟩
  · obtain ⟨cdx, a, c1, M, c2, c3, c4⟩ := x.cat.ex
    refine ⟨cdx, a, by rw [upd_ne (ne_of c1 hl (by intro z; cases z))]; exact c1, M, by rw [upd_ne (ne_of c2 hl (by intro z; cases z))]; exact c2, c3, fun p hp => ?_⟩
    obtain ⟨wa, c5, c6⟩ := (c4 p hp).ex
    exact ⟨wa, by rw [upd_ne (ne_of c5 hl (by intro z; cases z))]; exact c5, by rw [upd_ne (ne_of c6 hl (by intro z; cases z))]; exact c6⟩
  · obtain ⟨tdx, t1⟩ := (x.th l hl').ex
    exact ⟨⟨tdx, by rw [upd_ne (ne_of t1 hl (by intro z; cases z))]; exact t1⟩, (x.th l hl').note.updT hl hvv hne⟩
  · obtain ⟨tdx, wo, t1⟩ := (x.cl l hl').ex
    exact ⟨⟨tdx, wo, by rw [upd_ne (ne_of t1 hl (by intro z; cases z))]; exact t1⟩, (x.cl l hl').note.updT hl hvv hne⟩
section
variable {P : Program} {w : World} {K : PySem.W.Frag} {mg : Str → Option Value} {base : Heap} {f : Addr}
theorem sc_law : FnScope ["_law_script", "_law_h", "_law_turn", "_law_drawn_here", "_law_office_here", "_law_groups", "_law_most", "_law_sure", "_law_claim", "_law_thing", "_law_fit", "_law_label", "_law_least", "_law_group"] ["_law_script"] (defScope sLaw) := ⟨rfl, rfl, rfl, by decide +kernel, rfl, by decide +kernel, by decide +kernel⟩
abbrev nm_law : List Str := ["_law_script", "_law_h", "_law_turn", "_law_drawn_here", "_law_office_here", "_law_groups", "_law_most", "_law_sure", "_law_claim", "_law_thing", "_law_fit", "_law_label", "_law_least", "_law_group"]
def spLaw (K : PySem.W.Frag) : Sp := fun vs H Q _ => ∃ (a : Addr) (ns : List Int), vs = [.ref a] ∧ SqL K H a (ns.map V.int) ∧ ns.length ≤ 63 ∧ ∀ H', Q (.bl true) H'
/-- the calls that the law makes -/
structure Calls (P : Program) (w : World) (K : PySem.W.Frag) (mg : Str → Option Value) (base : Heap) : Prop where
  mix : C8.Cal P w K mg base 1 "_law_mix" (spMix K) []
  drawn : C8.Cal P w K mg base 4 "_law_drawn" spDrawn []
  office : C8.Cal P w K mg base 7 "_law_office" (spLawOffice K) []
  most : C8.Cal P w K mg base 9 "most_pairs" (spMostPairs K) []
  sure : C8.Cal P w K mg base 11 "sure_pairs" (spSurePairs K) []
  shown : C8.Cal P w K mg base 8 "shown_group" (spShownGroup K) []
  short : C8.Cal P w K mg base 8 "short_group" (spShortGroup K) []
  count : C8.Cal P w K mg base 9 "match_count" (spMatchCount K) []
  cand : C8.Cal P w K mg base 7 "candidates" (spCandidates K) []
  right : C8.Cal P w K mg base 12 "_law_pair_right" (spPairRight K) []
  riv : C8.Cal P w K mg base 7 "rivals" (spRivals K) []
  lon : C8.Cal P w K mg base 8 "lonely" (spLonely K) []
  without : C8.Met P w K mg base 7 (cOff K) "without" (spWithout K) []
  served : C8.Cal P w K mg base 10 "served" (spService K) []
  first : C8.Cal P w K mg base 22 "first_match" (spFirstMatch K) []
  lstm : ListMatches P w K mg base 22
theorem fn_body {x qual : Str} {st : Stmt} {N ps : List Str} {k : Nat} {sp : Sp} {fd : FuncData} (F : FunD K x qual (defArgs st) (defBody st) (defScope st) [] [] f fd) (S : FnScope N ps (defScope st)) (len : ∀ vs H Q E, sp vs H Q E → vs.length = ps.length) (body : BodyOk P w K mg base N qual st f k sp) :
    FnOk P w K mg base C8.CX0 (k + 1) f fd ps sp := by
  refine F.ok S len fun cdv A outer s H vs Q E hr h => ?_
  obtain ⟨t, h1, h2⟩ := body cdv A outer s H vs Q E hr h
  exact ⟨t, h1.nox, h2⟩
theorem ok_law {fd : FuncData} (F : FunD K "law" "law" (defArgs sLaw) (defBody sLaw) (defScope sLaw) [] [] f fd) (Tx : Txt K mg) (c : Calls P w K mg base) : FnOk P w K mg base C8.CX0 25 f fd ["_law_script"] (spLaw K) := by
  refine fn_body F sc_law (fun vs H Q E h => ?_) (fun cdv A outer s H vs Q E hr h => ?_)
  · obtain ⟨a, ns, rfl, _⟩ := h; rfl
  · obtain ⟨a, ns, rfl, ha, hl, q⟩ := h
    refine ⟨_, pss_cons (ps_set sc_law.nd (i := 1) rfl (Or.inl rfl) (C8.pe_c c.mix hr (by decide) (by rfl) (pa_cons (pv 0) (pa_cons pe_int pa_nil))))
      (pss_cons (ps_for PassesOwn.never rfl (pi_range1 (by rfl) Tx.range (pa_cons pe_int pa_nil)) (pg_name (i := 2) sc_law.nd rfl (Or.inl rfl))
        (pss_cons (ps_set sc_law.nd (i := 3) rfl (Or.inl rfl) (C8.pe_c c.drawn hr (by decide) (by rfl) (pa_cons (pv 1) (pa_cons pe_int (pa_cons pe_int pa_nil)))))
        (pss_cons (ps_asg (pe_tup (pa_cons (C8.pe_c c.office hr (by decide) (by rfl) (pa_cons (pv 3) pa_nil)) (pa_cons (pe_lst (pa_cons (pe_lst pa_nil) pa_nil)) pa_nil))) (pg_n2 K (i := 4) (j := 5) rfl rfl sc_law.nd rfl rfl (by first | exact Or.inl rfl | exact Or.inr rfl) (by first | exact Or.inl rfl | exact Or.inr rfl) (by first | exact Or.inr rfl | exact Or.inl rfl) (by first | exact Or.inr rfl | exact Or.inl rfl)))
        (pss_cons (ps_asg (pe_tup (pa_cons (C8.pe_c c.most hr (by decide) (by rfl) (pa_cons (pv 4) pa_nil)) (pa_cons (C8.pe_c c.sure hr (by decide) (by rfl) (pa_cons (pv 4) pa_nil)) pa_nil))) (pg_n2 K (i := 6) (j := 7) rfl rfl sc_law.nd rfl rfl (by first | exact Or.inl rfl | exact Or.inr rfl) (by first | exact Or.inl rfl | exact Or.inr rfl) (by first | exact Or.inr rfl | exact Or.inl rfl) (by first | exact Or.inr rfl | exact Or.inl rfl)))
        (pss_cons (ps_lock (ps_for PassesOwn.never rfl (pi_keys (pe_ix ix_tup (pv 3) pe_int (fun _ _ => rfl))) (pg_name (i := 8) sc_law.nd rfl (Or.inr rfl))
          (pss_one (ps_set sc_law.nd (i := 5) rfl (Or.inl rfl) (pe_op op_cat (pv 5) (pe_lc (own := [("_law_group", 13)]) rfl sc_law.nd (pi_list (pv 5)) (blkOk_by (N := nm_law) (sc := defScope sLaw) (by decide +kernel)) (fun _ _ _ _ _ => pg_name (i := 13) sc_law.nd rfl (Or.inl rfl)) (fun _ _ _ _ _ => pts_nil) (fun _ _ _ _ _ => pe_op op_cat (pv 13) (pe_lst (pa_cons (pv 8) pa_nil)))))))))
        (pss_cons (ps_if (pt_cmpR op_ne (pv 6) (pe_op op_sub (pe_callB call_lenD (by rfl) Tx.len boot_len (pa_cons (pe_ix ix_tup (pv 3) pe_int (fun _ _ => rfl)) pa_nil)) (pe_callB (cr_max rfl) (by rfl) Tx.max boot_max (pa_cons
            (pe_lc (own := [("_law_group", 13)]) rfl sc_law.nd (pi_list (pv 5)) (blkOk_by (N := nm_law) (sc := defScope sLaw) (by decide +kernel)) (fun _ _ _ _ _ => pg_name (i := 13) sc_law.nd rfl (Or.inl rfl)) (fun _ _ _ _ _ => pts_nil) (fun _ _ _ _ _ => C8.pe_c c.shown hr (by decide) (by rfl) (pa_cons (pv 4) (pa_cons (pv 13) pa_nil)))) pa_nil))) (nomark _)) (pss_one (ps_ret pe_bl)) pss_nil)
        (C8.pss_cut (ps_if (PW.pt (pw_or (pt_cmpR op_ne (pe_cmpR op_isN (C8.pe_c c.short hr (by decide) (by rfl) (pa_cons (pv 4) pa_nil)) pe_non (nomark _)) (pe_cmpR op_eq (pv 6) (pe_callB call_lenD (by rfl) Tx.len boot_len (pa_cons (pe_ix ix_tup (pv 3) pe_int (fun _ _ => rfl)) pa_nil)) (nomark _)) (nomark _))
            (pw_or1 (pt_cmpR op_ne (C8.pe_c c.count hr (by decide) (by rfl) (pa_cons (pv 4) (pa_cons (pe_op op_add (pv 6) pe_int) pa_nil))) pe_int (nomark _))))) (pss_one (ps_ret pe_bl)) pss_nil)
        (pss_cons (ps_lock (ps_for PassesOwn.never rfl (pi_keys (pe_ix ix_tup (pv 3) pe_int (fun _ _ => rfl))) (pg_name (i := 8) sc_law.nd rfl (Or.inr rfl))
          (pss_cons (ps_lock (ps_for PassesOwn.never rfl (pi_keys (pe_ix ix_tup (pv 3) pe_int (fun _ _ => rfl))) (pg_name (i := 9) sc_law.nd rfl (Or.inl rfl))
            (pss_cons (ps_set sc_law.nd (i := 10) rfl (Or.inl rfl) (pe_cmpR op_in_seq (pv 9) (C8.pe_c c.cand hr (by decide) (by rfl) (pa_cons (pv 4) (pa_cons (pv 8) pa_nil))) rfl))
            (pss_cons (ps_if (pt_cmpR op_ne (pv 10) (pe_cmpR op_in_seq (pv 8) (C8.pe_c c.cand hr (by decide) (by rfl) (pa_cons (pv 4) (pa_cons (pv 9) pa_nil))) rfl) (nomark _)) (pss_one (ps_ret pe_bl)) pss_nil)
            (pss_one (ps_if (PW.pt (pw_and (pt_val (pv 10)) (pw_and1 (pt_not (pt_val (C8.pe_c c.right hr (by decide) (by rfl) (pa_cons (pv 4) (pa_cons (pv 8) (pa_cons (pv 9) (pa_cons (pv 6) pa_nil)))))))))) (pss_one (ps_ret pe_bl)) pss_nil))))))
          (pss_one (ps_if (PW.pt (pw_or (pt_cmpR op_in_seq (pv 8) (C8.pe_c c.riv hr (by decide) (by rfl) (pa_cons (pv 4) (pa_cons (pv 8) pa_nil))) rfl) (pw_or1 (pt_cmpR op_ne (pe_cmpR op_in_seq (pv 8) (C8.pe_c c.lon hr (by decide) (by rfl) (pa_cons (pv 4) pa_nil)) rfl)
            (pe_cmpR (op_eqD hr.units) (C8.pe_c c.cand hr (by decide) (by rfl) (pa_cons (pv 4) (pa_cons (pv 8) pa_nil))) (pe_lst pa_nil) (nomark _)) (nomark _))))) (pss_one (ps_ret pe_bl)) pss_nil)))))
        (pss_cons (ps_for PassesOwn.never rfl (pi_list (pe_op op_cat (pe_callTy (call_listD rfl) (by rfl) Tx.list boot_list (pa_cons (pe_ix ix_tup (pv 3) pe_int (fun _ _ => rfl)) pa_nil)) (pe_callTy (call_listD rfl) (by rfl) Tx.list boot_list (pa_cons (pe_ix ix_tup (pv 3) pe_int (fun _ _ => rfl)) pa_nil)))) (pg_name (i := 11) sc_law.nd rfl (Or.inl rfl))
          (pss_cons (ps_set sc_law.nd (i := 12) rfl (Or.inl rfl) (C8.pe_c c.most hr (by decide) (by rfl) (pa_cons (C8.pe_mt c.without hr (by decide) (pv 4) (pa_cons (pv 11) pa_nil)) pa_nil)))
          (pss_cons (ps_if (PW.pt (pw_or (pt_cmpR op_ne (pe_cmpR op_eq (C8.pe_c c.served hr (by decide) (by rfl) (pa_cons (pv 4) (pa_cons (pv 11) pa_nil))) pe_str (nomark _)) (pe_cmpR op_eq (pv 12) (pe_op op_sub (pv 6) pe_int) (nomark _)) (nomark _)) (pw_or1 (pt_cmpR op_gt (pv 12) (pv 6) (nomark _))))) (pss_one (ps_ret pe_bl)) pss_nil)
          (pss_one (ps_if (PW.pt (pw_and (pt_cmpR op_eq (C8.pe_c c.served hr (by decide) (by rfl) (pa_cons (pv 4) (pa_cons (pv 11) pa_nil))) pe_str (nomark _)) (pw_and1 (pt_cmpR op_in_seq (pv 11) (C8.pe_c c.lon hr (by decide) (by rfl) (pa_cons (pv 4) pa_nil)) rfl)))) (pss_one (ps_ret pe_bl)) pss_nil)))))
        (pss_cons (ps_if (pt_cmpR (op_neD hr.units) (pe_lock (pe_lc (own := [("_law_claim", 8)]) rfl sc_law.nd (pi_keys (pv 7)) (blkOk_by (N := nm_law) (sc := defScope sLaw) (by decide +kernel)) (fun _ _ _ _ _ => pg_name (i := 8) sc_law.nd rfl (Or.inl rfl))
            (fun _ _ _ _ _ => pts_one (pt_cmpR op_ne (pe_dget2 (hu_of hr) (C8.pe_c c.first hr (by decide) (by rfl) (pa_cons (pv 4) pa_nil)) (pv 8) pe_non ⟨rfl, rfl, rfl, rfl⟩) (pe_dget (hu_of hr) (pv 7) (pv 8) (fun _ _ => rfl)) (nomark _))) (fun _ _ _ _ _ => pv 8))) (pe_lst pa_nil) (nomark _)) (pss_one (ps_ret pe_bl)) pss_nil)
        (pss_one (ps_if (pt_cmpR op_ne (pe_callB call_len (by rfl) Tx.len boot_len (pa_cons (c.lstm _ _ _ _ _ _ _ _ rfl rfl rfl rfl rfl rfl hr (by decide) (by rfl) (by rfl) (pv 4) rfl rfl rfl) pa_nil)) (C8.pe_c c.count hr (by decide) (by rfl) (pa_cons (pv 4) (pa_cons (pv 6) pa_nil))) (nomark _)) (pss_one (ps_ret pe_bl)) pss_nil))))))))))))
      (pss_one (ps_ret pe_bl))), ?_⟩
    refine ⟨_, rfl, a, ns, rfl, ha, hl, fun h cc H1 s1 _ _ hd => ?_⟩
    refine ⟨3, rfl, by decide, by decide, ?_⟩
    refine for_it (walk_range (lo := 0) (n := (3 : Int).toNat)) (fun i σ H' => Dr H' h cc ∧ ∃ x2 x3 x4 x5 x6 x7 x8 x9 x10 x11 x12, σ = [some (.ref a), some (.ref h), x2, x3, x4, x5, x6, x7, x8, x9, x10, x11, x12, none]) ⟨hd, _, _, _, _, _, _, _, _, _, _, _, rfl⟩ (fun _ _ _ _ _ => trivial) ?_ (fun σ H' _ => q H')
    rintro i v σ H2 H3 hi ⟨d2, x2, x3, x4, x5, x6, x7, x8, x9, x10, x11, x12, rfl⟩ ⟨rfl, rfl⟩
    clear hd s1 ha hl
    refine ⟨_, rfl, h, cc, rfl, d2, fun p T C B sB dB hdr => ?_⟩
    obtain ⟨fa, fo, lo, fs, gt, gc, h1, h2, h3, h4, h5, h6, h7, h8⟩ := hdr.ex
    have hlab := hdr.lab
    have hTn : T.Nodup := nodup_tL.sublist hlab.t
    have hCn : C.Nodup := nodup_cL.sublist hlab.c
    have hTl := hlab.tlen
    have hCl := hlab.clen
    refine ⟨_, rfl, p, T, C, rfl, hdr, fun o R H4 s4 ho4 hfr => ⟨by show 0 ≤ sizeLine; decide, fun g0 hg0 => ⟨by show 1 ≤ sizeLine; decide, fun Gz hGz => ⟨by show 2 ≤ sizeLine; decide, fun tt htt => ⟨tt, _, rfl, SqT.of upd_same, rfl, _, _, rfl, _, _, rfl, rfl, ?_⟩⟩⟩⟩⟩
    have s4b : Same H4 (upd (upd (upd H4 g0 (.lst [])) Gz (.lst [.ref g0])) tt (.tup [.ref o, .ref Gz])) := Same.upd' (Same.upd' (Same.upd hg0) hGz) htt
    have nf4 : ∀ dx a b cc, H4 o = some (.ins (cOff K) dx [("own_catalog", cc), ("found", .ref a), ("lost", .ref b)]) → (a ≠ fo ∧ a ≠ lo) ∧ b ≠ fo ∧ b ≠ lo := fun dx a b cc e => by
      obtain ⟨e1, e2⟩ := hfr dx a b cc e
      exact ⟨⟨fun z => (by rw [z, h4] at e1; cases e1), fun z => (by rw [z, h5] at e1; cases e1)⟩, fun z => (by rw [z, h4] at e2; cases e2), fun z => (by rw [z, h5] at e2; cases e2)⟩
    have l4 : ListsAt (upd (upd (upd H4 g0 (.lst [])) Gz (.lst [.ref g0])) tt (.tup [.ref o, .ref Gz])) Gz [[]] := ⟨[(g0, [])], upd_keep upd_same htt, rfl, fun p hp => by rw [List.mem_singleton.mp hp]; exact upd_keep (upd_keep upd_same hGz) htt⟩
    dsimp only [gNil]
    refine gen_seq (fun Hb => Same B Hb ∧ OffAt K Hb R o T C ∧ ListsAt Hb Gz [[]] ∧ ∀ dx a b cc, Hb o = some (.ins (cOff K) dx [("own_catalog", cc), ("found", .ref a), ("lost", .ref b)]) → (a ≠ fo ∧ a ≠ lo) ∧ b ≠ fo ∧ b ≠ lo) ⟨s4.trans s4b, ho4.same s4b, l4, fun dx a b cc e => ?_⟩ ?_
    · obtain ⟨dx', f', l', e', _⟩ := ho4.ex
      have e2 := s4b _ _ e'
      rw [e2] at e
      have e3 := Option.some.inj e
      rw [e3] at e'
      exact nf4 _ _ _ _ e'
    clear nf4 l4 s4b htt hGz hg0 hfr ho4 s4 tt g0
    rintro Hb ⟨sb, hob, hlb, nfb⟩
    refine ⟨_, rfl, R, o, T, C, rfl, hob, fun H5 s5 => ⟨_, rfl, R, o, T, C, rfl, hob.same s5, fun sd H6 ks s6 hsd0 hsd hkl hkn hks => ⟨by show 2 ≤ sizeLine; decide, fun t2 ht2 => ⟨t2, _, rfl, SqT.of upd_same, rfl, _, _, rfl, _, _, rfl, rfl, ?_⟩⟩⟩⟩
    have hsdb : Hb sd = none := none_of s5 hsd0
    have s56 := s5.trans s6
    have sB2 := Same.upd' (o := .tup [.int (nuR R T C : Nat), .ref sd]) s56 ht2
    dsimp only [gNil]
    refine gen_seq (fun H' => Same Hb H' ∧ H' sd = some (.dK (ks.map fun p => ((Sum.inr p.1 : Key), V.str p.2)))) ⟨sB2, upd_keep hsd ht2⟩ ?_
    clear sB2 s56 ht2 hsd s6 hsd0 s5 t2
    rintro B2 ⟨sb2, hsd⟩
    have sBB := sb.trans sb2
    have bp := sBB _ _ h1
    have bfo := sBB _ _ h4
    have blo := sBB _ _ h5
    have ob2 := hob.same sb2
    have hvc : ∀ l ∈ C, ∃ r xs, B2 (gc l).v = some (.tup (.ref r :: xs)) := fun l hl => ⟨_, _, sBB _ _ (h7 l hl).1.v⟩
    have hvt : ∀ l ∈ T, ∃ r xs, B2 (gt l).v = some (.tup (.ref r :: xs)) := fun l hl => ⟨_, _, sBB _ _ (h6 l hl).1.v⟩
    have nf2 : ∀ dx a b cc, B2 o = some (.ins (cOff K) dx [("own_catalog", cc), ("found", .ref a), ("lost", .ref b)]) → (a ≠ fo ∧ a ≠ lo) ∧ b ≠ fo ∧ b ≠ lo := fun dx a b cc e => by
      obtain ⟨dx', f', l', e', _⟩ := hob.ex
      have e2 := sb2 _ _ e'
      rw [e2] at e
      have e3 := Option.some.inj e
      rw [e3] at e'
      exact nfb _ _ _ _ e'
    have plo : p ≠ lo := ne_of bp blo (by intro z; cases z)
    refine ⟨lo, _, blo, trivial, fun od => ⟨_, rfl, p, _, 2, _, rfl, rfl, SqT.of (by rw [upd_ne plo]; exact bp), rfl, lo, od, rfl, .inl ⟨_, upd_same, ?_⟩⟩⟩
    refine for_it walk_keys (fun ii σ H' => Same (upd B2 lo (.frz od (.dK (enKvs gc C)))) H' ∧ ∃ G x8, σ = [some (.ref a), some (.ref h), some (.int (0 + (i : Nat))), some (.ref p), some (.ref o), some (.ref G), some (.int (nuR R T C : Nat)), some (.ref sd), x8, x9, x10, x11, x12, none] ∧ ListsAt H' G ((C.take ii).foldl Ld.grow [[]]))
      ⟨Same.refl _, Gz, x8, rfl, (hlb.same sb2).lock blo⟩ (fun i σ H' _ z => z.1 _ _ upd_same) ?_ ?_
    · rintro j v σ H6 H7 hj ⟨t1, G, y8, rfl, lG⟩ ⟨rfl, k, u, hg, rfl⟩
      unfold enKvs at hg
      obtain ⟨cl, hc, e⟩ := get_map hg
      cases e
      obtain ⟨L, l1, l2, l3⟩ := lG.ex
      have hlen : L.length ≤ 32 := by
        have e1 : L.length = (Ld.groups (C.take j)).length := by
          have := congrArg List.length l2
          rw [List.length_map] at this
          exact this
        rw [e1, Ld.groups_len]
        exact Nat.le_trans (Nat.pow_le_pow_right (by decide) (show (C.take j).length ≤ 5 by rw [List.length_take]; omega)) (by decide)
      refine ⟨_, rfl, _, rfl, G, rfl, ⟨_, SqL.of l1⟩, fun D hD => ?_⟩
      refine walk_any (walk_list (xs := L.map fun p => V.ref p.1)) (fun k H' => Grow H7 D ((((C.take j).foldl Ld.grow [[]]).take k).map fun g => g ++ [cl]) H') (.zero hD) (fun k H' _ z => SqL.of (z.1 _ _ l1)) ?_ ?_
      · rintro k v H8 H9 hk gr ⟨rfl, hv⟩
        obtain ⟨y, hy, rfl⟩ := get_map hv
        have hyL := mem_of_get hy
        have hg : ((C.take j).foldl Ld.grow [[]])[k]? = some y.2 := by rw [← l2, List.getElem?_map, hy]; rfl
        have hsubl : y.2.Sublist C := (Ld.groups_mem.mp (show y.2 ∈ Ld.groups (C.take j) from mem_of_get hg)).trans (List.take_sublist _ _)
        refine ⟨rfl, tyes ⟨_, rfl, _, rfl, by show 1 ≤ sizeLine; decide, fun z hz => ⟨y.1, z, _, _, rfl, rfl, upd_keep (gr.1 _ _ (l3 y hyL)) hz, upd_same, by rw [List.length_map, sizeLine_eq]; have := hsubl.length_le; show _ + 1 ≤ _; omega, fun p3 hp3 => ?_⟩⟩⟩
        rw [List.take_add_one, hg, List.map_append]
        refine Grow.add hD (gr.later (Same.upd hz)) hp3 (by simp [kV]) ?_
        rw [List.length_map, List.length_take]
        have : ((C.take j).foldl Ld.grow [[]]).length = L.length := by rw [← l2, List.length_map]
        omega
      · intro H8 gr
        have hfull : ((C.take j).foldl Ld.grow [[]]).take (L.map fun p => V.ref p.1).length = (C.take j).foldl Ld.grow [[]] := by
          rw [List.length_map, ← l2, List.take_of_length_le (by simp)]
        rw [hfull] at gr
        obtain ⟨s8, M, m1, m2, m3⟩ := gr
        have hMl : M.length = L.length := by
          have := congrArg List.length m2
          rw [List.length_map, List.length_map, ← l2, List.length_map] at this; exact this
        refine ⟨G, D, _, _, rfl, rfl, s8 _ _ l1, m1, by rw [List.length_map, List.length_map, sizeLine_eq]; omega, fun p4 hp4 => ?_⟩
        refine ⟨Same.upd' (t1.trans s8) hp4, p4, _, rfl, L ++ M, by rw [upd_same]; simp, ?_, fun p hp => ?_⟩
        · rw [List.take_add_one, hc]
          show _ = ((C.take j) ++ [cl]).foldl Ld.grow [[]]
          rw [List.foldl_append, List.map_append, l2, m2]; rfl
        · rcases List.mem_append.mp hp with z | z
          · exact upd_keep (s8 _ _ (l3 p z)) hp4
          · exact upd_keep (m3 p z).2 hp4
    · rintro σ H6 ⟨t1, G, y8, rfl, lG⟩
      have e1 : C.take (enKvs gc C).length = C := by unfold enKvs; rw [List.length_map, List.take_length]
      rw [e1] at lG
      refine ⟨t1 _ _ upd_same, ?_⟩
      refine gen_seq (fun Hc => Same B2 Hc ∧ ListsAt Hc G (Ld.groups C)) ⟨Same.unlock blo t1, lG.unf (t1 _ _ upd_same)⟩ ?_
      clear t1 lG
      rintro B3 ⟨s3, lG⟩
      obtain ⟨L, l1, l2, l3⟩ := lG.ex
      have hLl : L.length ≤ 32 := by
        have e1 : L.length = (Ld.groups C).length := by
          have := congrArg List.length l2
          rw [List.length_map] at this
          exact this
        rw [e1, Ld.groups_len]
        exact Nat.le_trans (Nat.pow_le_pow_right (by decide) hCl) (by decide)
      have hnl : nuR R T C ≤ C.length := Ld.nuO_le
      have ekl : (enKvs gc C).length = C.length := by unfold enKvs; rw [List.length_map]
      refine ⟨_, rfl, _, rfl, p, _, 2, _, rfl, rfl, SqT.of (s3 _ _ bp), rfl, lo, _, rfl, s3 _ _ blo, _, rfl, G, rfl, ⟨_, SqL.of l1⟩, fun D hD => ?_⟩
      refine lc_it (walk_list (xs := L.map fun p => V.ref p.1)) (PvS B3 D (outM (Ld.groups C) fun g => .int (max 0 (shI R T g)))) (.zero hD outM_zero) (fun i H' _ z => SqL.of (z.1 _ _ l1)) ?_ ?_
      · rintro k v H7 H8 hk ⟨z1, z2⟩ ⟨rfl, hv⟩
        obtain ⟨y, hy, rfl⟩ := get_map hv
        have hg : (Ld.groups C)[k]? = some y.2 := by rw [← l2, List.getElem?_map, hy]; rfl
        have hsubl : y.2.Sublist C := Ld.groups_mem.mp (mem_of_get hg)
        refine ⟨rfl, tyes ⟨_, rfl, _, rfl, R, o, T, C, y.1, y.2, rfl, (ob2.same s3).same z1, z1 _ _ (l3 y (mem_of_get hy)), hCn.sublist hsubl, fun x hx => hsubl.subset hx, by have := hsubl.length_le; omega, fun H9 s9 => ?_⟩⟩
        exact PvS.add hD (z1.trans s9) (s9 _ _ z2) (outM_len (by rw [← l2, List.length_map]; omega)) (outM_step hg)
      · rintro H7 ⟨z1, z2⟩
        rw [outM_all _ (by rw [List.length_map, ← l2, List.length_map])] at z2
        have e2 : (Ld.groups C).map (fun g => V.int (max 0 (shI R T g))) = ((Ld.groups C).map fun g => max 0 (shI R T g)).map V.int := by rw [List.map_map]; rfl
        rw [e2] at z2
        refine ⟨D, _, rfl, SqL.of z2, by rw [List.length_map]; exact List.length_pos_iff.mpr (List.ne_nil_of_mem (Ld.groups_mem.mpr (List.nil_sublist C))), fun m hm hmax => ⟨_, _, rfl, rfl, rfl, _, rfl, ?_⟩⟩
        have hme : ((nuR R T C : Nat) : Int) = ((enKvs gc C).length : Int) - m := by
          rw [ekl]
          obtain ⟨g, hg, rfl⟩ := List.mem_map.mp hm
          have gs := Ld.groups_mem.mp hg
          have b1 : shI R T g ≤ (C.length : Int) - (nuR R T C : Int) := Ld.short_le hCn hTn (hCn.sublist gs) fun x hx => gs.subset hx
          obtain ⟨S, hS⟩ := Ld.short_ex (C := C) (U := T) (fit := fitR R) hCn hTn
          have b2 := hmax _ (List.mem_map_of_mem (f := fun g => max 0 (shI R T g)) (Ld.groups_mem.mpr (List.filter_sublist (p := S) (l := C))))
          have b3 : shI R T (C.filter S) = (C.length : Int) - (nuR R T C : Int) := hS
          omega
        rw [decide_eq_true (p := V.int ((Ld.nuO C T (fitR R) : Nat) : Int) = V.int (((enKvs gc C).length : Nat) - m)) (congrArg V.int hme)]
        refine iteF ?_
        have s37 := s3.trans z1
        refine ⟨fun σ' H' => Same B2 H' ∧ σ' = [some (.ref a), some (.ref h), some (.int (0 + (i : Nat))), some (.ref p), some (.ref o), some (.ref G), some (.int (nuR R T C : Nat)), some (.ref sd), y8, x9, x10, x11, x12, none], ?_, ?_⟩
        · have zero : nW R T C (nuR R T C + 1) = 0 := by
            have : ¬ Ld.wO C T (fitR R) (nuR R T C + 1) ≠ [] := fun z => Nat.not_succ_le_self _ (Ld.wO_ne.mp z)
            exact List.length_eq_zero_iff.mpr (Classical.not_not.mp this)
          refine ⟨_, rfl, R, o, T, C, rfl, ob2.same s37, fun H8 a' g s8 _ hnd hsub hpos => ?_, fun H8 s8 hall => ?_⟩
          · have hlt : nuR R T C < C.length := by
              have b1 : shI R T g ≤ (C.length : Int) - (nuR R T C : Int) := Ld.short_le hCn hTn hnd hsub
              omega
            refine ⟨rfl, _, rfl, _, rfl, p, _, 2, _, rfl, rfl, SqT.of (s8 _ _ (s37 _ _ bp)), rfl, lo, _, rfl, s8 _ _ (s37 _ _ blo), rfl, rfl, _, rfl, ?_⟩
            rw [decide_eq_false (p := V.int ((Ld.nuO C T (fitR R) : Nat) : Int) = V.int ((enKvs gc C).length : Nat)) (fun z => by rw [ekl] at z; injection z with z; have : nuR R T C = C.length := Int.ofNat.inj z; omega)]
            refine iteF ⟨_, rfl, _, rfl, _, _, rfl, rfl, R, o, T, C, nuR R T C + 1, rfl, ob2.same (s37.trans s8), by omega, fun Hz sz => ⟨rfl, _, rfl, ?_⟩⟩
            rw [decide_eq_true (p := V.int ((nW R T C (nuR R T C + 1) : Nat) : Int) = V.int 0) (by rw [zero]; rfl)]
            exact iteF ⟨(s37.trans s8).trans sz, rfl⟩
          · have heq : nuR R T C = C.length := by
              obtain ⟨S, hS⟩ := Ld.short_ex (C := C) (U := T) (fit := fitR R) hCn hTn
              have b3 : shI R T (C.filter S) = (C.length : Int) - (nuR R T C : Int) := hS
              have b4 := hall (C.filter S) ((asc_cL.sublist hlab.c).sublist List.filter_sublist) fun x hx => (List.mem_filter.mp hx).1
              omega
            refine ⟨rfl, _, rfl, _, rfl, p, _, 2, _, rfl, rfl, SqT.of (s8 _ _ (s37 _ _ bp)), rfl, lo, _, rfl, s8 _ _ (s37 _ _ blo), rfl, rfl, _, rfl, ?_⟩
            rw [decide_eq_true (p := V.int ((Ld.nuO C T (fitR R) : Nat) : Int) = V.int ((enKvs gc C).length : Nat)) (by rw [ekl]; exact congrArg (fun n : Nat => V.int n) heq)]
            refine iteF ⟨_, rfl, _, rfl, _, _, rfl, rfl, R, o, T, C, nuR R T C + 1, rfl, ob2.same (s37.trans s8), by omega, fun Hz sz => ⟨rfl, _, rfl, ?_⟩⟩
            rw [decide_eq_true (p := V.int ((nW R T C (nuR R T C + 1) : Nat) : Int) = V.int 0) (by rw [zero]; rfl)]
            exact iteF ⟨(s37.trans s8).trans sz, rfl⟩
        · clear lG l1 l2 l3 hLl z1 z2 hmax hm hme s37 hD s3
          rintro σ B3 ⟨s3, rfl⟩
          have ob3 := ob2.same s3
          have nf3 : ∀ {Hx : Hp}, Same B2 Hx → ∀ dx a b cc, Hx o = some (.ins (cOff K) dx [("own_catalog", cc), ("found", .ref a), ("lost", .ref b)]) → (a ≠ fo ∧ a ≠ lo) ∧ b ≠ fo ∧ b ≠ lo := fun sx dx a b cc e => by
            obtain ⟨dx', f', l', e', _⟩ := ob2.ex
            have e2 := sx _ _ e'
            rw [e2] at e
            have e3 := Option.some.inj e
            rw [e3] at e'
            exact nf2 _ _ _ _ e'
          have blo3 := s3 _ _ blo
          have bfo3 := s3 _ _ bfo
          have bp3 := s3 _ _ bp
          have pfo : p ≠ fo := ne_of bp bfo (by intro z; cases z)
          refine ⟨lo, _, blo3, trivial, fun od => ⟨_, rfl, p, _, 2, _, rfl, rfl, SqT.of (by rw [upd_ne plo]; exact bp3), rfl, lo, od, rfl, .inl ⟨_, upd_same, ?_⟩⟩⟩
          have obL : OffAt K (upd B3 lo (.frz od (.dK (enKvs gc C)))) R o T C := ob3.lock blo3 (fun l hl => let ⟨r, xs, e⟩ := hvc l hl; ⟨r, xs, s3 _ _ e⟩) fun dx a b cc e => ⟨(nf3 s3 dx a b cc e).1.2, (nf3 s3 dx a b cc e).2.2⟩
          refine for_it walk_keys (fun ii σ H' => Same (upd B3 lo (.frz od (.dK (enKvs gc C)))) H' ∧ ∃ z8 z9 z10, σ = [some (.ref a), some (.ref h), some (.int (0 + (i : Nat))), some (.ref p), some (.ref o), some (.ref G), some (.int (nuR R T C : Nat)), some (.ref sd), z8, z9, z10, x11, x12, none])
            ⟨Same.refl _, _, _, _, rfl⟩ (fun ii σ H' _ z => z.1 _ _ upd_same) ?_ ?_
          · rintro j v σ H6 H7 hj ⟨t1, z8, z9, z10, rfl⟩ ⟨rfl, k, u, hg, rfl⟩
            unfold enKvs at hg
            obtain ⟨cl, hc, e⟩ := get_map hg
            cases e
            have hcC := mem_of_get hc
            have hclT := hlab.cNotT hcC
            have ob7 := obL.same t1
            have fo7 : H7 fo = some (.dK (enKvs gt T)) := t1 _ _ (by rw [upd_ne h8]; exact bfo3)
            have p7 : H7 p = _ := t1 _ _ (by rw [upd_ne plo]; exact bp3)
            have v7 : ∀ l ∈ T, ∃ r xs, H7 (gt l).v = some (.tup (.ref r :: xs)) := fun l hl => by
              obtain ⟨r, xs, e⟩ := hvt l hl
              have e3 := s3 _ _ e
              exact ⟨r, xs, t1 _ _ (by rw [upd_ne (ne_of e3 blo3 (by intro z; cases z))]; exact e3)⟩
            have nf7 : ∀ dx a b cc, H7 o = some (.ins (cOff K) dx [("own_catalog", cc), ("found", .ref a), ("lost", .ref b)]) → a ≠ fo ∧ b ≠ fo := fun dx a b cc e => by
              obtain ⟨dx', f', l', e', _⟩ := ob3.ex
              have e2 := t1 _ _ (show upd B3 lo (.frz od (.dK (enKvs gc C))) o = _ by rw [upd_ne (ne_of e' blo3 (by intro z; cases z))]; exact e')
              rw [e2] at e
              have e3 := Option.some.inj e
              rw [e3] at e'
              have := nf3 s3 _ _ _ _ e'
              exact ⟨this.1.1, this.2.1⟩
            refine ⟨fo, _, fo7, trivial, fun od2 => ⟨_, rfl, p, _, 1, _, rfl, rfl, SqT.of (by rw [upd_ne pfo]; exact p7), rfl, fo, od2, rfl, .inl ⟨_, upd_same, ?_⟩⟩⟩
            have obF : OffAt K (upd H7 fo (.frz od2 (.dK (enKvs gt T)))) R o T C := ob7.lock fo7 v7 nf7
            refine for_it walk_keys (fun ii σ H' => Same (upd H7 fo (.frz od2 (.dK (enKvs gt T)))) H' ∧ ∃ z9 z10, σ = [some (.ref a), some (.ref h), some (.int (0 + (i : Nat))), some (.ref p), some (.ref o), some (.ref G), some (.int (nuR R T C : Nat)), some (.ref sd), some (.str cl), z9, z10, x11, x12, none])
              ⟨Same.refl _, _, _, rfl⟩ (fun ii σ H' _ z => z.1 _ _ upd_same) ?_ ?_
            · rintro j2 v σ H8 H9 hj2 ⟨u1, y9, y10, rfl⟩ ⟨rfl, k, u, hg, rfl⟩
              unfold enKvs at hg
              obtain ⟨t, ht, e⟩ := get_map hg
              cases e
              have htT := mem_of_get ht
              have htC := hlab.tNotC htT
              have ob9 := obF.same u1
              refine ⟨_, rfl, _, rfl, _, rfl, R, o, T, C, cl, rfl, ob9, .inr hcC, fun D1 Ha sa hD1 => ⟨D1, _, rfl, .inl (SqL.of hD1), rfl, flat_strs _, ?_⟩⟩
              have e1 : inV (V.str t) ((cands R T C cl).map V.str) = fitR R cl t := by
                rw [inV_strs]; unfold cands; rw [if_pos hcC, Bool.eq_iff_iff, decide_eq_true_iff, List.mem_filter]
                exact ⟨fun z => z.2, fun z => ⟨htT, z⟩⟩
              refine ⟨_, rfl, _, rfl, _, rfl, _, rfl, R, o, T, C, t, rfl, ob9.same sa, .inl htT, fun D2 Hb2 sb' hD2 => ⟨D2, _, rfl, .inl (SqL.of hD2), rfl, flat_strs _, rfl, _, rfl, ?_⟩⟩
              have e2 : inV (V.str cl) ((cands R T C t).map V.str) = fitR R cl t := by
                rw [inV_strs]; unfold cands; rw [if_neg htC, Bool.eq_iff_iff, decide_eq_true_iff, List.mem_filter]
                exact ⟨fun z => z.2, fun z => ⟨hcC, z⟩⟩
              have e3 : (!decide (V.bl (inV (V.str t) ((cands R T C cl).map V.str)) = V.bl (inV (V.str cl) ((cands R T C t).map V.str)))) = false := by rw [e1, e2]; simp
              show if (!decide (V.bl (inV (V.str t) ((cands R T C cl).map V.str)) = V.bl (inV (V.str cl) ((cands R T C t).map V.str)))) = true then _ else _
              rw [e3]
              have sab := sa.trans sb'
              refine iteF ⟨_, rfl, fitR R cl t, congrArg V.bl e1, ?_⟩
              by_cases hf : fitR R cl t = true
              · rw [hf]
                refine iteT ⟨_, rfl, _, rfl, _, rfl, _, rfl, R, o, T, C, cl, t, rfl, ob9.same sab, hcC, htT, hf, fun Hz sz => ⟨true, rfl, iteF ⟨u1.trans (sab.trans sz), _, _, rfl⟩⟩⟩
              · rw [show fitR R cl t = false by simpa using hf]
                exact iteF (iteF ⟨u1.trans sab, _, _, rfl⟩)
            · rintro σ H8 ⟨u1, y9, y10, rfl⟩
              refine ⟨u1 _ _ upd_same, ?_⟩
              have su := Same.unlock fo7 u1
              have ob8 := ob7.same su
              refine ⟨_, rfl, _, rfl, _, rfl, R, o, T, C, cl, rfl, ob8, hcC, fun D1 Ha ws sa hD1 hn => ⟨D1, _, rfl, .inl (SqL.of hD1), rfl, flat_strs _, _, rfl, ?_⟩⟩
              show if inV (V.str cl) (ws.map V.str) = true then _ else _
              rw [inV_strs, decide_eq_false hn]
              refine iteF ⟨_, rfl, _, rfl, R, o, T, C, rfl, ob8.same sa, fun D2 Hb2 ws2 sb' hD2 hiff => ⟨D2, _, rfl, .inl (SqL.of hD2), rfl, flat_strs _, ?_⟩⟩
              have sab := sa.trans sb'
              refine ⟨_, rfl, _, rfl, R, o, T, C, cl, rfl, ob8.same sab, .inr hcC, fun D3 Hc sc hD3 => ⟨by show 0 ≤ sizeLine; decide, fun p5 hp5 => ?_⟩⟩
              have hw : ∀ x ∈ cands R T C cl, wordOk x := by
                intro x hx
                unfold cands at hx
                rw [if_pos hcC] at hx
                exact words_tL x (hlab.t.subset (List.mem_filter.mp hx).1)
              refine ⟨.list ((cands R T C cl).map PyData.str), .list [], .lst (SqL.of (upd_keep hD3 hp5)) (dp_strs _), .lst (SqL.of upd_same) .nil, shaped_strs hw, rfl, rfl, _, rfl, ?_⟩
              have e4 : (!decide (V.bl (inV (V.str cl) (ws2.map V.str)) = V.bl (PyData.eqv (.list ((cands R T C cl).map PyData.str)) (.list [])))) = false := by
                rw [inV_strs, eqv_nilL]
                have : decide (cl ∈ ws2) = (cands R T C cl).isEmpty := by
                  rw [Bool.eq_iff_iff, decide_eq_true_iff, List.isEmpty_iff, hiff]
                  exact ⟨fun z => z.2, fun z => ⟨.inr hcC, z⟩⟩
                rw [this]; simp
              show if (!decide (V.bl (inV (V.str cl) (ws2.map V.str)) = V.bl (PyData.eqv (.list ((cands R T C cl).map PyData.str)) (.list [])))) = true then _ else _
              rw [e4]
              exact iteF ⟨t1.trans (su.trans (Same.upd' (sab.trans sc) hp5)), _, _, _, rfl⟩
          · rintro σ H6 ⟨t1, z8, z9, z10, rfl⟩
            refine ⟨t1 _ _ upd_same, ?_⟩
            refine gen_seq (fun Hc => Same B2 Hc) (s3.trans (Same.unlock blo3 t1)) ?_
            clear t1 obL blo3 bfo3 bp3 nf3 ob3 s3
            intro B4 s4
            have ob4 := ob2.same s4
            refine ⟨_, rfl, p, _, 1, _, rfl, rfl, SqT.of (s4 _ _ bp), rfl, fo, _, rfl, .inl (s4 _ _ bfo), fun q1 hq1 => ?_⟩
            have sq1 := Same.upd' (o := .lst ((enKvs gt T).map fun kv => kV kv.1)) s4 hq1
            refine ⟨_, rfl, p, _, 2, _, rfl, rfl, SqT.of (sq1 _ _ bp), rfl, lo, _, rfl, .inl (sq1 _ _ blo), fun q2 hq2 => ?_⟩
            have sq2 := Same.upd' (o := .lst ((enKvs gc C).map fun kv => kV kv.1)) sq1 hq2
            refine ⟨q1, q2, _, _, rfl, rfl, upd_keep upd_same hq2, upd_same, by unfold enKvs; simp [sizeLine_eq]; omega, fun q3 hq3 => ?_⟩
            have ek : (enKvs gt T).map (fun kv => kV kv.1) ++ (enKvs gc C).map (fun kv => kV kv.1) = (T ++ C).map V.str := by unfold enKvs; simp [kV, Function.comp_def]
            have sq3 := Same.upd' (o := .lst ((enKvs gt T).map (fun kv => kV kv.1) ++ (enKvs gc C).map (fun kv => kV kv.1))) sq2 hq3
            refine ⟨q3, rfl, ⟨_, SqL.of upd_same⟩, ?_⟩
            refine for_it (walk_list (xs := (T ++ C).map V.str)) (fun ii σ H' => Same B2 H' ∧ H' q3 = some (.lst ((T ++ C).map V.str)) ∧ ∃ z11 z12, σ = [some (.ref a), some (.ref h), some (.int (0 + (i : Nat))), some (.ref p), some (.ref o), some (.ref G), some (.int (nuR R T C : Nat)), some (.ref sd), z8, z9, z10, z11, z12, none])
              ⟨sq3, by rw [upd_same, ek], _, _, rfl⟩ (fun ii σ H' _ z => SqL.of z.2.1) ?_ ?_
            · rintro j v σ H6 H7 hj ⟨t1, tq, z11, z12, rfl⟩ ⟨rfl, hv⟩
              obtain ⟨l, hl, rfl⟩ := get_map hv
              have hm : l ∈ T ∨ l ∈ C := List.mem_append.mp (mem_of_get hl)
              have ob7 := ob2.same t1
              obtain ⟨odx, of, ol, o1, _⟩ := ob7.ex
              have hle : nuR R (Ld.rmv l T) (Ld.rmv l C) ≤ nuR R T C ∧ nuR R T C ≤ nuR R (Ld.rmv l T) (Ld.rmv l C) + 1 ∧ (cands R T C l = [] → nuR R (Ld.rmv l T) (Ld.rmv l C) = nuR R T C) := by
                rcases hm with ht | hc
                · rw [rmv_no (hlab.tNotC ht)]
                  refine ⟨Ld.nuO_t1 l, Ld.nuO_t2 l, fun z => Ld.nuO_t3 ?_⟩
                  unfold cands at z; rw [if_neg (hlab.tNotC ht)] at z; exact z
                · rw [rmv_no (hlab.cNotT hc)]
                  refine ⟨Ld.nuO_c1 l, Ld.nuO_c2 hCn l, fun z => Ld.nuO_c3 ?_⟩
                  unfold cands at z; rw [if_pos hc] at z; exact z
              obtain ⟨n1, n2, n3⟩ := hle
              refine ⟨_, rfl, o, odx, _, rfl, o1, rfl, _, rfl, R, o, T, C, l, rfl, ob7, hm, fun o2 Ha sa ho2 => ⟨R, o2, _, _, rfl, ho2, fun Hb2 sb' => ?_⟩⟩
              have sab := sa.trans sb'
              refine ⟨_, rfl, _, rfl, R, o, T, C, l, rfl, ob7.same sab, hm, fun z Hc sc hz => ⟨rfl, _, rfl, _, rfl, _, _, rfl, rfl, rfl, rfl, _, rfl, ?_⟩⟩
              have e1 : (!decide (V.bl (decide (V.str z = V.str "always")) = V.bl (decide (V.int ((nuR R (Ld.rmv l T) (Ld.rmv l C) : Nat) : Int) = V.int (((nuR R T C : Nat) : Int) - 1))))) = false := by
                by_cases hz1 : z = "always"
                · have := hz.mp hz1
                  rw [decide_eq_true (congrArg V.str hz1), decide_eq_true (show V.int ((nuR R (Ld.rmv l T) (Ld.rmv l C) : Nat) : Int) = V.int (((nuR R T C : Nat) : Int) - 1) by congr 1; omega)]; rfl
                · have h9 : ¬ nuR R (Ld.rmv l T) (Ld.rmv l C) ≠ nuR R T C := fun x => hz1 (hz.mpr x)
                  rw [decide_eq_false (fun x => hz1 (V.str.inj x)), decide_eq_false (p := V.int ((nuR R (Ld.rmv l T) (Ld.rmv l C) : Nat) : Int) = V.int (((nuR R T C : Nat) : Int) - 1)) (fun x => by have := V.int.inj x; omega)]; rfl
              show if (!decide (V.bl (decide (V.str z = V.str "always")) = V.bl (decide (V.int ((nuR R (Ld.rmv l T) (Ld.rmv l C) : Nat) : Int) = V.int (((nuR R T C : Nat) : Int) - 1))))) = true then _ else _
              rw [e1]
              refine iteF ⟨_, rfl, _, rfl, _, _, rfl, rfl, _, rfl, ?_⟩
              rw [decide_eq_false (p := ((nuR R T C : Nat) : Int) < ((nuR R (Ld.rmv l T) (Ld.rmv l C) : Nat) : Int)) (by omega)]
              refine iteF ⟨_, rfl, _, rfl, R, o, T, C, l, rfl, ob7.same (sab.trans sc), hm, fun z2 Hd sd' hz2 => ⟨rfl, _, rfl, ?_⟩⟩
              have sabd := (sab.trans sc).trans sd'
              by_cases hz1 : z2 = "always"
              · rw [decide_eq_true (congrArg V.str hz1)]
                refine iteT ⟨_, rfl, _, rfl, R, o, T, C, rfl, ob7.same sabd, fun D2 He ws2 se hD2 hiff => ⟨D2, _, rfl, .inl (SqL.of hD2), rfl, flat_strs _, _, rfl, ?_⟩⟩
                show if inV (V.str l) (ws2.map V.str) = true then _ else _
                rw [inV_strs, decide_eq_false (fun x => hz2.mp hz1 (n3 ((hiff l).mp x).2))]
                exact iteF ⟨t1.trans (sabd.trans se), sabd.trans se _ _ tq, _, _, rfl⟩
              · rw [decide_eq_false (fun x => hz1 (V.str.inj x))]
                exact iteF (iteF ⟨t1.trans sabd, sabd _ _ tq, _, _, rfl⟩)
            · rintro σ H6 ⟨t1, tq, z11, z12, rfl⟩
              refine gen_seq (fun Hc => Same B2 Hc) t1 ?_
              clear t1 tq sq3 hq3 sq2 hq2 sq1 hq1 ob4 s4 q3 q2 q1
              intro B5 s5
              have sHb5 : Same Hb B5 := sb2.trans s5
              have hsd5 := s5 _ _ hsd
              refine ⟨sd, _, hsd5, trivial, fun od2 => ⟨_, rfl, sd, od2, rfl, .inl ⟨_, upd_same, fun D hD => ?_⟩⟩⟩
              have sL : Same Hb (upd B5 sd (.frz od2 (.dK (ks.map fun p => ((Sum.inr p.1 : Key), V.str p.2))))) := Same.updN sHb5 hsdb
              have obL := hob.same sL
              refine lc_it walk_keys (PvS (upd B5 sd (.frz od2 (.dK (ks.map fun p => ((Sum.inr p.1 : Key), V.str p.2))))) D (fun _ => [])) (.zero hD rfl) (fun ii H' _ z => z.1 _ _ upd_same) ?_ ?_
              · rintro j v H6 H7 hj ⟨t1, t2⟩ ⟨rfl, k, u, hg, rfl⟩
                obtain ⟨pr, hpr, e⟩ := get_map hg
                cases e
                have hpm := mem_of_get hpr
                obtain ⟨k1, k2, k3, k4⟩ := hks pr hpm
                have vs1 : valV (ks.map fun p => ((Sum.inr p.1 : Key), V.str p.2)) (.inr pr.1) = some (.str pr.2) := val_pairs (fun p : Str × Str => p.1) (fun p => V.str p.2) ks hkn pr hpm
                refine ⟨rfl, _, rfl, R, o, T, C, rfl, obL.same t1, fun fd Ha M sa hM hfd => ?_⟩
                obtain ⟨mk1, mk2⟩ := Ld.wO_keys hCn hM
                have hp1 : nuR R (Ld.rmv pr.2 T) (Ld.rmv pr.1 C) + 1 ≤ nuR R T C := Ld.nuO_p1 hCn hTn k1 k2 k3
                have hpM : (pr.1, pr.2) ∈ M := by
                  have hnu : nuR R T C = (nuR R T C - 1) + 1 := by omega
                  have hjs := k4
                  unfold judS at hjs
                  rw [if_neg (by rw [k3]; decide)] at hjs
                  split at hjs
                  · exact absurd hjs (by decide)
                  · split at hjs
                    · rename_i he
                      refine Ld.wO_all hCn hTn k1 k2 k3 (k := nuR R T C - 1) ?_ M (by rw [← hnu]; exact hM)
                      rw [← hnu]; exact he
                    · exact absurd hjs (by decide)
                have vs2 : valV (M.map fun p => ((Sum.inr p.1 : Key), V.str p.2)) (.inr pr.1) = some (.str pr.2) := val_pairs (fun p : Str × Str => p.1) (fun p => V.str p.2) M mk1 (pr.1, pr.2) hpM
                refine ⟨fd, rfl, .inl ⟨_, .inl hfd⟩, _, rfl, _, vs2 ▸ DGet.k (k := .inr pr.1) hfd, _, rfl, _, rfl, sd, _, rfl, .inl ⟨_, .inr pr.1, .inr ⟨od2, sa _ _ (t1 _ _ upd_same)⟩, rfl, vs1.symm⟩, rfl, _, rfl, ?_⟩
                have e1 : (!decide (V.str pr.2 = V.str pr.2)) = false := by simp
                show if (!decide (V.str pr.2 = V.str pr.2)) = true then _ else _
                rw [e1]
                exact iteF (.skip (t1.trans sa) (sa _ _ t2) rfl)
              · rintro H6 ⟨t1, t2⟩
                refine ⟨t1 _ _ upd_same, ?_⟩
                have s6 := Same.unlock hsd5 t1
                have hDs : D ≠ sd := fun e => by rw [e, upd_same] at hD; cases hD
                have d6 : upd H6 sd (.dK (ks.map fun p => ((Sum.inr p.1 : Key), V.str p.2))) D = some (.lst []) := by rw [upd_ne hDs]; exact t2
                refine ⟨by show 0 ≤ sizeLine; decide, fun p2 hp2 => ?_⟩
                refine ⟨.list [], .list [], .lst (SqL.of (upd_keep d6 hp2)) .nil, .lst (SqL.of upd_same) .nil, rfl, rfl, _, rfl, iteF ?_⟩
                have s7 := (s5.trans s6).trans (Same.upd (o := .lst []) hp2)
                have ob7 := ob2.same s7
                refine ⟨_, rfl, R, o, T, C, rfl, ob7, fun D2 Ha out sa hD2 hlen => ⟨.ref D2, out.length, rfl, .inl ⟨_, SqL.of hD2, rfl⟩, ?_⟩⟩
                refine ⟨_, rfl, _, rfl, R, o, T, C, nuR R T C, rfl, ob7.same sa, by have : nuR R T C ≤ C.length := Ld.nuO_le; omega, fun Hb2 sb' => ⟨rfl, _, rfl, ?_⟩⟩
                have e1 : (!decide (V.int ((out.length : Nat) : Int) = V.int ((nW R T C (nuR R T C) : Nat) : Int))) = false := by rw [hlen]; simp
                show if (!decide (V.int ((out.length : Nat) : Int) = V.int ((nW R T C (nuR R T C) : Nat) : Int))) = true then _ else _
                rw [e1]
                exact iteF ⟨dB.same ((sBB.trans s7).trans (sa.trans sb')), _, _, _, _, _, _, _, _, _, _, _, rfl⟩
end
end Lk
/-! Kl1 -/
namespace Lk
open PySem
/-- the flag dropped -/
def dropG : GenState → GenState
  | .suspended k l c p fs _ => .suspended k l c p fs false
  | g => g
theorem dropG_idem (g : GenState) : dropG (dropG g) = dropG g := by cases g <;> rfl
theorem dropG_comp : dropG ∘ dropG = dropG := funext dropG_idem
theorem dropG_susp (k l c p fs cl) : dropG (.suspended k l c p fs cl) = .suspended k l c p fs false := rfl
theorem dropG_fresh (c) : dropG (.fresh c) = .fresh c := rfl
theorem dropG_running : dropG .running = .running := rfl
theorem dropG_finished : dropG .finished = .finished := rfl
def dropS (s : Shared) : Shared := { s with gens := s.gens.map dropG }
theorem dropG_forget (g : GenState) : dropG g.forget = (dropG g).forget := by cases g <;> rfl
theorem dropS_forget (s : Shared) : dropS s.forget = (dropS s).forget := by
  obtain ⟨heap, gens, drawn, toks, os⟩ := s
  simp only [dropS, Shared.forget, Array.map_map]
  congr 2
  funext g; exact dropG_forget g
def goD : Step → Option (Shared × Thread)
  | .go s t => some (dropS s, t)
  | .halt .. => none
section
variable (den : Code → Sem Fin) (prog : Program) (w : World)
theorem goD_finish (o : Outcome) (s : Shared) : goD (finish o s) = none := by unfold finish; split <;> rfl
theorem drop_map (gens : Array GenState) : (gens.map dropG).map dropG = gens.map dropG := by
  rw [Array.map_map]; congr 1; funext g; cases g <;> rfl
theorem drop_step (s : Shared) (t : Thread) : goD (step den prog w (dropS s) t) = goD (step den prog w s t) := by
  obtain ⟨heap, gens, drawn, toks, os⟩ := s
  obtain ⟨cur, code, pos, stack⟩ := t
  cases cur with
  | pure fin =>
    cases fin with
    | again c => simp only [step, dropS, goD, drop_map, dropG_comp, dropG_idem, dropG_susp, dropG_fresh, dropG_running, dropG_finished]
    | done f =>
      cases stack with
      | nil => simp only [step, dropS, goD_finish]
      | cons F rest => cases F <;> simp [step, dropS, goD, drop_map, dropG_comp, dropG_idem, dropG_susp, dropG_fresh, dropG_running, dropG_finished, Array.map_setIfInBounds]
  | raise e =>
    cases stack with
    | nil => simp only [step, dropS, goD_finish]
    | cons F rest => cases F <;> simp [step, dropS, goD, drop_map, dropG_comp, dropG_idem, dropG_susp, dropG_fresh, dropG_running, dropG_finished, Array.map_setIfInBounds]
  | finish e =>
    have q : ∀ (b : Bool) (x y : Step), goD x = none → goD y = none → goD (if b = true then x else y) = none := fun b x y h1 h2 => by cases b <;> assumption
    exact (q (leftWithCleanup (gens.map dropG)) (.halt _ _) (.halt _ _) rfl rfl).trans (q (leftWithCleanup gens) (.halt _ _) (.halt _ _) rfl rfl).symm
  | load a part k => simp only [step, dropS]; cases heap.get? a <;> simp [goD, dropS, drop_map, dropG_comp, dropG_idem, dropG_susp, dropG_fresh, dropG_running, dropG_finished]
  | update a part f k =>
    by_cases h : (heap.get? a).isSome = true
    · simp only [step, dropS, h, if_true]; simp [goD, dropS, drop_map, dropG_comp, dropG_idem, dropG_susp, dropG_fresh, dropG_running, dropG_finished]
    · simp only [step, dropS, h]; simp [goD]
  | choose src n k =>
    by_cases h : n = 0
    · simp only [step, dropS, h, if_true]; simp [goD]
    · simp only [step, dropS, h, if_false]; simp [goD, dropS, drop_map, dropG_comp, dropG_idem, dropG_susp, dropG_fresh, dropG_running, dropG_finished]
  | genState g k =>
    simp only [step, dropS, Array.getElem?_map]
    cases gens[g]? with
    | none => rfl
    | some x => cases x <;> simp [goD, dropS, drop_map, dropG_comp, dropG_idem, dropG_susp, dropG_fresh, dropG_running, dropG_finished]
  | resume g r l k =>
    simp only [step, dropS, Array.getElem?_map]
    cases gens[g]? with
    | none => rfl
    | some x =>
      cases x with
      | fresh c =>
        cases r with
        | send v => cases v <;> simp [goD, dropS, drop_map, dropG_comp, dropG_idem, dropG_susp, dropG_fresh, dropG_running, dropG_finished, Array.map_setIfInBounds]
        | throw e => simp [goD, dropS, drop_map, dropG_comp, dropG_idem, dropG_susp, dropG_fresh, dropG_running, dropG_finished, Array.map_setIfInBounds]
      | _ => simp [goD, dropS, drop_map, dropG_comp, dropG_idem, dropG_susp, dropG_fresh, dropG_running, dropG_finished, Array.map_setIfInBounds]
  | yield v g0 l kk =>
    simp only [step, dropS]
    cases splitAtGen stack with
    | none => rfl
    | some x =>
      obtain ⟨fs, ⟨g, k, c, p⟩, rest⟩ := x
      simp [goD, dropS, drop_map, dropG_comp, dropG_idem, dropG_susp, dropG_fresh, dropG_running, dropG_finished, Array.map_setIfInBounds]
  | newGen c k => simp [step, goD, dropS, drop_map, dropG_comp, dropG_idem, dropG_susp, dropG_fresh, dropG_running, dropG_finished]
  | _ => simp [step, goD, dropS, drop_map, dropG_comp, dropG_idem, dropG_susp, dropG_fresh, dropG_running, dropG_finished]
/-- alike up to flags and what frames have kept -/
def Sim (s : Shared) (t : Thread) (r : Shared) (u : Thread) : Prop := dropS r.forget = dropS s.forget ∧ u.forget = t.forget
theorem Sim.heap {s r : Shared} {t u : Thread} (x : Sim s t r u) : r.heap = s.heap := (Shared.mk.inj x.1).1
theorem Sim.os {s r : Shared} {t u : Thread} (x : Sim s t r u) : r.os = s.os := (Shared.mk.inj x.1).2.2.2.2
theorem forget_go {x : Step} {s : Shared} {t : Thread} (h : x.forget = .go s t) : ∃ s1 t1, x = .go s1 t1 ∧ s1.forget = s ∧ t1.forget = t := by
  cases x with
  | go a b => injection h with h1 h2; exact ⟨a, b, rfl, h1, h2⟩
  | halt o a => cases h
theorem goD_some {x : Step} {s : Shared} {t : Thread} (h : goD x = some (s, t)) : ∃ s1, x = .go s1 t ∧ dropS s1 = s := by
  cases x with
  | go a b => simp only [goD, Option.some.injEq, Prod.mk.injEq] at h; exact ⟨a, by rw [h.2], h.1⟩
  | halt o a => cases h
theorem sim_step {s s1 r : Shared} {t t1 u : Thread} (h : (step den prog w s t).forget = (Step.go s1 t1).forget) (x : Sim s t r u) : ∃ r1 u1, step den prog w r u = .go r1 u1 ∧ Sim s1 t1 r1 u1 := by
  have h1 := (step_forget den prog w s t).trans h
  obtain ⟨a, b, e1, fa, fb⟩ := forget_go h1
  have h2 := drop_step den prog w s.forget t.forget
  rw [e1] at h2
  rw [← x.1, ← x.2] at h2
  have h3 := (drop_step den prog w r.forget u.forget).symm.trans h2
  obtain ⟨a', e2, da⟩ := goD_some h3
  have h4 := step_forget den prog w r u
  rw [e2] at h4
  obtain ⟨r1, u1, e3, fr, fu⟩ := forget_go h4.symm
  refine ⟨r1, u1, e3, ?_, fu.trans fb⟩
  rw [fr, dropS_forget, da, ← dropS_forget, fa]
/-- flagged ones come from flagged ones -/
theorem flag_step {r r1 : Shared} {u u1 : Thread} (h : step den prog w r u = .go r1 u1) (hc : u.yieldsInsideHandler = false) {i : Nat} {k : Resume → Sem Fin} {l : List Value} {c : Code} {p : Pos} {fs : List Frame}
    (e : r1.gens[i]? = some (.suspended k l c p fs true)) : r.gens[i]? = some (.suspended k l c p fs true) := by
  have setne : ∀ (gens : Array GenState) (g : Nat) (x : GenState), (∀ k l c p fs, x ≠ .suspended k l c p fs true) → (gens.setIfInBounds g x)[i]? = some (.suspended k l c p fs true) → gens[i]? = some (.suspended k l c p fs true) := fun gens g x hx e => by
    by_cases hi : g = i
    · subst hi
      rw [Array.getElem?_setIfInBounds_self] at e
      split at e
      · injection e with e; exact absurd e (hx _ _ _ _ _)
      · cases e
    · rwa [Array.getElem?_setIfInBounds_ne hi] at e
  obtain ⟨heap, gens, drawn, toks, os⟩ := r
  obtain ⟨cur, code, pos, stack⟩ := u
  cases cur with
  | pure fin =>
    cases fin with
    | again c => simp only [step] at h; cases h; exact e
    | done f =>
      cases stack with
      | nil => simp only [step, finish] at h; split at h <;> cases h
      | cons F rest =>
        cases F <;> simp only [step] at h <;> cases h
        · exact e
        · exact setne _ _ _ (fun _ _ _ _ _ => by simp) e
  | raise x =>
    cases stack with
    | nil => simp only [step, finish] at h; split at h <;> cases h
    | cons F rest =>
      cases F <;> simp only [step] at h <;> cases h
      · exact e
      · exact setne _ _ _ (fun _ _ _ _ _ => by simp) e
  | newGen c k =>
    simp only [step] at h; cases h
    have e : (gens.push (.fresh c))[i]? = _ := e
    rw [Array.getElem?_push] at e
    split at e
    · cases e
    · exact e
  | resume g x l k =>
    simp only [step] at h
    repeat' split at h
    all_goals first
      | cases h; done
      | (cases h; exact e)
      | (cases h; exact setne _ _ _ (fun _ _ _ _ _ => by simp) e)
  | yield v g0 l kk =>
    simp only [step] at h
    cases hs : splitAtGen stack with
    | none => rw [hs] at h; cases h
    | some x =>
      obtain ⟨fs1, ⟨g, k, c, p⟩, rest⟩ := x
      rw [hs] at h
      cases h
      have hq : (g0 || fs1.any Frame.guarded) = false := by simpa [Thread.yieldsInsideHandler, hs] using hc
      rw [hq] at e
      exact setne _ _ _ (fun _ _ _ _ _ => by simp) e
  | _ =>
    simp only [step] at h
    repeat' split at h
    all_goals first
      | (cases h; done)
      | (cases h; exact e)
end
/-- a generator's object -/
def GenAt (h : Heap) (a : Addr) : Prop := ∃ o, h.get? a = some o ∧ o.genNumber?.isSome = true
/-- whoever sleeps with a flag sleeps over one of d -/
def FlagOk (d : List Addr) (r : Shared) : Prop := ∀ (i : Nat) k l c p fs, r.gens[i]? = some (GenState.suspended k l c p fs true) → fs.any Frame.guarded = false ∧ ∃ it rr kw, c = .builtin "proto.yield_from" ⟨.ref it :: rr, kw⟩ ∧ it ∈ d
/-- all of d are generators -/
def GenD (d : List Addr) (h : Heap) : Prop := ∀ a ∈ d, GenAt h a
theorem shows_not {r : Shared} (hz : r.asleep) {it : Addr} {rr : List Value} {kw : List (Str × Value)} {fs : List Frame} {g : Bool} (hf : fs.any Frame.guarded = false) (hg : GenAt r.heap it) :
    closingShows r fs (.builtin "proto.yield_from" ⟨.ref it :: rr, kw⟩) g = false := by
  obtain ⟨o, e, n⟩ := hg
  obtain ⟨m, hm⟩ := Option.isSome_iff_exists.mp n
  simp only [closingShows, hf, Bool.false_or, delegateShows, e, hm, hz.1]
  cases g <;> rfl
theorem left_not {d : List Addr} {r : Shared} (hz : r.asleep) (x : FlagOk d r) (gd : GenD d r.heap) (b : Bool) : leftWithCleanup (forgetSuspended b r).gens = false := by
  unfold leftWithCleanup
  rw [Array.any_eq_false']
  intro y hy
  obtain ⟨z, hz1, rfl⟩ := Array.mem_map.mp hy
  obtain ⟨i, hi, e⟩ := Array.mem_iff_getElem.mp hz1
  cases z with
  | suspended k l c p fs cl =>
    cases cl with
    | false => simp
    | true =>
      obtain ⟨q1, it, rr, kw, rfl, q2⟩ := x i k l _ p fs (by rw [Array.getElem?_eq_getElem hi, e])
      have q3 := shows_not hz (rr := rr) (kw := kw) (g := true) q1 (gd it q2)
      simp [q3]
  | _ => simp
/-- from here the machine comes to an end that R allows -/
def Ends (P : Program) (w : World) (R : Result → Shared → Prop) (d : List Addr) (s : Shared) (t : Thread) : Prop :=
  ∀ r u, Sim s t r u → r.asleep → FlagOk d r → ∃ n res r', schedN (denote table) P w n (.single r u) = .halted (outcomeOf res) r' ∧ r'.heap.life = r.heap.life ∧ R res r'
end Lk
/-! Kl2 -/
namespace Lk
open PySem
section
variable {den : Code → Sem Fin} {prog : Program} {w : World}
theorem pick_own {r : Shared} {u : Thread} (hz : r.asleep) (hm : ∀ pr, (Config.single r u).moves pr = [.run 0]) : (Config.single r u).pick w = .ok (.run 0, .single r u) := by
  have h1 : (Config.single r u).collect? w.params = none := by
    simp [Config.collect?, Config.single, (nothing_to_collect _ _ _ r u hz.1).1]
  have h2 : (Config.single r u).collectable = [] := by
    simp [Config.collectable, Config.single, (nothing_to_collect w.params _ _ r u hz.1).2]
  unfold Config.pick
  rw [h1, h2]
  simp only [Config.pickThread, hm]
  cases w.params.lifetimes <;> rfl
theorem sstep_yield {r : Shared} {v : Value} {g : Bool} {l : List Value} {k : Resume → Sem Fin} {code : Code} {pos : Pos} {stack fs rest : List Frame} {b} (hz : r.asleep) (hsp : splitAtGen stack = some (fs, b, rest)) (hs : closingShows r fs code g = false) :
    sstep den prog w (.single r ⟨.yield v g l k, code, pos, stack⟩) = (step den prog w r ⟨.yield v g l k, code, pos, stack⟩).lift := by
  have hm : ∀ pr, (Config.single r ⟨.yield v g l k, code, pos, stack⟩).moves pr = [.run 0] := fun pr => by
    simp [Config.moves, Config.single, movesFrom, Thread.moves]
  have hl : ∀ others, lifeStep den prog w others r ⟨.yield v g l k, code, pos, stack⟩ = step den prog w r ⟨.yield v g l k, code, pos, stack⟩ := fun others => by
    unfold lifeStep
    split
    · simp only [collectorTurn?, hsp, hs, Thread.atItsEnd]
      simp [stepCounting, hz.2]
    · exact stepCounting_eq_step den prog w r _ hz.2
  simp only [sstep, pick_own hz hm, Config.move]
  simp only [Config.run, Config.single, entering_same]
  revert hl
  generalize step den prog w r ⟨.yield v g l k, code, pos, stack⟩ = X
  intro hl
  cases X <;> (simp [hl, others_single, frozenBadly, Thread.finalizes, Step.lift, Config.single])
theorem sstep_end {r : Shared} {res : Result} {c : Code} {p : Pos} (hz : r.asleep) (hl : ∀ b, leftWithCleanup (forgetSuspended b r).gens = false) :
    ∃ b, sstep den prog w (.single r ⟨leafOf res, c, p, []⟩) = .halt (outcomeOf res) (forgetSuspended b r) := by
  refine ⟨w.params.lifetimes == .anyTime, ?_⟩
  have fin : ∀ o b, finish o (forgetSuspended b r) = .halt o (forgetSuspended b r) := fun o b => by unfold finish; rw [hl b]; rfl
  have hst : ∀ b, step den prog w (forgetSuspended b r) ⟨leafOf res, c, p, []⟩ = .halt (outcomeOf res) (forgetSuspended b r) := fun b => by
    cases res <;> exact fin _ b
  have hm : ∀ pr, (Config.single r ⟨leafOf res, c, p, []⟩).moves pr = [.run 0] := fun pr => by
    cases res <;> simp [Config.moves, Config.single, movesFrom, Thread.moves, leafOf]
  have hli : ∀ others, lifeStep den prog w others r ⟨leafOf res, c, p, []⟩ = .halt (outcomeOf res) (forgetSuspended (w.params.lifetimes == .anyTime) r) := fun others => by
    rw [← hst (w.params.lifetimes == .anyTime)]
    cases res <;> simp [lifeStep, leafOf, Thread.special, Thread.atItsEnd, Thread.atCollectorCode, Thread.yieldsInsideHandler, collectorTurn?, stepCounting, forgetSuspended_heap, hz.2]
  simp only [sstep, pick_own hz hm, Config.move]
  cases res <;> simp [Config.run, Config.single, leafOf] at hli ⊢ <;> simp [hli, others_single, frozenBadly, Thread.finalizes]
/-- so many real steps -/
def RSteps (den : Code → Sem Fin) (prog : Program) (w : World) (r : Shared) (u : Thread) (r1 : Shared) (u1 : Thread) : Prop :=
  ∃ n, ∀ m, schedN den prog w (n + m) (.single r u) = schedN den prog w m (.single r1 u1)
theorem RSteps.one {r r1 : Shared} {u u1 : Thread} (h : sstep den prog w (.single r u) = .go (.single r1 u1)) : RSteps den prog w r u r1 u1 := ⟨1, fun m => by rw [Nat.add_comm]; simp only [schedN, h]⟩
theorem RSteps.trans {r r1 r2 : Shared} {u u1 u2 : Thread} (x : RSteps den prog w r u r1 u1) (y : RSteps den prog w r1 u1 r2 u2) : RSteps den prog w r u r2 u2 := by
  obtain ⟨n, hn⟩ := x
  obtain ⟨m, hm⟩ := y
  exact ⟨n + m, fun k => by rw [Nat.add_assoc, hn, hm]⟩
theorem calm_of {M : Model} {s s1 : Shared} {t t1 : Thread} (h : M.step s t = .go s1 t1) : t.calm = true ∧ (step M.den M.prog M.w s t).forget = (Step.go s1 t1).forget := by
  cases hl : t.loud with
  | true => rw [Model.step_loud M hl] at h; cases h
  | false =>
    rw [Model.step_quiet M hl] at h
    refine ⟨?_, by rw [← stepK_forget, h]⟩
    rw [Thread.calm_eq, hl]
    cases hr : t.refused with
    | false => rfl
    | true =>
      obtain ⟨what, e⟩ := stepK_refused M.den M.prog M.w (s := s) hr
      rw [e] at h; cases h
theorem msteps {M : Model} : ∀ (n : Nat) (s : Shared) (t : Thread) (s1 : Shared) (t1 : Thread), M.runN n s t = .running s1 t1 → ∀ r u, Sim s t r u → r.asleep →
    ∃ r1 u1, RSteps M.den M.prog M.w r u r1 u1 ∧ Sim s1 t1 r1 u1 ∧ r1.heap.life = r.heap.life ∧ ∀ (i : Nat) k l c p fs, r1.gens[i]? = some (GenState.suspended k l c p fs true) → r.gens[i]? = some (GenState.suspended k l c p fs true)
  | 0, s, t, s1, t1, h, r, u, x, _ => by
    cases h
    exact ⟨r, u, ⟨0, fun m => by rw [Nat.zero_add]⟩, x, rfl, fun _ _ _ _ _ _ e => e⟩
  | n + 1, s, t, s1, t1, h, r, u, x, hz => by
    rw [runN_succ] at h
    cases hs : M.step s t with
    | halt o s2 => rw [hs] at h; cases h
    | go s2 t2 =>
      rw [hs] at h
      obtain ⟨hc, hf⟩ := calm_of hs
      obtain ⟨r2, u2, e2, x2⟩ := sim_step M.den M.prog M.w hf x
      have hcu : u.calm = true := by rw [← Thread.calm_forget, x.2, Thread.calm_forget]; exact hc
      have hy : u.yieldsInsideHandler = false := by
        unfold Thread.calm at hcu
        simp only [Bool.and_eq_true, Bool.not_eq_true'] at hcu
        exact hcu.1.2
      have life := step_life M.den M.prog M.w r r2 u u2 e2
      have one : sstep M.den M.prog M.w (.single r u) = .go (.single r2 u2) := by
        rcases sstep_single M.den M.prog M.w r u hcu hz with q | q
        · rw [q, e2]; rfl
        · rw [q] at e2; cases e2
      obtain ⟨r1, u1, y1, y2, y3, y4⟩ := msteps n s2 t2 s1 t1 h r2 u2 x2 (Shared.asleep_of_life life hz)
      exact ⟨r1, u1, (RSteps.one one).trans y1, y2, y3.trans life, fun i k l c p fs e => flag_step M.den M.prog M.w e2 hy (y4 i k l c p fs e)⟩
end
section
variable {P : Program} {w : World} {R : Result → Shared → Prop} {d d1 : List Addr} {s s1 : Shared} {t t1 : Thread}
theorem ends_steps {n : Nat} (h : (model P w).runN n s t = .running s1 t1) (x : Ends P w R d s1 t1) : Ends P w R d s t := by
  intro r u y hz hf
  obtain ⟨r1, u1, ⟨k, hk⟩, z1, z2, z3⟩ := msteps n s t s1 t1 h r u y hz
  obtain ⟨m, res, r', e, q⟩ := x r1 u1 z1 (Shared.asleep_of_life z2 hz) fun i k l c p fs e => hf i k l c p fs (z3 i k l c p fs e)
  exact ⟨k + m, res, r', (hk m).trans e, q.1.trans z2, q.2⟩
theorem ends_end {res : Result} {c : Code} {p : Pos} (hd : GenD d s.heap) (x : ∀ r', r'.heap = s.heap → r'.os = s.os → R res r') : Ends P w R d s ⟨leafOf res, c, p, []⟩ := by
  intro r u y hz hf
  obtain ⟨cur, code, pos, stack⟩ := u
  have e := y.2
  simp only [Thread.forget, Thread.mk.injEq] at e
  obtain ⟨rfl, rfl, rfl, e4⟩ := e
  have e5 : stack = [] := by cases stack with | nil => rfl | cons a b => cases e4
  subst e5
  obtain ⟨b, e⟩ := sstep_end (den := denote table) (prog := P) (w := w) (res := res) (c := code) (p := pos) hz (left_not hz hf (by rw [y.heap]; exact hd))
  exact ⟨1, res, forgetSuspended b r, by simp only [schedN, e], rfl, x (forgetSuspended b r) y.heap y.os⟩
theorem split_sim {a b : List Frame} (h : forgetAll a = forgetAll b) {fs : List Frame} {g : Nat} {k : GenResult → Sem Fin} {l : List Value} {c : Code} {p : Pos} {rest : List Frame} (hb : b = fs ++ .gen g k l c p :: rest) (hn : splitAtGen fs = none) :
    ∃ fs' rest', splitAtGen a = some (fs', (g, k, c, p), rest') ∧ forgetAll fs' = forgetAll fs ∧ forgetAll rest' = forgetAll rest := by
  have h1 : splitAtGen b = some (fs, (g, k, c, p), rest) := by rw [hb, splitAtGen_append_none _ hn, splitAtGen_gen]; simp
  have h2 := splitAtGen_forgetAll b
  rw [h1, ← h, splitAtGen_forgetAll a] at h2
  cases h3 : splitAtGen a with
  | none => rw [h3] at h2; cases h2
  | some x =>
    obtain ⟨fs', b', rest'⟩ := x
    rw [h3] at h2
    simp only [Option.map_some, Option.some.injEq, Prod.mk.injEq] at h2
    obtain ⟨q1, q2, q3⟩ := h2
    exact ⟨fs', rest', by rw [q2], q1, q3⟩
/-- a yield, flagged or not, over a generator -/
theorem ends_yield {v : Value} {g : Bool} {l l' : List Value} {k : Resume → Sem Fin} {code c : Code} {pos p : Pos} {fs rest : List Frame} {gn : Nat} {kk : GenResult → Sem Fin} (hn : splitAtGen fs = none) (hu : fs.any Frame.guarded = false)
    (hd : ∀ a ∈ d, a ∈ d1) (hg : g = true → ∃ it rr kw, code = .builtin "proto.yield_from" ⟨.ref it :: rr, kw⟩ ∧ GenAt s.heap it ∧ it ∈ d1)
    (x : Ends P w R d1 (s.setGen gn (.suspended k l code pos fs false)) ⟨kk (.yielded v), c, p, rest⟩)   : Ends P w R d s ⟨.yield v g l k, code, pos, fs ++ .gen gn kk l' c p :: rest⟩ := by
  intro r u y hz hf
  obtain ⟨cur, code', pos', stack⟩ := u
  have e := y.2
  simp only [Thread.forget, Thread.mk.injEq] at e
  obtain ⟨rfl, rfl, rfl, e4⟩ := e
  obtain ⟨fs', rest', hsp, f1, f2⟩ := split_sim e4 rfl hn
  have hu' : fs'.any Frame.guarded = false := by rw [← any_guarded_forgetAll, f1, any_guarded_forgetAll]; exact hu
  have hs : closingShows r fs' code' g = false := by
    cases g with
    | false => simp [closingShows, hu']
    | true =>
      obtain ⟨it, rr, kw, rfl, q, _⟩ := hg rfl
      exact shows_not hz hu' (by rw [y.heap]; exact q)
  have one := sstep_yield (den := denote table) (prog := P) (w := w) (v := v) (l := l) (k := k) (pos := pos') hz hsp hs
  have st : step (denote table) P w r ⟨.yield v g l k, code', pos', stack⟩ = .go (r.setGen gn (.suspended k l code' pos' fs' (g || fs'.any Frame.guarded))) ⟨kk (.yielded v), c, p, rest'⟩ := by
    simp only [step, hsp]; rfl
  rw [st] at one
  have y1 : Sim (s.setGen gn (.suspended k l code' pos' fs false)) ⟨kk (.yielded v), c, p, rest⟩ (r.setGen gn (.suspended k l code' pos' fs' (g || fs'.any Frame.guarded))) ⟨kk (.yielded v), c, p, rest'⟩ := by
    refine ⟨?_, by simp only [Thread.forget, f2]⟩
    obtain ⟨q1, q2, q3, q4, q5⟩ := Shared.mk.inj y.1
    have q2 : (r.gens.map GenState.forget).map dropG = (s.gens.map GenState.forget).map dropG := q2
    show Shared.mk _ (((r.gens.setIfInBounds gn _).map GenState.forget).map dropG) _ _ _ = Shared.mk _ (((s.gens.setIfInBounds gn _).map GenState.forget).map dropG) _ _ _
    rw [Array.map_setIfInBounds, Array.map_setIfInBounds, Array.map_setIfInBounds, Array.map_setIfInBounds, q2]
    simp only [GenState.forget_suspended, dropG_susp, f1]
    exact congr (congr (congr (congr (congrArg Shared.mk q1) rfl) q3) q4) q5
  have life : (r.setGen gn (.suspended k l code' pos' fs' (g || fs'.any Frame.guarded))).heap.life = r.heap.life := rfl
  obtain ⟨m, res, r', e, q⟩ := x _ _ y1 (Shared.asleep_of_life life hz) fun i k2 l2 c2 p2 fs2 e => by
    have e : (r.gens.setIfInBounds gn (.suspended k l code' pos' fs' (g || fs'.any Frame.guarded)))[i]? = some (.suspended k2 l2 c2 p2 fs2 true) := e
    by_cases hi : gn = i
    · subst hi
      rw [Array.getElem?_setIfInBounds_self] at e
      split at e
      · injection e with e
        injection e with e1 e2 e3 e4 e5 e6
        subst e3 e5
        rw [hu', Bool.or_false] at e6
        obtain ⟨it, rr, kw, rfl, _, q⟩ := hg e6
        exact ⟨hu', it, rr, kw, rfl, q⟩
      · cases e
    · rw [Array.getElem?_setIfInBounds_ne hi] at e
      obtain ⟨q1, it, rr, kw, q2, q3⟩ := hf i k2 l2 c2 p2 fs2 e
      exact ⟨q1, it, rr, kw, q2, hd it q3⟩
  exact ⟨1 + m, res, r', by rw [Nat.add_comm]; simp only [schedN, one, Step.lift]; exact e, q.1, q.2⟩
end
end Lk
/-! Kl3 -/
namespace Lk
open PySem PySem.Spec
open PySem.Sem (wp)
/-- so many calm steps -/
def Steps (M : Model) (s : Shared) (t : Thread) (s1 : Shared) (t1 : Thread) : Prop := ∃ n, M.runN n s t = .running s1 t1
section
variable {M : Model} {s s1 s2 : Shared} {t t1 t2 : Thread}
theorem Steps.refl : Steps M s t s t := ⟨0, rfl⟩
theorem Steps.head (h : M.step s t = .go s1 t1) (x : Steps M s1 t1 s2 t2) : Steps M s t s2 t2 := let ⟨n, hn⟩ := x; ⟨n + 1, by rw [runN_succ, h]; exact hn⟩
theorem Steps.trans (x : Steps M s t s1 t1) (y : Steps M s1 t1 s2 t2) : Steps M s t s2 t2 := by
  obtain ⟨n, hn⟩ := x
  induction n generalizing s t with
  | zero => cases hn; exact y
  | succ n ih =>
    rw [runN_succ] at hn
    cases hs : M.step s t with
    | halt o a => rw [hs] at hn; cases hn
    | go a b => rw [hs] at hn; exact Steps.head hs (ih hn)
/-- it comes to K or to J -/
def Arr (M : Model) {α : Type} (K : α → Sem Fin) (J : Value → Sem Fin) (c : Code) (st : List Frame) (Q : α → Pos → Shared → Prop) (E : Value → Pos → Shared → Prop) (s : Shared) (t : Thread) : Prop :=
  ∃ s1 p1, (∃ a, Steps M s t s1 ⟨K a, c, p1, st⟩ ∧ Q a p1 s1) ∨ ∃ x, Steps M s t s1 ⟨J x, c, p1, st⟩ ∧ E x p1 s1
theorem Arr.steps {α : Type} {K : α → Sem Fin} {J : Value → Sem Fin} {c : Code} {st : List Frame} {Q : α → Pos → Shared → Prop} {E : Value → Pos → Shared → Prop} (h : Steps M s t s1 t1) (x : Arr M K J c st Q E s1 t1) : Arr M K J c st Q E s t := by
  obtain ⟨s2, p2, ⟨a, y, q⟩ | ⟨a, y, q⟩⟩ := x
  · exact ⟨s2, p2, .inl ⟨a, h.trans y, q⟩⟩
  · exact ⟨s2, p2, .inr ⟨a, h.trans y, q⟩⟩
theorem Arr.head {α : Type} {K : α → Sem Fin} {J : Value → Sem Fin} {c : Code} {st : List Frame} {Q : α → Pos → Shared → Prop} {E : Value → Pos → Shared → Prop} (h : M.step s t = .go s1 t1) (x : Arr M K J c st Q E s1 t1) : Arr M K J c st Q E s t := Arr.steps (.head h .refl) x
/-- a code that ends, under a frame -/
theorem steps_of_runs {Γ : PySem.Ctx} {p : Pos} {tt : Sem Fin} {fs st : List Frame} {e : End} (h : Runs M Γ p tt fs s e s1) (hf : Γ.Fits st) : ∃ t' c' p' pre', Steps M s ⟨tt, Γ.code, p, fs ++ st⟩ s1 ⟨t', c', p', pre' ++ st⟩ ∧ Exits e t' c' p' pre' := by
  obtain ⟨n, t', c', p', pre', h1, h2⟩ := (runs_reach h st hf).runN
  exact ⟨t', c', p', pre', ⟨n, h1⟩, h2⟩
theorem wp_arr {α : Type} (K : α → Sem Fin) (J : Value → Sem Fin) (gd : Bool → Bool) (lv : List Value → List Value) (m : Sem α) : ∀ {Γ : PySem.Ctx} {st : List Frame} {Q : α → Pos → Shared → Prop} {E : Value → Pos → Shared → Prop} {p : Pos} {s : Shared},
    Γ.Fits st → wp M Γ m Q E p s → Arr M K J Γ.code st Q E s ⟨m.wrap K J gd lv, Γ.code, p, st⟩ := by
  induction m with
  | pure a => intro Γ st Q E p s _ h; exact ⟨s, p, .inl ⟨a, .refl, h⟩⟩
  | raise x => intro Γ st Q E p s _ h; exact ⟨s, p, .inr ⟨x, .refl, h⟩⟩
  | unsupported what => intro Γ st Q E p s _ h; exact h.elim
  | finish x => intro Γ st Q E p s _ h; exact h.elim
  | register a k => intro Γ st Q E p s _ h; exact h.elim
  | yield v g l k => intro Γ st Q E p s _ h; exact h.elim
  | fork c k => intro Γ st Q E p s _ h; exact h.elim
  | await a f d l k => intro Γ st Q E p s _ h; exact h.elim
  | rule tag k ih => intro Γ st Q E p s hf h; exact .head (step_rule ..) (ih () hf h)
  | «at» p' k ih => intro Γ st Q E p s hf h; exact .head (step_at ..) (ih () hf h)
  | load a part k ih => intro Γ st Q E p s hf h; obtain ⟨o, ho, h⟩ := h; exact .head (step_load _ _ _ _ _ _ _ ho) (ih o hf h)
  | update a part f k ih => intro Γ st Q E p s hf h; obtain ⟨ha, h⟩ := h; exact .head (step_update _ _ _ _ _ _ _ _ ha) (ih () hf h)
  | alloc o k ih => intro Γ st Q E p s hf h; exact .head (step_alloc ..) (ih _ hf h)
  | loadIfAlive a k ih => intro Γ st Q E p s hf h; exact .head (step_loadIfAlive ..) (ih _ hf h)
  | point l k ih => intro Γ st Q E p s hf h; exact .head (step_point ..) (ih () hf h)
  | fresh k ih => intro Γ st Q E p s hf h; exact .head (step_fresh ..) (ih _ hf h)
  | ask k ih => intro Γ st Q E p s hf h; exact .head (step_ask ..) (ih _ hf h)
  | choose src n k ih => intro Γ st Q E p s hf h; obtain ⟨hn, h⟩ := h; exact .head (step_choose _ _ _ _ _ _ _ hn) (ih _ hf h)
  | os q l k ih => intro Γ st Q E p s hf h; exact .head (step_os ..) (ih _ hf h)
  | call c hd g l k ih =>
    intro Γ st Q E p s hf h
    obtain ⟨r, s1, hret, h⟩ := h
    refine .head (step_call ..) ?_
    obtain ⟨t', c', p', pre', h1, rfl, rfl⟩ := steps_of_runs hret (hf.enter c (fun r => (k r).wrap K J gd lv) hd (gd g) (lv l) p [])
    exact .steps h1 (.head (step_leaf_ret ..) (ih r hf h))
  | handled own k ih =>
    intro Γ st Q E p s hf h
    refine .head (step_handled ..) ?_
    have h := ih _ hf h
    cases own
    · rw [if_neg Bool.false_ne_true] at h ⊢; rw [← hf.handled]; exact h
    · rw [if_pos rfl] at h ⊢; rw [← hf.own]; exact h
  | newGen c k ih => intro Γ st Q E p s hf h; exact .head (step_newGen ..) (ih _ hf h)
  | genState g k ih => intro Γ st Q E p s hf h; obtain ⟨x, hg, h⟩ := h; exact .head (step_genState _ _ _ _ _ _ hg) (ih _ hf h)
  | stack k ih =>
    intro Γ st Q E p s hf h
    have h := ih _ hf h
    rw [hf.below] at h
    exact .head (step_stack ..) h
  | thread k ih => intro Γ st Q E p s hf h; exact .head (step_thread ..) (ih _ hf h)
  | resume g r l k ih =>
    intro Γ st Q E p s hf h
    obtain ⟨res, s1, hwk, h⟩ := h
    unfold Wakes at hwk
    cases hg : s.gens[g]? with
    | none => rw [hg] at hwk; exact hwk.elim
    | some gs =>
      rw [hg] at hwk
      cases gs with
      | fresh c =>
        cases r with
        | send v =>
          by_cases hv : v = .none
          · subst hv
            obtain ⟨e1, s2, h1, hq, rfl, rfl⟩ := hwk
            refine .head (step_resume_fresh _ _ _ _ _ _ _ hg) ?_
            obtain ⟨t', c', p', pre', h2, hx⟩ := steps_of_runs h1 (hf.wake c g (fun x => (k x).wrap K J gd lv) (lv l) p)
            exact .steps h2 (.head (step_exit_gen _ _ _ _ _ _ _ hx hq) (ih _ hf h))
          · have : res = .justStarted ∧ s1 = s := by cases v <;> first | exact absurd rfl hv | exact hwk
            obtain ⟨rfl, rfl⟩ := this
            exact .head (step_resume_justStarted _ _ _ _ _ _ _ hg hv) (ih _ hf h)
        | throw x => obtain ⟨rfl, rfl⟩ := hwk; exact .head (step_resume_throwFresh _ _ _ _ _ _ _ _ hg) (ih _ hf h)
      | suspended k0 l0 c0 p0 fs cl =>
        obtain ⟨e1, s2, h1, hq, rfl, rfl⟩ := hwk
        refine .head (step_resume_suspended _ _ _ _ _ _ _ _ hg) ?_
        obtain ⟨t', c', p', pre', h2, hx⟩ := steps_of_runs h1 (hf.wake c0 g (fun x => (k x).wrap K J gd lv) (lv l) p)
        exact .steps h2 (.head (step_exit_gen _ _ _ _ _ _ _ hx hq) (ih _ hf h))
      | running => obtain ⟨rfl, rfl⟩ := hwk; exact .head (step_resume_running _ _ _ _ _ _ _ _ hg) (ih _ hf h)
      | finished => obtain ⟨rfl, rfl⟩ := hwk; exact .head (step_resume_finished _ _ _ _ _ _ _ _ hg) (ih _ hf h)
end
end Lk
/-! Kl4 -/
namespace Lk
open PySem PySem.Spec
theorem fits_eq {Γ : PySem.Ctx} {st : List Frame} (h : Γ.Fits st) : Γ = PySem.Ctx.of Γ.code st := by
  obtain ⟨c, a, b, e, f⟩ := Γ
  obtain ⟨h1, h2, h3, h4⟩ := h
  simp only [PySem.Ctx.of, PySem.Ctx.mk.injEq]
  exact ⟨trivial, h1, h2, h3, h4⟩
/-- the tree runs on, in whatever it stands -/
def LW (P : Program) (w : World) {α : Type} (A : Around) (m : Sem α) (Q : α → List Addr → Shared → Prop) (E : Value → List Addr → Shared → Prop) (d : List Addr) (s : Shared) : Prop :=
  ∀ (R : Result → Shared → Prop) (c : Code) (st : List Frame) (p : Pos) (K : α → Sem Fin) (J : Value → Sem Fin) (gd : Bool → Bool) (lv : List Value → List Value), (PySem.Ctx.of c st).In A →
    (∀ a d1 s1 p1, Q a d1 s1 → Ends P w R d1 s1 ⟨K a, c, p1, st⟩) → (∀ x d1 s1 p1, E x d1 s1 → Ends P w R d1 s1 ⟨J x, c, p1, st⟩) → Ends P w R d s ⟨m.wrap K J gd lv, c, p, st⟩
/-- the code runs to its end -/
def LC (P : Program) (w : World) (A : Around) (c : Code) (RR : Result → List Addr → Shared → Prop) (d : List Addr) (s : Shared) : Prop :=
  ∀ (R : Result → Shared → Prop) (st : List Frame) (p : Pos), (PySem.Ctx.of c st).Below A → (∀ r d1 s1 c1 p1, RR r d1 s1 → Ends P w R d1 s1 ⟨leafOf r, c1, p1, st⟩) → Ends P w R d s ⟨denote table c, c, p, st⟩
section
variable {P : Program} {w : World} {α β : Type} {A : Around} {E : Value → List Addr → Shared → Prop} {d : List Addr} {s : Shared}
theorem ends_head {R : Result → Shared → Prop} {t t1 : Thread} {s1 : Shared} (h : (model P w).step s t = .go s1 t1) (x : Ends P w R d s1 t1) : Ends P w R d s t :=
  ends_steps (n := 1) (by rw [runN_succ, h]; rfl) x
theorem lw_of {m : Sem α} {Q : α → List Addr → Shared → Prop} (h : wpAny (model P w) A m (fun a s1 => Q a d s1) (fun x s1 => E x d s1) s) : LW P w A m Q E d s := by
  intro R c st p K J gd lv hin hQ hE
  obtain ⟨s1, p1, ⟨a, ⟨n, hn⟩, q⟩ | ⟨a, ⟨n, hn⟩, q⟩⟩ := wp_arr K J gd lv m (PySem.Ctx.fits_of c st) (h _ p hin)
  · exact ends_steps hn (hQ a d s1 p1 q)
  · exact ends_steps hn (hE a d s1 p1 q)
theorem lw_mono {m : Sem α} {Q Q' : α → List Addr → Shared → Prop} {E' : Value → List Addr → Shared → Prop} (h : LW P w A m Q E d s) (hQ : ∀ a d1 s1, Q a d1 s1 → Q' a d1 s1) (hE : ∀ x d1 s1, E x d1 s1 → E' x d1 s1) : LW P w A m Q' E' d s :=
  fun R c st p K J gd lv hin kQ kE => h R c st p K J gd lv hin (fun a d1 s1 p1 q => kQ a d1 s1 p1 (hQ a d1 s1 q)) fun x d1 s1 p1 q => kE x d1 s1 p1 (hE x d1 s1 q)
theorem lw_pure {a : α} {Q : α → List Addr → Shared → Prop} (h : Q a d s) : LW P w A (pure a) Q E d s := lw_of (wpAny_pure h)
theorem lw_bind {m : Sem α} {f : α → Sem β} {Q : β → List Addr → Shared → Prop} (h : LW P w A m (fun a d1 s1 => LW P w A (f a) Q E d1 s1) E d s) : LW P w A (m >>= f) Q E d s := by
  intro R c st p K J gd lv hin hQ hE
  rw [Sem.bind_eq_wrap', Sem.wrap_wrap]
  exact h R c st p _ _ _ _ hin (fun a d1 s1 p1 q => q R c st p1 K J gd lv hin hQ hE) fun x d1 s1 p1 q => hE x d1 s1 p1 q
theorem lw_bindw {m : Sem α} {f : α → Sem β} {Q : β → List Addr → Shared → Prop} (h : wpAny (model P w) A m (fun a s1 => LW P w A (f a) Q E d s1) (fun x s1 => E x d s1) s) : LW P w A (m >>= f) Q E d s := lw_bind (lw_of h)
theorem lw_attempt {m : Sem α} {Q : Except Value α → List Addr → Shared → Prop} (h : LW P w A m (fun a => Q (.ok a)) (fun x => Q (.error x)) d s) : LW P w A m.attempt Q E d s := by
  intro R c st p K J gd lv hin hQ hE
  unfold Sem.attempt
  rw [Sem.tryCatch_eq_wrap, Sem.bind_eq_wrap, Sem.wrap_wrap, Sem.wrap_wrap]
  exact h R c st p _ _ _ _ hin (fun a d1 s1 p1 q => hQ _ d1 s1 p1 q) fun x d1 s1 p1 q => hQ _ d1 s1 p1 q
theorem lw_onRaise {m : Sem α} {h0 : Value → Sem Unit} {Q : α → List Addr → Shared → Prop} (h : LW P w A m Q (fun x d1 s1 => LW P w A (h0 x) (fun _ => E x) E d1 s1) d s) : LW P w A (m.onRaise h0) Q E d s := by
  intro R c st p K J gd lv hin hQ hE
  rw [Sem.onRaise_eq_wrap, Sem.wrap_wrap]
  refine h R c st p _ _ _ _ hin (fun a d1 s1 p1 q => hQ a d1 s1 p1 q) fun x d1 s1 p1 q => ?_
  rw [Sem.bind_eq_wrap, Sem.wrap_wrap]
  exact q R c st p1 _ _ _ _ hin (fun a d2 s2 p2 q => hE x d2 s2 p2 q) fun y d2 s2 p2 q => hE y d2 s2 p2 q
theorem lw_holding {vs : List Value} {m : Sem α} {Q : α → List Addr → Shared → Prop} (h : LW P w A m Q E d s) : LW P w A (holding vs m) Q E d s := by
  intro R c st p K J gd lv hin hQ hE
  rw [holding_eq_keep, Sem.keep_eq_wrap, Sem.wrap_wrap]
  exact h R c st p _ _ _ _ hin (fun a d1 s1 p1 q => hQ a d1 s1 p1 q) fun x d1 s1 p1 q => hE x d1 s1 p1 q
theorem lw_map {f : α → β} {m : Sem α} {Q : β → List Addr → Shared → Prop} (h : LW P w A m (fun a => Q (f a)) E d s) : LW P w A (f <$> m) Q E d s :=
  lw_bind (f := fun a => pure (f a)) (lw_mono h (fun a d1 s1 q => lw_pure q) fun _ _ _ q => q)
theorem lw_standAt {q : Pos} {Q : Unit → List Addr → Shared → Prop} (h : Q () d s) : LW P w A (standAt q) Q E d s := lw_of (wpAny_standAt h)
theorem lw_rule {tag : String} {Q : Unit → List Addr → Shared → Prop} (h : Q () d s) : LW P w A (rule tag) Q E d s := lw_of (wpAny_rule h)
theorem lw_call {c : Code} {hd : Option Value} {g : Bool} {l : List Value} {k : Result → Sem α} {Q : α → List Addr → Shared → Prop} (hnb : hd ≠ some byPass) (h : LC P w (A.mark hd) c (fun r d1 s1 => LW P w A (k r) Q E d1 s1) d s) : LW P w A (.call c hd g l k) Q E d s := by
  intro R c0 st p K J gd lv hin hQ hE
  refine ends_head (step_call ..) ?_
  have hf := (PySem.Ctx.fits_of c0 st).enter c (fun r => (k r).wrap K J gd lv) hd (gd g) (lv l) p []
  have hb : (PySem.Ctx.of c (.ret (fun r => (k r).wrap K J gd lv) hd (gd g) (lv l) c0 p [] :: st)).Below (A.mark hd) := by
    have e := fits_eq hf
    have e2 : ((PySem.Ctx.of c0 st).enter c hd p).code = c := rfl
    rw [e2] at e
    rw [show (PySem.Ctx.of c0 st).code = c0 from rfl] at e
    rw [← e]
    exact hin.enter c hd p hnb
  exact h R _ p hb fun r d1 s1 c1 p1 q => ends_head (step_leaf_ret ..) (q R c0 st p K J gd lv hin hQ hE)
theorem lc_of {c : Code} {RR : Result → List Addr → Shared → Prop} (h : codeAny (model P w) A c (fun r s1 => RR r d s1) s) : LC P w A c RR d s := by
  intro R st p hb hR
  obtain ⟨r, s1, hr, q⟩ := h _ p rfl hb
  obtain ⟨t', c', p', pre', ⟨n, hn⟩, rfl, rfl⟩ := steps_of_runs hr (PySem.Ctx.fits_of c st)
  exact ends_steps hn (hR r d s1 c' p' q)
theorem lc_mono {c : Code} {RR RR' : Result → List Addr → Shared → Prop} (h : LC P w A c RR d s) (hR : ∀ r d1 s1, RR r d1 s1 → RR' r d1 s1) : LC P w A c RR' d s :=
  fun R st p hb k => h R st p hb fun r d1 s1 c1 p1 q => k r d1 s1 c1 p1 (hR r d1 s1 q)
theorem wrap_self (m : Sem α) : m.wrap .pure .raise id id = m := by
  induction m <;> simp only [Sem.wrap, id, *]
/-- a code, by its tree -/
theorem lc_tree {c : Code} {RR : Result → List Addr → Shared → Prop} (h : LW P w (A.under c) (denote table c) (fun fin d1 s1 => match fin with | .done f => RR (.ok f) d1 s1 | .again c' => c'.quiet = true ∧ LC P w A c' RR d1 s1) (fun x d1 s1 => RR (.error x) d1 s1) d s) : LC P w A c RR d s := by
  intro R st p hb hR
  have h := h R c st p .pure .raise id id hb.in (fun fin d1 s1 p1 q => ?_) fun x d1 s1 p1 q => hR (.error x) d1 s1 c p1 q
  · rw [wrap_self] at h; exact h
  · cases fin with
    | done f => exact hR (.ok f) d1 s1 c p1 q
    | again c' => exact ends_head (step_again _ _ _ _ _ _ q.1) (q.2 R st p1 hb hR)
end
/-- how it stands behind a stretch -/
def still : End → GenState
  | .ret _ => .finished
  | .susp _ _ l k c p fs => .suspended k l c p fs false
/-- a stretch of a generator -/
def Go (P : Program) (w : World) (A : Around) (Z : End → List Addr → Shared → Prop) (c : Code) (t : Sem Fin) (fs : List Frame) (d : List Addr) (s : Shared) : Prop :=
  ∀ (R : Result → Shared → Prop) (gn : Nat) (kk : GenResult → Sem Fin) (l : List Value) (c0 : Code) (p0 : Pos) (rest : List Frame) (p : Pos), (PySem.Ctx.of c0 rest).In A →
    (∀ e d1 s1, Z e d1 s1 → Ends P w R d1 (s1.setGen gn (still e)) ⟨kk e.result, c0, p0, rest⟩) → Ends P w R d s ⟨t, c, p, fs ++ .gen gn kk l c0 p0 :: rest⟩
section
variable {P : Program} {w : World} {A : Around} {Z : End → List Addr → Shared → Prop} {c : Code} {fs : List Frame} {d : List Addr} {s : Shared}
theorem go_wrap {α : Type} {m : Sem α} {K : α → Sem Fin} {J : Value → Sem Fin} {gd : Bool → Bool} {lv : List Value → List Value}
    (h : LW P w (A.over c fs) m (fun a d1 s1 => Go P w A Z c (K a) fs d1 s1) (fun x d1 s1 => Go P w A Z c (J x) fs d1 s1) d s) : Go P w A Z c (m.wrap K J gd lv) fs d s := by
  intro R gn kk l c0 p0 rest p hin hZ
  refine h R c (fs ++ .gen gn kk l c0 p0 :: rest) p K J gd lv ?_ (fun a d1 s1 p1 q => q R gn kk l c0 p0 rest p1 hin hZ) fun x d1 s1 p1 q => q R gn kk l c0 p0 rest p1 hin hZ
  have hf := (PySem.Ctx.fits_of c0 rest).wake c gn kk l p0
  have hw : ((PySem.Ctx.of c0 rest).wake c p0).Woken A := hin.wake c p0
  have e := fits_eq (hf.over fs)
  have e2 : (((PySem.Ctx.of c0 rest).wake c p0).over fs).code = c := rfl
  rw [e2, show (PySem.Ctx.of c0 rest).code = c0 from rfl] at e
  rw [← e]
  exact hw.over fs
theorem go_bind {α : Type} {m : Sem α} {K : α → Sem Fin} (h : LW P w (A.over c fs) m (fun a d1 s1 => Go P w A Z c (K a) fs d1 s1) (fun x d1 s1 => Go P w A Z c (.raise x) fs d1 s1) d s) : Go P w A Z c (m >>= K) fs d s := by
  rw [Sem.bind_eq_wrap']
  exact go_wrap h
theorem go_bindw {α β : Type} {m : Sem α} {f : α → Sem β} {K : β → Sem Fin} {J : Value → Sem Fin} {gd : Bool → Bool} {lv : List Value → List Value}
    (h : LW P w (A.over c fs) m (fun a d1 s1 => Go P w A Z c ((f a).wrap K J gd lv) fs d1 s1) (fun x d1 s1 => Go P w A Z c (J x) fs d1 s1) d s) : Go P w A Z c ((m >>= f).wrap K J gd lv) fs d s := by
  rw [Sem.bind_eq_wrap', Sem.wrap_wrap]
  exact go_wrap h
theorem go_at {q : Pos} {k : Unit → Sem Fin} (h : Go P w A Z c (k ()) fs d s) : Go P w A Z c (.at q k) fs d s :=
  go_wrap (m := standAt q) (K := k) (J := .raise) (gd := id) (lv := id) (lw_standAt h)
theorem go_point {l : List Value} {k : Unit → Sem Fin} (h : Go P w A Z c (k ()) fs d s) : Go P w A Z c (.point l k) fs d s :=
  go_wrap (m := point) (K := k) (J := .raise) (gd := id) (lv := fun _ => l) (lw_of (wpAny_point h))
theorem go_rule {tag : String} {k : Unit → Sem Fin} (h : Go P w A Z c (k ()) fs d s) : Go P w A Z c (.rule tag k) fs d s :=
  go_wrap (m := rule tag) (K := k) (J := .raise) (gd := id) (lv := id) (lw_rule h)
theorem go_call {c' : Code} {hd : Option Value} {g : Bool} {l : List Value} {k : Result → Sem Fin} (h : ∀ p, Go P w A Z c' (denote table c') (.ret k hd g l c p [] :: fs) d s) : Go P w A Z c (.call c' hd g l k) fs d s := by
  intro R gn kk l' c0 p0 rest p hin hZ
  exact ends_head (step_call ..) (h p R gn kk l' c0 p0 rest p hin hZ)
theorem go_leaf {k : Result → Sem Fin} {hd : Option Value} {g : Bool} {l kp : List Value} {c' : Code} {q : Pos} (r : Result) (h : Go P w A Z c' (k r) fs d s) : Go P w A Z c (leafOf r) (.ret k hd g l c' q kp :: fs) d s := by
  intro R gn kk l' c0 p0 rest p hin hZ
  exact ends_head (step_leaf_ret ..) (h R gn kk l' c0 p0 rest q hin hZ)
theorem go_again {c' : Code} (hq : c'.quiet = true) (h : Go P w A Z c' (denote table c') fs d s) : Go P w A Z c (.pure (.again c')) fs d s := by
  intro R gn kk l' c0 p0 rest p hin hZ
  exact ends_head (step_again _ _ _ _ _ _ hq) (h R gn kk l' c0 p0 rest p hin hZ)
theorem go_end (r : Result) (h : Z (.ret r) d s) : Go P w A Z c (leafOf r) [] d s := by
  intro R gn kk l' c0 p0 rest p hin hZ
  exact ends_head (step_leaf_gen ..) (hZ (.ret r) d s h)
theorem go_yield {v : Value} {g : Bool} {l : List Value} {k : Resume → Sem Fin} {d1 : List Addr} (hn : splitAtGen fs = none) (hu : fs.any Frame.guarded = false) (hd : ∀ a ∈ d, a ∈ d1)
    (hg : g = true → ∃ it rr kw, c = .builtin "proto.yield_from" ⟨.ref it :: rr, kw⟩ ∧ GenAt s.heap it ∧ it ∈ d1) (h : ∀ p, Z (.susp v g l k c p fs) d1 s) : Go P w A Z c (.yield v g l k) fs d s := by
  intro R gn kk l' c0 p0 rest p hin hZ
  exact ends_yield hn hu hd hg (hZ (.susp v g l k c p fs) d1 s (h p))
/-- a generator stands ready -/
def Ready (P : Program) (w : World) (A : Around) (Z : End → List Addr → Shared → Prop) (gs : GenState) (d : List Addr) (s : Shared) : Prop :=
  match gs with
  | .fresh c => Go P w A Z c (denote table c) [] d s
  | .suspended k _ c _ fs _ => Go P w A Z c (k (.send .none)) fs d s
  | _ => False
theorem lw_resume {α : Type} {g : Nat} {gs : GenState} {l : List Value} {k : GenResult → Sem α} {Q : α → List Addr → Shared → Prop} {E : Value → List Addr → Shared → Prop} (hg : s.gens[g]? = some gs) (hr : Ready P w A Z gs d (s.setGen g .running))
    (hZ : ∀ e d1 s1, Z e d1 s1 → LW P w A (k e.result) Q E d1 (s1.setGen g (still e))) : LW P w A (.resume g (.send .none) l k) Q E d s := by
  intro R c st p K J gd lv hin hQ hE
  cases gs with
  | fresh c1 =>
    refine ends_head (step_resume_fresh _ _ _ _ _ _ _ hg) ?_
    exact hr R g (fun x => (k x).wrap K J gd lv) (lv l) c p st p hin fun e d1 s1 z => hZ e d1 s1 z R c st p K J gd lv hin hQ hE
  | suspended k0 l0 c1 q fs0 cl =>
    refine ends_head (step_resume_suspended _ _ _ _ _ _ _ _ hg) ?_
    exact hr R g (fun x => (k x).wrap K J gd lv) (lv l) c p st q hin fun e d1 s1 z => hZ e d1 s1 z R c st p K J gd lv hin hQ hE
  | running => exact hr.elim
  | finished => exact hr.elim
end
end Lk
/-! Kg2 -/
namespace Lk
open PySem PySem.Spec PyProof.Rows L2 GenW
/-- the heap below L; its size is L -/
def cutH (L : Nat) (h : Heap) : Heap := { h with objs := (h.objs ++ Array.replicate L ({ cls := .none, data := .freed } : Obj)).extract 0 L }
theorem cutH_size {L : Nat} {h : Heap} : (cutH L h).objs.size = L := by
  show ((h.objs ++ Array.replicate L ({ cls := .none, data := .freed } : Obj)).extract 0 L).size = L
  rw [Array.size_extract, Array.size_append, Array.size_replicate]; omega
theorem cutH_le {L : Nat} {h : Heap} : (cutH L h).objs.size ≤ L := Nat.le_of_eq cutH_size
theorem cutH_get {L b : Nat} {h : Heap} (hb : b < L) : (cutH L h).get? b = h.get? b := by
  have h1 : b < (cutH L h).objs.size := by rw [cutH_size]; exact hb
  unfold Heap.get?
  rw [Array.getElem?_eq_getElem h1]
  by_cases hs : b < h.objs.size
  · have e : (cutH L h).objs[b] = h.objs[b] := by
      have h2 : b < min L h.objs.size := by omega
      simp [cutH, Array.getElem_append, h2]
    rw [e, Array.getElem?_eq_getElem hs]
  · have e : (cutH L h).objs[b] = ({ cls := .none, data := .freed } : Obj) := by
      have h2 : ¬ b < min L h.objs.size := by omega
      simp [cutH, Array.getElem_append, h2]
    rw [e, Array.getElem?_eq_none (by omega)]
theorem cutH_of {L b : Nat} {h : Heap} {o : Obj} (e : (cutH L h).get? b = some o) : b < L ∧ h.get? b = some o := by
  have hb : b < L := Nat.lt_of_lt_of_le (Heap.lt_size e) cutH_le
  exact ⟨hb, by rw [← cutH_get hb]; exact e⟩
section
variable (P : Program) (w : World) (K : PySem.W.Frag) (mg : Str → Option Value) (base : Heap) (N : List Str) (qual : Str) (scope : Scope) (f : Addr) (cd : Value) (A : Around) (outer : List Env) (L : Addr)
/-- the context of a stretch that began at s0, H0 -/
def gX (s0 : Shared) (H0 : Hp) : Cx where
  prog := P
  w := w
  K := K
  mg := mg
  base := base
  A := A.deeper (envOfC qual scope L f cd)
  N := N
  s_0 := { s0 with heap := cutH L s0.heap }
  H_0 := H0
  env := envOfC qual scope L f cd
  outer := outer
  stack := envOfC qual scope L f cd :: outer
  ex := []
  calm := true
  fn := fun _ => true
  pn := []
  xe := fun _ _ => False
end
/-- from the suspension (H, s) to the wake (H0, s0) of a generator whose frame's object is at L: fo: objects younger than L that others own; g: its number -/
structure Slp (P : Program) (w : World) (base : Heap) (outer : List Env) (L : Nat) (fo : List Addr) (g : Nat) (H : Hp) (s : Shared) (H0 : Hp) (s0 : Shared) : Prop where
  os : s0.os = s.os
  bare : AllBare s0.gens
  hok : HOk P w H0 s0.heap
  sub : ∀ b u, H b = some u → H0 b = some u
  raw : ∀ (b : Nat) o, L ≤ b → b ∉ fo → s.heap.get? b = some o → s0.heap.get? b = some o
  fre : ∀ (b : Nat) o, L ≤ b → b ∉ fo → H b = none → s.heap.get? b = some o → H0 b = none
  gens : ∀ (j : Nat) x, g < j → s.gens[j]? = some x → s0.gens[j]? = some x
  big : g < s0.gens.size
  bs : ∀ b o, base.get? b = some o → s0.heap.get? b = some o ∧ H0 b = none
  funs : s0.heap.FunFrames base outer
  frf : ∀ b ∈ frs outer, H0 b = none
  fop : ∀ b ∈ fo, ∃ o, s0.heap.get? b = some o ∧ H0 b = none ∧ ∀ v, o.data ≠ .cell v
/-- what is fixed of the frame -/
structure Fix (K : PySem.W.Frag) (mg : Str → Option Value) (base : Heap) (qual : Str) (scope : Scope) (f : Addr) (cd : Value) (A : Around) (outer : List Env) (L : Nat) (fo : List Addr) : Prop where
  mod : Mod K mg base
  kind : scope.kind = .function
  low : base.objs.size ≤ L
  hd : A.handled = none
  frames : A.frames = some outer
  frl : ∀ b ∈ frs outer, (b : Nat) < L
  up : ∀ b ∈ fo, L < (b : Nat)
  noc : ∀ x, (envOfC qual scope L f cd).cells.lookup x = none
  nok : ∀ x, ¬ ((envOfC qual scope L f cd).kindOf x = some .cell ∨ (envOfC qual scope L f cd).kindOf x = some .free)
theorem funs_cut {base h : Heap} {L : Nat} : ∀ {l : List Env}, (∀ b ∈ frs l, (b : Nat) < L) → h.FunFrames base l → (cutH L h).FunFrames base l
  | [], _, _ => trivial
  | env :: r, hl, hf => by
    obtain ⟨h1, ⟨a, o, h2, h3, h4, h5⟩, h6⟩ := hf
    have e : frs (env :: r) = a :: frs r := by unfold frs; rw [List.filterMap_cons, h2]
    refine ⟨h1, ⟨a, o, h2, h3, ?_, h5⟩, funs_cut (fun b hb => hl b (by rw [e]; exact List.mem_cons_of_mem _ hb)) h6⟩
    rw [cutH_get (hl a (by rw [e]; exact List.mem_cons_self))]
    exact h4
section
variable {P : Program} {w : World} {K : PySem.W.Frag} {mg : Str → Option Value} {base : Heap} {N : List Str} {qual : Str} {scope : Scope} {f : Addr} {cd : Value} {A : Around} {outer : List Env} {L : Nat} {fo : List Addr} {g : Nat}
/-- the pins of a stretch: what others own -/
def foP (fo : List Addr) (h : Heap) : List (Addr × Obj) := fo.filterMap fun b => (h.get? b).map fun o => (b, o)
theorem foP_of {h : Heap} {p : Addr × Obj} (hp : p ∈ foP fo h) : p.1 ∈ fo ∧ h.get? p.1 = some p.2 := by
  obtain ⟨b, hb, e⟩ := List.mem_filterMap.mp hp
  cases q : h.get? b with
  | none => rw [q] at e; cases e
  | some o => rw [q] at e; cases e; exact ⟨hb, q⟩
theorem foP_mem {h : Heap} {b : Addr} {o : Obj} (hb : b ∈ fo) (e : h.get? b = some o) : (b, o) ∈ foP fo h := List.mem_filterMap.mpr ⟨b, hb, by rw [e]; rfl⟩
/-- woken: the context is built anew -/
theorem wake_inv {s s0 s1 : Shared} {H H0 H1 : Hp} {σ : L2.St} {ip q : List (Addr × Obj)} (F : Fix K mg base qual scope f cd A outer L fo) (I : Inv (gX P w K mg base N qual scope f cd A outer L s1 H1) (ip ++ q) σ H s)
    (hip : ∀ p ∈ ip, L ≤ (p.1 : Nat) ∧ p.1 ∉ fo) (z : Slp P w base outer L fo g H s H0 s0) : Inv (gX P w K mg base N qual scope f cd A outer L s0 H0) (ip ++ foP fo s0.heap) σ H0 s0 := by
  have hLf : (L : Addr) ∉ fo := fun hb => Nat.lt_irrefl _ (F.up L hb)
  obtain ⟨m, hn, hl⟩ := I.loc
  obtain ⟨oL, es, ep, hoL, rL⟩ := id hn
  have hoL0 : s0.heap.get? L = some oL := z.raw L oL (Nat.le_refl _) hLf hoL
  have hLs : L < s0.heap.objs.size := Heap.lt_size hoL0
  have hsz : (cutH L s0.heap).objs.size = L := cutH_size
  have noA : ∀ b : Addr, b ∉ (gX P w K mg base N qual scope f cd A outer L s0 H0).ex := fun b hb => absurd (show b ∈ ([] : List Addr) from hb) (by simp)
  refine ⟨⟨F.mod, F.kind, rfl, rfl, Nat.le_of_eq hsz, fun x y c h1 _ => ?_, fun x hx => absurd hx (F.nok x), fun x c _ h1 => ?_, fun _ => F.hd, Around.frames_deeper F.frames, .inr ⟨rfl, rfl⟩, fun b hb => absurd hb (noA b), fun b o e => ?_, ?_, fun b _ _ => noA b, fun b hb => absurd hb (noA b), funs_cut F.frl z.funs, z.frf⟩,
    rfl, z.bare, ?_, ?_, fun x c h1 => ?_, z.fre L oL (Nat.le_refl _) hLf I.free hoL, fun x c h1 => ?_, fun p hp => ?_, z.hok, I.len⟩
  · exact absurd ((F.noc x).symm.trans h1) (by simp)
  · exact absurd ((F.noc x).symm.trans h1) (by simp)
  · obtain ⟨e1, e2⟩ := z.bs b o e
    exact ⟨(cutH_get (Nat.lt_of_lt_of_le (Heap.lt_size e) F.low)).trans e1, e2⟩
  · show base.objs.size ≤ (cutH L s0.heap).objs.size
    rw [hsz]; exact F.low
  · exact ⟨fun b o e n _ _ => (cutH_of e).2, fun b o e n _ _ => ⟨o.slots, (cutH_of e).2⟩, fun b o e n _ => n, fun b o e _ => ⟨o, (cutH_of e).2⟩, fun _ _ e => e, fun _ _ _ e => e, fun b ps e => ⟨#[], by rw [show H0 b = some (.tbl ps) from e]; simp⟩⟩
  · refine ⟨m, ⟨oL, es, ep, hoL0, rL⟩, fun i x v h1 h2 h3 => ?_⟩
    obtain ⟨u, r, k⟩ := hl i x v h1 h2 h3
    rcases k with k | ⟨k, c, e, _⟩
    · exact ⟨u, r, .inl k⟩
    · exact absurd ((F.noc x).symm.trans e) (by simp)
  · exact absurd ((F.noc x).symm.trans h1) (by simp)
  · exact absurd ((F.noc x).symm.trans h1) (by simp)
  · rcases List.mem_append.mp hp with hp | hp
    · exact absurd (show p ∈ ([] : List (Addr × Obj)) from hp) (by simp)
    rcases List.mem_append.mp hp with hp | hp
    · obtain ⟨e, n, ne, nf, d⟩ := I.pin p (List.mem_append_right _ (List.mem_append_left _ hp))
      obtain ⟨q1, q2⟩ := hip p hp
      exact ⟨z.raw p.1 p.2 q1 q2 e, z.fre p.1 p.2 q1 q2 n e, ne, nf, d⟩
    · obtain ⟨q1, q2⟩ := foP_of hp
      obtain ⟨o, e, n, d⟩ := z.fop p.1 q1
      rw [q2] at e
      cases e
      refine ⟨q2, n, fun y => ?_, fun y => ?_, d⟩
      · have q3 := F.up p.1 q1
        rw [show p.1 = L from y] at q3
        exact Nat.lt_irrefl _ q3
      · exact Nat.lt_irrefl _ (Nat.lt_trans (F.up p.1 q1) (F.frl p.1 y))
end
end Lk
/-! Kl5 -/
namespace Lk
open PySem PySem.Spec PyProof.Rows L2 GenW
theorem gen_fields {o : Obj} (h : o.genNumber?.isSome = true) : ∃ vs, o.data = .fields vs := by
  unfold Obj.genNumber? at h
  split at h
  · rename_i e; exact ⟨_, e⟩
  · rename_i e; exact ⟨_, e⟩
  · rename_i e; exact ⟨_, e⟩
  · cases h
/-- all of d are generators, and nobody writes at them -/
def DOk (d : List Addr) (H : Hp) (h : Heap) : Prop := ∀ a ∈ d, H a = none ∧ GenAt h a
theorem DOk.gen {d : List Addr} {H : Hp} {h : Heap} (x : DOk d H h) : GenD d h := fun a ha => (x a ha).2
theorem DOk.cons {d : List Addr} {H : Hp} {h : Heap} {a : Addr} (x : DOk d H h) (e : H a = none) (g : GenAt h a) : DOk (a :: d) H h := fun b hb => by
  rcases List.mem_cons.mp hb with rfl | hb
  · exact ⟨e, g⟩
  · exact x b hb
structure LI (X : Cx) (pins : List (Addr × Obj)) (σ : L2.St) (H : Hp) (d : List Addr) (s : Shared) : Prop where
  inv : Inv X pins σ H s
  dok : DOk d H s.heap
section
variable {X : Cx} {pins : List (Addr × Obj)} {σ : L2.St} {H : Hp} {d : List Addr} {s : Shared} {h0 : Heap}
theorem LI.up (x : LI X pins σ H d s) : Inv X (pins ++ foP d s.heap) σ H s := by
  refine x.inv.pins_of fun p hp => ?_
  rcases List.mem_append.mp hp with z | z
  · exact x.inv.pin p (List.mem_append_right _ z)
  · obtain ⟨z1, z2⟩ := foP_of z
    obtain ⟨n, o, e, g⟩ := x.dok p.1 z1
    rw [z2] at e
    cases e
    obtain ⟨vs, hv⟩ := gen_fields g
    refine ⟨z2, n, fun y => ?_, fun y => ?_, fun v hd => ?_⟩
    · obtain ⟨m, ⟨oL, es, ep, hoL, hd, _⟩, _⟩ := x.inv.loc
      rw [y] at z2
      rw [hoL] at z2
      cases z2
      rw [hd] at hv; cases hv
    · obtain ⟨_, o, ho, hn⟩ := x.inv.funs.mem y
      rw [z2] at ho
      cases ho
      exact hn vs hv
    · rw [hd] at hv; cases hv
theorem LI.of (I : Inv X (pins ++ foP d h0) σ H s) (g : GenD d h0) : LI X pins σ H d s := by
  refine ⟨I.pins_of fun p hp => I.pin p (List.mem_append_right _ (List.mem_append_left _ hp)), fun a ha => ?_⟩
  · obtain ⟨o, e, n⟩ := g a ha
    obtain ⟨e1, e2, _⟩ := I.pin (a, o) (List.mem_append_right _ (List.mem_append_right _ (foP_mem ha e)))
    exact ⟨e2, o, e1, n⟩
theorem LI.sub {q : List (Addr × Obj)} (x : LI X (pins ++ q) σ H d s) : LI X pins σ H d s := ⟨x.inv.pins_of fun p hp => x.inv.pin p (List.mem_append_right _ (List.mem_append_left _ hp)), x.dok⟩
end
/-- how a statement leaves -/
def SPL (X : Cx) (pins : List (Addr × Obj)) (D : L2.Ends) : Flow → List Addr → Shared → Prop
  | .next, d, s => ∃ σ H, LI X pins σ H d s ∧ D.nx σ H
  | .brk, d, s => ∃ σ H, LI X pins σ H d s ∧ D.bk σ H
  | .cont, d, s => ∃ σ H, LI X pins σ H d s ∧ D.ct σ H
  | .ret v, d, s => ∃ x σ H, LI X pins σ H d s ∧ RelV x v ∧ D.rt x H
theorem spl_of {X : Cx} {pins : List (Addr × Obj)} {D : L2.Ends} {d : List Addr} {h0 : Heap} (g : GenD d h0) : ∀ {fl : Flow} {s : Shared}, SP X (pins ++ foP d h0) D fl s → SPL X pins D fl d s
  | .next, s, ⟨σ, H, I, q⟩ => ⟨σ, H, .of I g, q⟩
  | .brk, s, ⟨σ, H, I, q⟩ => ⟨σ, H, .of I g, q⟩
  | .cont, s, ⟨σ, H, I, q⟩ => ⟨σ, H, .of I g, q⟩
  | .ret v, s, ⟨x, σ, H, I, r, q⟩ => ⟨x, σ, H, .of I g, r, q⟩
end Lk
/-! Kg3 -/
namespace Lk
open PySem PySem.Spec PyProof.Rows L2 GenW
/-- what a stretch may change: the young things but what others own -/
def exl (L : Nat) (fo : List Addr) (h : Heap) : List Addr := (List.range h.objs.size).filter fun b => decide (L ≤ b ∧ b ∉ fo)
theorem exl_of {L : Nat} {fo : List Addr} {h : Heap} {b : Addr} (hb : b ∈ exl L fo h) : L ≤ (b : Nat) ∧ b ∉ fo := of_decide_eq_true (List.mem_filter.mp hb).2
theorem exl_in {L : Nat} {fo : List Addr} {h : Heap} {b : Nat} {o : Obj} (e : h.get? b = some o) (h1 : L ≤ b) (h2 : b ∉ fo) : b ∈ exl L fo h :=
  List.mem_filter.mpr ⟨List.mem_range.mpr (Heap.lt_size e), decide_eq_true ⟨h1, h2⟩⟩
section
variable {P : Program} {w : World} {K : PySem.W.Frag} {mg : Str → Option Value} {base : Heap} {N : List Str} {qual : Str} {scope : Scope} {f : Addr} {cd : Value} {A : Around} {outer : List Env} {L : Nat} {fo : List Addr} {g : Nat}
theorem stretch_un {s s0 : Shared} {H H0 : Hp} {σ : L2.St} {ip : List (Addr × Obj)} (F : Fix K mg base qual scope f cd A outer L fo) (I : Inv (gX P w K mg base N qual scope f cd A outer L s0 H0) (ip ++ foP fo s0.heap) σ H s) :
    Un (frs outer) (exl L fo s0.heap) H0 H s0.heap s.heap := by
  have noA : ∀ b : Addr, b ∉ (gX P w K mg base N qual scope f cd A outer L s0 H0).ex := fun b hb => absurd (show b ∈ ([] : List Addr) from hb) (by simp)
  have two : ∀ (b : Nat) o, s0.heap.get? b = some o → b ∉ exl L fo s0.heap → (cutH L s0.heap).get? b = some o ∨ (b ∈ fo ∧ s.heap.get? b = some o ∧ H b = none) := fun b o e hx => by
    by_cases hb : b < L
    · exact .inl ((cutH_get hb).trans e)
    · by_cases hf : b ∈ fo
      · obtain ⟨e1, e2, _⟩ := I.pin (b, o) (List.mem_append_right _ (List.mem_append_right _ (foP_mem hf e)))
        exact .inr ⟨hf, e1, e2⟩
      · exact absurd (exl_in e (Nat.le_of_not_lt hb) hf) hx
  refine ⟨fun b o e n hb hx => ?_, fun b o e n hb hx => ?_, fun b o e n hx => ?_, fun b o e hx => ?_, I.base.tups, I.base.frzs, I.base.tbls⟩
  · rcases two b o e hx with q | ⟨_, q, _⟩
    · exact I.base.keep b o q n hb (noA b)
    · exact q
  · rcases two b o e hx with q | ⟨_, q, _⟩
    · exact I.base.slot b o q n hb (noA b)
    · exact ⟨o.slots, q⟩
  · rcases two b o e hx with q | ⟨_, _, q⟩
    · exact I.base.free b o q n (noA b)
    · exact q
  · rcases two b o e hx with q | ⟨_, q, _⟩
    · exact I.base.there b o q (noA b)
    · exact ⟨o, q⟩
end
/-- what a stretch from (H0, s0) to (H1, s1) promises -/
structure Prom (P : Program) (w : World) (outer : List Env) (L : Nat) (fo : List Addr) (Rl : Hp → Hp → Prop) (H0 : Hp) (s0 : Shared) (H1 : Hp) (s1 : Shared) : Prop where
  os : s1.os = s0.os
  bare : AllBare s1.gens
  hok : HOk P w H1 s1.heap
  un : Un (frs outer) (exl L fo s0.heap) H0 H1 s0.heap s1.heap
  rl : Rl H0 H1
  gz : s0.gens.size ≤ s1.gens.size
section
variable (P : Program) (w : World) (base : Heap) (A : Around) (outer : List Env) (L : Nat) (fo : List Addr) (g : Nat) (Rl : Hp → Hp → Prop) {α : Type} (It : α → Hp → V → Prop)
/-- a generator that sleeps (H, s: when it fell asleep) and will hand out these -/
def Alive : List α → Hp → Shared → GenState → Prop
  | [], H, s, gs => ∀ H0 s0 d0, Slp P w base outer L fo g H s H0 s0 → DOk d0 H0 s0.heap → Ready P w A (fun e d1 s1 => (e = .ret (.ok (.ret .none)) ∨ e = .ret (.ok .next)) ∧ ∃ H1, Prom P w outer L fo Rl H0 s0 H1 s1 ∧ DOk d1 H1 s1.heap) gs d0 s0
  | x :: r, H, s, gs => ∀ H0 s0 d0, Slp P w base outer L fo g H s H0 s0 → DOk d0 H0 s0.heap → Ready P w A (fun e d1 s1 => ∃ v g' l k c p fs H1 y, e = .susp v g' l k c p fs ∧ RelV y v ∧ It x H1 y ∧ Prom P w outer L fo Rl H0 s0 H1 s1 ∧ DOk d1 H1 s1.heap ∧ Alive r H1 s1 (still e)) gs d0 s0
/-- how a stretch may end -/
def ZOut : List α → Hp → Shared → End → List Addr → Shared → Prop
  | [], H0, s0, e, d1, s1 => (e = .ret (.ok (.ret .none)) ∨ e = .ret (.ok .next)) ∧ ∃ H1, Prom P w outer L fo Rl H0 s0 H1 s1 ∧ DOk d1 H1 s1.heap
  | x :: r, H0, s0, e, d1, s1 => ∃ v g' l k c p fs H1 y, e = .susp v g' l k c p fs ∧ RelV y v ∧ It x H1 y ∧ Prom P w outer L fo Rl H0 s0 H1 s1 ∧ DOk d1 H1 s1.heap ∧ Alive P w base A outer L fo g Rl It r H1 s1 (still e)
theorem alive_iff {l : List α} {H : Hp} {s : Shared} {gs : GenState} : Alive P w base A outer L fo g Rl It l H s gs ↔ ∀ H0 s0 d0, Slp P w base outer L fo g H s H0 s0 → DOk d0 H0 s0.heap → Ready P w A (ZOut P w base A outer L fo g Rl It l H0 s0) gs d0 s0 := by
  cases l <;> exact Iff.rfl
end
end Lk
/-! Kg4 -/
namespace Lk
open PySem PySem.Spec PyProof.Rows L2 GenW
/-- what is fixed of a generator's frame, as one thing -/
structure Gf where
  P : Program
  w : World
  K : PySem.W.Frag
  mg : Str → Option Value
  base : Heap
  N : List Str
  qual : Str
  scope : Scope
  f : Addr
  cd : Value
  A : Around
  outer : List Env
  L : Nat
  fo : List Addr
  g : Nat
  Rl : Hp → Hp → Prop
  α : Type
  It : α → Hp → V → Prop
abbrev Gf.env (G : Gf) : Env := envOfC G.qual G.scope G.L G.f G.cd
abbrev Gf.X (G : Gf) (s0 : Shared) (H0 : Hp) : Cx := gX G.P G.w G.K G.mg G.base G.N G.qual G.scope G.f G.cd G.A G.outer G.L s0 H0
abbrev Gf.Z (G : Gf) (l : List G.α) (H0 : Hp) (s0 : Shared) : End → List Addr → Shared → Prop := ZOut G.P G.w G.base G.A G.outer G.L G.fo G.g G.Rl G.It l H0 s0
abbrev Gf.Al (G : Gf) (l : List G.α) (H : Hp) (s : Shared) (gs : GenState) : Prop := Alive G.P G.w G.base G.A G.outer G.L G.fo G.g G.Rl G.It l H s gs
abbrev Gf.Fx (G : Gf) : Prop := Fix G.K G.mg G.base G.qual G.scope G.f G.cd G.A G.outer G.L G.fo
abbrev Gf.I (G : Gf) (s0 : Shared) (H0 : Hp) (ip : List (Addr × Obj)) (σ : L2.St) (H : Hp) (d : List Addr) (s : Shared) : Prop := LI (G.X s0 H0) (ip ++ foP G.fo s0.heap) σ H d s
/-- what others own stands at the wake -/
def Gf.E (G : Gf) (s0 : Shared) : Prop := ∀ b ∈ G.fo, ∃ o, s0.heap.get? b = some o
/-- no generator is lost -/
def Gf.Sz (G : Gf) (s0 s : Shared) : Prop := G.g < s0.gens.size ∧ s0.gens.size ≤ s.gens.size
/-- what is wanted behind: what is still to be handed out, the heap at the wake, the names, the heap -/
structure GD (G : Gf) where
  nx : List G.α → Hp → L2.St → Hp → Prop
  rt : List G.α → Hp → VK
  bk : List G.α → Hp → L2.St → Hp → Prop := fun _ _ _ _ => False
  ct : List G.α → Hp → L2.St → Hp → Prop := fun _ _ _ _ => False
abbrev TG (G : Gf) := GD G → List G.α → Hp → L2.St → Hp → Prop
def GD.at {G : Gf} (D : GD G) (l : List G.α) (H0 : Hp) : L2.Ends := { nx := D.nx l H0, rt := D.rt l H0, bk := D.bk l H0, ct := D.ct l H0 }
/-- how a statement leaves -/
def GP (G : Gf) (D : GD G) (ip : List (Addr × Obj)) (l : List G.α) (H0 : Hp) (s0 : Shared) : Flow → List Addr → Shared → Prop := fun fl d s => G.Sz s0 s ∧ SPL (G.X s0 H0) (ip ++ foP G.fo s0.heap) (D.at l H0) fl d s
/-- where the code stands -/
structure GAt (G : Gf) (ip : List (Addr × Obj)) (c : Code) (fs : List Frame) (gd : Bool → Bool) : Prop where
  ip : ∀ p ∈ ip, G.L ≤ (p.1 : Nat) ∧ p.1 ∉ G.fo
  over : G.A.over c fs = G.A.deeper G.env
  split : splitAtGen fs = none
  guard : fs.any Frame.guarded = false
  gd : gd false = false
def GK1 (G : Gf) (ip : List (Addr × Obj)) (c : Code) (fs : List Frame) (K : Flow → Sem PySem.Fin) (D : GD G) : Prop := ∀ l H0 s0 fl d s, G.E s0 → GP G D ip l H0 s0 fl d s → Go G.P G.w G.A (G.Z l H0 s0) c (K fl) fs d s
structure GSt (G : Gf) (st : Stmt) (t : TG G) : Prop where
  run : ∀ (ip : List (Addr × Obj)) (c : Code) (fs : List Frame) (K : Flow → Sem PySem.Fin) (J : Value → Sem PySem.Fin) (gd : Bool → Bool) (lv : List Value → List Value) (D : GD G) l H0 s0 σ H d s,
    GAt G ip c fs gd → GK1 G ip c fs K D → G.E s0 → G.Sz s0 s → G.I s0 H0 ip σ H d s → t D l H0 σ H → Go G.P G.w G.A (G.Z l H0 s0) c ((exec st G.env).wrap K J gd lv) fs d s
structure GSts (G : Gf) (st : List Stmt) (t : TG G) : Prop where
  run : ∀ (ip : List (Addr × Obj)) (c : Code) (fs : List Frame) (K : Flow → Sem PySem.Fin) (J : Value → Sem PySem.Fin) (gd : Bool → Bool) (lv : List Value → List Value) (D : GD G) l H0 s0 σ H d s,
    GAt G ip c fs gd → GK1 G ip c fs K D → G.E s0 → G.Sz s0 s → G.I s0 H0 ip σ H d s → t D l H0 σ H → Go G.P G.w G.A (G.Z l H0 s0) c ((execs st G.env).wrap K J gd lv) fs d s
section
variable {G : Gf} {st : Stmt} {rest : List Stmt}
def uPlain (t : TS) : TG G := fun D l H0 σ H => t (D.at l H0) σ H
theorem gt_ps {t : TS} (h : ∀ s0 H0, PS (G.X s0 H0) st t) : GSt G st (uPlain t) := by
  refine ⟨fun ip c fs K J gd lv D l H0 s0 σ H d s a k ex hz I q => go_wrap (lw_of ?_)⟩
  rw [a.over]
  exact wpAny_gsz hz.2 (wpAny_mono ((h s0 H0).run _ s σ H _ I.up q) (fun fl s1 z hz1 => k l H0 s0 fl d s1 ex ⟨⟨hz.1, hz1⟩, spl_of I.dok.gen z⟩) fun _ _ z => False.elim z)
def uNil : TG G := fun D l H0 σ H => D.nx l H0 σ H
theorem gts_nil : GSts G [] uNil := ⟨fun ip c fs K J gd lv D l H0 s0 σ H d s a k ex hz I q => k l H0 s0 .next d s ex ⟨hz, σ, H, I, q⟩⟩
def uThen (t u : TG G) : TG G := fun D l H0 σ H => t { D with nx := fun l1 H1 σ1 H2 => u D l1 H1 σ1 H2 } l H0 σ H
theorem gts_cons {t u : TG G} (x : GSt G st t) (y : GSts G rest u) : GSts G (st :: rest) (uThen t u) := by
  refine ⟨fun ip c fs K J gd lv D l H0 s0 σ H d s a k ex hz I q => ?_⟩
  rw [execs_cons_wrap]
  refine x.run ip c fs _ J gd lv { D with nx := fun l1 H1 σ1 H2 => u D l1 H1 σ1 H2 } l H0 s0 σ H d s a (fun l1 H1 s1 fl d2 s2 ex z => ?_) ex hz I q
  cases fl with
  | next =>
    obtain ⟨hz, σ1, H2, I1, q1⟩ := z
    exact y.run ip c fs K J gd lv D l1 H1 s1 σ1 H2 d2 s2 a k ex hz I1 q1
  | brk => exact k l1 H1 s1 .brk d2 s2 ex z
  | cont => exact k l1 H1 s1 .cont d2 s2 ex z
  | ret u => exact k l1 H1 s1 (.ret u) d2 s2 ex z
def uIf (c : TT) (t u : TG G) : TG G := fun D l H0 σ H => c σ H fun b H1 => if b = true then t D l H0 σ H1 else u D l H0 σ H1
theorem gt_if {test : Expr} {b1 b2 : List Stmt} {pos : Pos} {c : TT} {t u : TG G} (h : ∀ s0 H0, PT (G.X s0 H0) test c) (x : GSts G b1 t) (y : GSts G b2 u) : GSt G (.If test b1 b2 pos) (uIf c t u) := by
  refine ⟨fun ip cc fs K J gd lv D l H0 s0 σ H d s a k ex hz I q => ?_⟩
  refine go_at ?_
  show Go _ _ _ _ _ ((isTrue test G.env (eval test G.env) >>= fun b => if b then execs b1 G.env else execs b2 G.env).wrap K J gd lv) _ _ _
  refine go_bindw (lw_of ?_)
  rw [a.over]
  refine wpAny_gsz hz.2 (wpAny_mono ((h s0 H0).run _ s σ H _ I.up q) (fun b s1 z hz1 => ?_) fun _ _ z => False.elim z)
  obtain ⟨H1, I1, q1⟩ := z
  have I1 : G.I s0 H0 ip σ H1 d s1 := .of I1 I.dok.gen
  have hz : G.Sz s0 s1 := ⟨hz.1, hz1⟩
  cases b with
  | true => rw [if_pos rfl] at q1 ⊢; exact x.run ip cc fs K J gd lv D l H0 s0 σ H1 d s1 a k ex hz I1 q1
  | false => rw [if_neg Bool.false_ne_true] at q1 ⊢; exact y.run ip cc fs K J gd lv D l H0 s0 σ H1 d s1 a k ex hz I1 q1
end
end Lk
/-! Kg5 -/
namespace Lk
open PySem PySem.Spec PyProof.Rows L2 GenW
section
variable {G : Gf} {e : Expr} {yp pos : Pos} {te : TE}
theorem prom_of {s s0 : Shared} {H H0 : Hp} {σ : L2.St} {ip : List (Addr × Obj)} (F : G.Fx) (hz : G.Sz s0 s) (I : Inv (G.X s0 H0) (ip ++ foP G.fo s0.heap) σ H s) (h : G.Rl H0 H) : Prom G.P G.w G.outer G.L G.fo G.Rl H0 s0 H s :=
  ⟨I.os, I.bare, I.hok, stretch_un F I, h, hz.2⟩
def uYield (te : TE) : TG G := fun D l H0 σ H => te σ H fun x H1 => ∃ y r, l = y :: r ∧ G.It y H1 x ∧ G.Rl H0 H1 ∧ ∀ H2, (∀ b u, H1 b = some u → H2 b = some u) → D.nx r H2 σ H2
theorem gt_yield (F : G.Fx) (he : ∀ s0 H0, PE (G.X s0 H0) e te) (hco : G.env.scope.isCoroutine = false) (hi : interactive G.env = false) : GSt G (.Expr (.Yield (some e) yp) pos) (uYield te) := by
  refine ⟨fun ip c fs K J gd lv D l H0 s0 σ H d s a k ex hz I q => ?_⟩
  rw [exec_Expr G.env _ pos hi rfl]
  show Go G.P G.w G.A (G.Z l H0 s0) c (.at pos fun _ => ((eval e G.env >>= fun v => (standAt yp >>= fun _ => yieldOut G.env v)) >>= fun x => dropValue (.Yield (some e) yp) pos x).wrap K J gd lv) fs d s
  have hy : ∀ v, yieldOut G.env v = yieldValue v := fun v => by simp only [yieldOut, hco, Bool.false_eq_true, if_false]
  simp only [hy]
  refine go_at ?_
  rw [Sem.bind_eq_wrap', Sem.bind_eq_wrap', Sem.wrap_wrap, Sem.wrap_wrap]
  refine go_wrap (lw_of ?_)
  rw [a.over]
  refine wpAny_gsz hz.2 (wpAny_mono ((he s0 H0).run _ s σ H _ I.up q) (fun v s1 z hz1 => ?_) fun _ _ z => False.elim z)
  obtain ⟨x, H1, I1, rv, y, r, rfl, hIt, hRl, hk⟩ := z
  have I1 : G.I s0 H0 ip σ H1 d s1 := .of I1 I.dok.gen
  refine go_at (go_yield (d1 := d) a.split a.guard (fun _ h => h) (fun h => ?_) fun p => ?_)
  · have h : gd false = true := h
    rw [a.gd] at h
    cases h
  refine ⟨v, _, _, _, c, p, fs, H1, x, rfl, rv, hIt, prom_of F ⟨hz.1, hz1⟩ I1.inv hRl, I1.dok, ?_⟩
  refine (alive_iff ..).mpr fun H2 s2 d2 zz dk => ?_
  exact k r H2 s2 .next d2 s2 (fun b hb => let ⟨o, e, _⟩ := zz.fop b hb; ⟨o, e⟩) ⟨⟨zz.big, Nat.le_refl _⟩, σ, H2, ⟨wake_inv F I1.inv a.ip zz, dk⟩, hk H2 zz.sub⟩
/-- the body: a fresh generator -/
theorem gen_body {body : List Stmt} {t : TG G} (F : G.Fx) (h : GSts G body t) {l : List G.α} {H : Hp} {s s1 : Shared} {H1 : Hp} {σ : L2.St} {pq : List (Addr × Obj)} (I : Inv (G.X s1 H1) ([] ++ pq) σ H s)
    (q : ∀ H0, (∀ b u, H b = some u → H0 b = some u) → t { nx := fun l H0 _ H2 => l = [] ∧ G.Rl H0 H2, rt := fun l H0 v H2 => l = [] ∧ v = .non ∧ G.Rl H0 H2 } l H0 σ H0) : G.Al l H s (.fresh (.func body G.env)) := by
  refine (alive_iff ..).mpr fun H0 s0 d0 zz dk => ?_
  have I0 := wake_inv F I (fun p hp => by simp at hp) zz
  show Go G.P G.w G.A (G.Z l H0 s0) (.func body G.env) (.point [] fun _ => ((execs body G.env).onRaise (leaving G.env)) >>= _) [] d0 s0
  refine go_point ?_
  rw [Sem.onRaise_eq_wrap, Sem.bind_eq_wrap', Sem.wrap_wrap]
  refine h.run [] _ [] _ _ _ _ { nx := fun l H0 _ H2 => l = [] ∧ G.Rl H0 H2, rt := fun l H0 v H2 => l = [] ∧ v = .non ∧ G.Rl H0 H2 } l H0 s0 σ H0 d0 s0 ⟨fun p hp => by simp at hp, over_func, rfl, rfl, rfl⟩ (fun l1 H1 s1 fl d1 s2 _ z => ?_) (fun b hb => let ⟨o, e, _⟩ := zz.fop b hb; ⟨o, e⟩) ⟨zz.big, Nat.le_refl _⟩ ⟨I0, dk⟩ (q H0 zz.sub)
  cases fl with
  | next =>
    obtain ⟨hz, σ1, H2, I1, rfl, hr⟩ := z
    exact go_end (.ok (.ret .none)) ⟨.inl rfl, H2, prom_of F hz I1.inv hr, I1.dok⟩
  | brk => obtain ⟨_, _, _, _, z⟩ := z; exact z.elim
  | cont => obtain ⟨_, _, _, _, z⟩ := z; exact z.elim
  | ret u =>
    obtain ⟨hz, v, σ1, H2, I1, rv, rfl, rfl, hr⟩ := z
    have eu : u = Value.none := rv
    subst eu
    exact go_end (.ok (.ret .none)) ⟨.inl rfl, H2, prom_of F hz I1.inv hr, I1.dok⟩
end
end Lk
/-! Kg6 -/
namespace Lk
open PySem PySem.Spec PyProof.Rows L2 GenW
/-- a generator's object; nobody sleeps over it -/
def GenOb (h : Heap) (a : Addr) (g : Nat) : Prop :=
  ∃ o nm qn, h.get? a = some o ∧ o.cls = .type "generator" ∧ o.data = .fields #[.int g 0, nm, qn] ∧ ∀ n t, o.slots[0]? = some (some (Value.int n t)) → ¬ n > 0
theorem GenOb.of {h : Heap} {a : Addr} {g : Nat} (x : h.IsGen a g) : GenOb h a g := by
  obtain ⟨o, nm, qn, h1, h2, h3, h4⟩ := x
  exact ⟨o, nm, qn, h1, h2, h3, fun n t e => by rw [h4] at e; simp at e⟩
theorem GenOb.ty {s : Shared} {a : Addr} {g : Nat} (x : GenOb s.heap a g) : s.TypeIs (.ref a) "generator" := let ⟨o, _, _, h1, h2, _⟩ := x; ⟨o, h1, h2⟩
theorem GenOb.keeps {h h' : Heap} {a : Addr} {g : Nat} (x : GenOb h a g) (k : ∀ o, h.get? a = some o → h'.get? a = some o) : GenOb h' a g := let ⟨o, nm, qn, h1, r⟩ := x; ⟨o, nm, qn, k o h1, r⟩
theorem wpAny_genNo {M : Model} {A : Around} {E : Value → Shared → Prop} {s : Shared} {a : Addr} {g : Nat} {Q : Nat → Shared → Prop} (x : GenOb s.heap a g) (h : Q g s) : wpAny M A (Builtin.Generator.genNumber (.ref a)) Q E s := by
  obtain ⟨o, nm, qn, h1, _, h3, h4⟩ := x
  unfold Builtin.Generator.genNumber
  refine wpAny_bind (wpAny_load h1 ?_)
  rw [h3]
  have fin : wpAny M A (pure ((g : Int).toNat)) Q E s := by
    rw [Int.toNat_natCast]
    exact wpAny_pure h
  try dsimp only
  split
  · rename_i n t q
    rw [if_neg (h4 n _ q)]
    exact fin
  · exact fin
section
variable {P : Program} {w : World} {A : Around} {E : Value → List Addr → Shared → Prop} {d : List Addr} {s : Shared}
/-- what is wanted of a tree's leaf -/
abbrev FinQ (P : Program) (w : World) (A : Around) (RR : Result → List Addr → Shared → Prop) : PySem.Fin → List Addr → Shared → Prop := fun fin d1 s1 => match fin with
  | .done f => RR (.ok f) d1 s1
  | .again c' => c'.quiet = true ∧ LC P w A c' RR d1 s1
theorem lw_runValue {c : Code} {Q : Value → List Addr → Shared → Prop} (h : LC P w A c (fun r d1 s1 => match r with | .ok (.ret v) => Q v d1 s1 | .ok _ => False | .error x => E x d1 s1) d s) : LW P w A (runValue c) Q E d s := by
  unfold runValue PySem.run
  refine lw_bind (lw_call (by simp) (lc_mono h fun r d1 s1 q => ?_))
  cases r with
  | error x => exact lw_of (wpAny_throw q)
  | ok f =>
    cases f with
    | ret v => exact lw_pure (lw_pure q)
    | _ => exact q.elim
theorem lc_builtin {id : String} {args : Args} {b : Builtin} {RR : Result → List Addr → Shared → Prop} (hq : plainId id = true) (hb : entryFor table id = some b) (h : LW P w A.in1 (b args) (FinQ P w A RR) (fun x => RR (.error x)) d s) : LC P w A (.builtin id args) RR d s := by
  refine lc_tree ?_
  rw [Around.under_plainId hq args]
  show LW _ _ _ (match entryFor table id with | some b => b args | none => unsupported ((withoutEnding? id "#data").getD id)) _ _ d s
  rw [hb]
  exact h
theorem lc_call_builtin {id : String} {args : Args} {b : Builtin} {RR : Result → List Addr → Shared → Prop} (hq : plainId id = true) (hb : entryFor table id = some b)
    (h : wpAny (model P w) A.in1 (checkBuiltinCall id args) (fun _ s1 => LW P w A.in1 (b args) (FinQ P w A RR) (fun x => RR (.error x)) d s1) (fun x s1 => RR (.error x) d s1) s) : LC P w A (.call (.builtin id) args) RR d s := by
  refine lc_tree ?_
  show LW _ _ A.in1 (do checkBuiltinCall id args; again (.builtin id args)) _ _ d s
  exact lw_bindw (wpAny_mono h (fun _ s1 q => lw_pure ⟨plainId_quiet hq args, lc_builtin hq hb q⟩) fun _ _ q => q)
theorem lw_call_entry {T : String} {name : Str} {id : String} {b : Builtin} {self : Value} {rest : List Value} {Q : Value → List Addr → Shared → Prop} (h : Slot T name id) (hT : s.TypeIs self T) (hb : entryFor table id = some b)
    (hc : LW P w A.in1 (b ⟨self :: rest, []⟩) (fun fin d1 s1 => ∃ v, fin = .done (.ret v) ∧ Q v d1 s1) E d s) (ha : argsOk id ⟨self :: rest, []⟩ := by rfl) : LW P w A (call (.builtin id) (self :: rest)) Q E d s := by
  refine lw_runValue (lc_call_builtin h.plain hb (h.check _ _ _ _ _ _ _ _ hT ha (lw_mono hc (fun fin d1 s1 q => ?_) fun _ _ _ q => q)))
  obtain ⟨v, rfl, q⟩ := q
  exact q
theorem lw_special {self : Value} {T : String} {name : Str} {id : String} {args : List Value} {Q : Option Value → List Addr → Shared → Prop} (hT : s.TypeIs self T) (h : Slot T name id)
    (hc : LW P w A (call (.builtin id) (self :: args)) (fun v => Q (some v)) E d s) : LW P w A (callSpecial? self name args) Q E d s := by
  simp only [callSpecial?]
  refine lw_bindw (wpAny_specialOf hT h.lookup ?_)
  simp only [h.bind]
  exact lw_holding (lw_bind (lw_pure (lw_bind (lw_mono hc (fun v d1 s1 q => lw_pure q) fun _ _ _ q => q))))
/-- __next__ of a generator -/
theorem gnx {Z : End → List Addr → Shared → Prop} {a : Addr} {g : Nat} {gs : GenState} {Q : Option Value → List Addr → Shared → Prop} (hh : A.handled = none) (hl : s.heap.NoLimit) (hroom : A.depth < recursionLimit)
    (hg : GenOb s.heap a g) (hgs : s.gens[g]? = some gs) (hr : Ready P w A.in1 Z gs d (s.setGen g .running))
    (hZ : ∀ e d1 s1, Z e d1 s1 → ((∃ v b l k c p fs, e = .susp v b l k c p fs ∧ Q (some v) d1 (s1.setGen g (still e))) ∨
      ((e = .ret (.ok (.ret .none)) ∨ e = .ret (.ok .next)) ∧ ∀ x h', StopX x h' → (∀ b o, s1.heap.get? b = some o → h'.get? b = some o) → E x d1 { s1.setGen g .finished with heap := h' }))) :
    LW P w A (callSpecial? (.ref a) "__next__") Q E d s := by
  refine lw_special (name := Str.ofString "__next__") hg.ty slot_gen_next (lw_call_entry slot_gen_next hg.ty entry_gen_next ?_ (args_gen_next _))
  show LW _ _ A.in1 (Builtin.Generator.genWake (.ref a) (.send .none)) _ _ d s
  unfold Builtin.Generator.genWake
  refine lw_bindw (wpAny_holding (wpAny_genNo hg (lw_bindw (wpAny_genState hgs ?_))))
  cases gs with
  | running => exact hr.elim
  | finished => exact hr.elim
  | _ =>
    refine lw_bindw (wpAny_roomToWake hl hroom ?_)
    show LW _ _ A.in1 (.resume g (.send .none) [] _) _ _ d s
    refine lw_resume hgs hr fun e d1 s1 z => ?_
    rcases hZ e d1 s1 z with ⟨v, b, l, k, c, p, fs, rfl, q⟩ | ⟨he, q⟩
    · exact lw_pure ⟨v, rfl, q⟩
    · have h1 : End.result e = .returned .none := by rcases he with rfl | rfl <;> rfl
      have h2 : still e = .finished := by rcases he with rfl | rfl <;> rfl
      first | rw [h1] | simp only [h1]
      first | rw [h2] | simp only [h2]
      refine lw_of ?_
      show wpAny _ A.in1 (newExc (.type "StopIteration") [] >>= _) _ _ _
      refine wpAny_bind ?_
      simp only [newExc, newTuple]
      refine wpAny_bind (wpAny_newObj_type ?_ (by size_fits))
      refine wpAny_bind (m := firstArgMember _ _) (wpAny_of_eq (a := Value.none) (by first | rfl | (simp only [firstArgMember]; rfl)) ?_)
      refine wpAny_newObj_type ?_ (by size_fits)
      simp only [raiseNew]
      refine wpAny_bind (wpAny_bind (wpAny_handled ?_))
      first | rw [show A.in1.handled = none from hh] | rw [hh]
      refine wpAny_throw ?_
      refine q _ _ ⟨_, _, _, rfl, Heap.get?_push_size _ rfl, rfl, rfl, rfl⟩ fun b o e1 => Heap.get?_push_of_some _ (Heap.get?_push_of_some _ e1)
/-- next(g) within a loop -/
theorem gnext {Z : End → List Addr → Shared → Prop} {a : Addr} {g : Nat} {gs : GenState} {Q : Option Value → List Addr → Shared → Prop} (hh : A.handled = none) (hl : s.heap.NoLimit) (hroom : A.depth < recursionLimit)
    (hg : GenOb s.heap a g) (hgs : s.gens[g]? = some gs) (hr : Ready P w A.in1 Z gs d (s.setGen g .running))
    (hZ : ∀ e d1 s1, Z e d1 s1 → ((∃ v b l k c p fs, e = .susp v b l k c p fs ∧ Q (some v) d1 (s1.setGen g (still e))) ∨
      ((e = .ret (.ok (.ret .none)) ∨ e = .ret (.ok .next)) ∧ ∀ h', (∀ b o, s1.heap.get? b = some o → h'.get? b = some o) → Q none d1 { s1.setGen g .finished with heap := h' }))) :
    LW P w A (pyNext (.ref a)) Q E d s := by
  unfold pyNext
  refine lw_bind (lw_attempt (gnx hh hl hroom hg hgs hr fun e d1 s1 z => ?_))
  rcases hZ e d1 s1 z with ⟨v, b, l, k, c, p, fs, rfl, q⟩ | ⟨he, q⟩
  · exact .inl ⟨v, b, l, k, c, p, fs, rfl, lw_pure q⟩
  · refine .inr ⟨he, fun x h' hx hk => ?_⟩
    obtain ⟨b, o, vs, rfl, h1, h2, _⟩ := hx
    refine lw_bindw (wpAny_isInstance (T := "StopIteration") (b := true) ⟨o, h1, h2⟩ isSubtype_stop ?_)
    exact lw_pure (q h' hk)
end
end Lk
/-! Kg7 -/
namespace Lk
open PySem PySem.Spec PyProof.Rows L2 GenW
section
variable {P : Program} {w : World} {K : PySem.W.Frag} {mg : Str → Option Value} {base : Heap} {N : List Str} {qual : Str} {scope : Scope} {f : Addr} {cd : Value} {A : Around} {outer : List Env} {fo : List Addr}
/-- the frame as the kit's call leaves it, seen from the stretch -/
theorem first_inv {Aw : Around} {s s1 : Shared} {H : Hp} {σ : L2.St} {E : XK} (F : Fix K mg base qual scope f cd Aw outer s.heap.objs.size fo) (I : Inv (gcxOf P w K mg base N qual scope f cd A outer s H E []) [] σ H s1)
    (hf : ∀ b ∈ fo, s1.heap.get? b = none) : Inv (gX P w K mg base N qual scope f cd Aw outer s.heap.objs.size s1 H) ([] ++ foP fo s1.heap) σ H s1 := by
  obtain ⟨m, hn, hl⟩ := I.loc
  have hLs : s.heap.objs.size < s1.heap.objs.size := I.lt
  have hsz : (cutH s.heap.objs.size s1.heap).objs.size = s.heap.objs.size := cutH_size
  have noA : ∀ b : Addr, b ∉ (gX P w K mg base N qual scope f cd Aw outer s.heap.objs.size s1 H).ex := fun b hb => absurd (show b ∈ ([] : List Addr) from hb) (by simp)
  refine ⟨⟨F.mod, F.kind, rfl, rfl, Nat.le_of_eq hsz, fun x y c h1 _ => ?_, fun x hx => absurd hx (F.nok x), fun x c _ h1 => ?_, fun _ => F.hd, Around.frames_deeper F.frames, .inr ⟨rfl, rfl⟩, fun b hb => absurd hb (noA b), fun b o e => ?_, ?_, fun b _ _ => noA b, fun b hb => absurd hb (noA b), funs_cut F.frl I.funs, I.ok.frf⟩,
    rfl, I.bare, ?_, ⟨m, hn, hl⟩, fun x c h1 => ?_, I.free, fun x c h1 => ?_, fun p hp => ?_, I.hok, I.len⟩
  · exact absurd ((F.noc x).symm.trans h1) (by simp)
  · exact absurd ((F.noc x).symm.trans h1) (by simp)
  · obtain ⟨e1, e2⟩ := I.bs b o e
    exact ⟨(cutH_get (Nat.lt_of_lt_of_le (Heap.lt_size e) F.low)).trans e1, e2⟩
  · show base.objs.size ≤ (cutH s.heap.objs.size s1.heap).objs.size
    rw [hsz]; exact F.low
  · exact ⟨fun b o e n _ _ => (cutH_of e).2, fun b o e n _ _ => ⟨o.slots, (cutH_of e).2⟩, fun b o e n _ => n, fun b o e _ => ⟨o, (cutH_of e).2⟩, fun _ _ e => e, fun _ _ _ e => e, fun b ps e => ⟨#[], by rw [show H b = some (.tbl ps) from e]; simp⟩⟩
  · exact absurd ((F.noc x).symm.trans h1) (by simp)
  · exact absurd ((F.noc x).symm.trans h1) (by simp)
  · have hp : p ∈ [] ++ ([] ++ foP fo s1.heap) := hp
    have hp : p ∈ foP fo s1.heap := by simpa using hp
    obtain ⟨q1, q2⟩ := foP_of hp
    rw [hf p.1 q1] at q2
    cases q2
/-- a call of a generator def: its frame stands, its object is new; nothing has run -/
theorem gmake {k : Nat} {name : Str} {params : Arguments} {body : List Stmt} {dV kV doc pm cdv ct oc : Value} {an od : Option Addr} {osl : Array (Option Value)} {ps : List Str} {s : Shared} {H : Hp} {args : Args} {us : List Value} {vs : List V} {R : Result → Shared → Prop}
    (lk : K.lookup f = some ⟨oc, od, .func (PySem.W.fnOf name qual params body scope dV kV doc pm an cdv ct), osl⟩) (hcd : PySem.W.codeIn K cdv qual = true) (S : GScope N ps scope) (hr : Room (k + 1) A) (e0 : Env0 P w K mg base A outer s H)
    (hb : BindsTo s (PySem.W.fnOf name qual params body scope dV kV doc pm an cdv ct) args (ps.zip us)) (hl : vs.length = ps.length) (r : Vals vs us)
    (h : ∀ (s1 : Shared) (go : Obj) (tk : Nat), Inv (gcxOf P w K mg base N qual scope f cdv A outer s H C8.E0 []) [] (start N vs) H s1 → s1.os = s.os → s1.gens = s.gens → s.heap.objs.size < s1.heap.objs.size → (∀ b o, s.heap.get? b = some o → s1.heap.get? b = some o) →
      GenOb (s1.heap.push go) s1.heap.objs.size s.gens.size → (s1.heap.push go).get? s1.heap.objs.size = some go → (∀ v, go.data ≠ .cell v) →
      R (.ok (.ret (.ref s1.heap.objs.size))) { s1 with gens := s.gens.push (.fresh (.func body (envOfC qual scope s.heap.objs.size f cdv))), toks := tk, heap := s1.heap.push go }) :
    codeAny (model P w) A (.call (.ref f) args) R s := by
  have KX : K.In s.heap := e0.mod.kin.keeps fun b o e => (e0.bs b o e).1
  have lim : s.heap.NoLimit := e0.mod.nolimit.keeps fun b o e => (e0.bs b o e).1
  have hkind : ∀ y ∈ ps.zip us, scope.names.lookup y.1 = some .local ∨ (scope.names.lookup y.1 = some .cell ∧ ((cellsFrom (s.heap.objs.size + 1) scope.names []).lookup y.1).isSome = true) := fun ⟨n, v⟩ hy => by
    rcases S.par n (List.of_mem_zip hy).1 with q | q
    · exact .inl q
    · exact .inr ⟨q, PySem.W.cellsFrom_some _ _ _ (.inl q)⟩
  refine codeAny_call_generator hr.depth (KX _ _ lk) rfl S.co S.gen rfl (PySem.W.codeRec_of KX hcd) (hb _ _ _ _ ?_)
  refine wpAny_newFunctionEnv_cells S.kind hkind fun env he s1 x => ?_
  subst he
  refine ⟨lim.keeps x.toInCall.keep, ?_⟩
  have I1 : Inv (gcxOf P w K mg base N qual scope f cdv A outer s H C8.E0 []) [] (start N vs) H s1 := inv_startG S hr.hd e0 hl r x
  obtain ⟨h1, tk, es1, hk1⟩ := id x.done
  have os1 : s1.os = s.os := by rw [es1]
  have gen1 : s1.gens = s.gens := by rw [es1]
  have q := h s1 { cls := .type "generator", data := .fields #[.int s1.gens.size 0, .str name s1.toks, .str qual (s1.toks + 1)] } (s1.toks + 1 + 1) I1 os1 gen1 x.toInCall.ns.lt x.toInCall.keep
    ⟨_, _, _, Heap.get?_push_size _ rfl, rfl, by rw [gen1], fun n t e => by simp at e⟩ (Heap.get?_push_size _ rfl) (fun v e => by cases e)
  rw [gen1] at q ⊢
  exact q
end
end Lk
/-! Kg8 -/
namespace Lk
open PySem PySem.Spec PyProof.Rows L2 GenW
/-- the frame behind a loop's code -/
abbrev loopK (env : Env) (K : Flow → Sem PySem.Fin) (J : Value → Sem PySem.Fin) (gd : Bool → Bool) (lv : List Value → List Value) : Result → Sem PySem.Fin :=
  fun r => ((match r with | .ok f => (.pure f : Sem Flow) | .error e => .raise e).onRaise fun (x : Value) => do
    if (← field x 1) == Value.none then unsupported "frame.own-activation:exception-without-traceback"
    setFlight x env.frame).wrap K J gd lv
section
variable {P : Program} {w : World} {A : Around} {Z : End → List Addr → Shared → Prop} {c : Code} {fs : List Frame} {d : List Addr} {s : Shared} {env : Env}
theorem go_For {tg iter : Expr} {body : List Stmt} {pos : Pos} {K : Flow → Sem PySem.Fin} {J : Value → Sem PySem.Fin} {gd : Bool → Bool} {lv : List Value → List Value} (hs : ∀ x, foldedSetIterable iter env x = pure x)
    (h : wpAny (model P w) (A.over c fs) (eval iter env) (fun x s1 => wpAny (model P w) (A.over c fs) (pyIter x) (fun it s2 => ∀ p, Go P w A Z (.forLoop tg it body [] env) (denote table (.forLoop tg it body [] env)) (.ret (loopK env K J gd lv) none (gd false) (lv []) c p [] :: fs) d s2) (fun _ _ => False) s1) (fun _ _ => False) s) :
    Go P w A Z c ((exec (.For tg iter body [] pos) env).wrap K J gd lv) fs d s := by
  rw [exec_For]
  refine go_bindw (lw_standAt ?_)
  refine go_bindw (lw_of (wpAny_mono h (fun x s1 h1 => ?_) fun _ _ z => z.elim))
  refine go_bindw (lw_of (wpAny_of_eq (hs x) ?_))
  refine go_bindw (lw_standAt ?_)
  refine go_bindw (lw_of (wpAny_holding (wpAny_mono h1 (fun it s2 h2 => ?_) fun _ _ z => z.elim)))
  exact go_call h2
/-- one turn of a loop -/
theorem go_turn {tg : Expr} {it : Value} {body : List Stmt} {k : Result → Sem PySem.Fin} {hd : Option Value} {g : Bool} {l kp : List Value} {q : Pos}
    (h : LW P w (A.over (.forLoop tg it body [] env) (.ret k hd g l c q kp :: fs)) (pyNext it) (fun r d1 s1 => match r with
      | none => Go P w A Z c (k (.ok .next)) fs d1 s1
      | some v => wpAny (model P w) (A.over (.forLoop tg it body [] env) (.ret k hd g l c q kp :: fs)) (letOwnedTupleGo tg it v) (fun _ s2 => wpAny (model P w) (A.over (.forLoop tg it body [] env) (.ret k hd g l c q kp :: fs)) (assign tg env v) (fun _ s3 =>
          ∀ J, Go P w A Z (.forLoop tg it body [] env) ((execs body env).wrap (fun f => match f with
            | .next | .cont => .pure (.again (.forLoop tg it body [] env))
            | .brk => .pure (.done .next)
            | .ret v => .pure (.done (.ret v))) J id id) (.ret k hd g l c q kp :: fs) d1 s3) (fun _ _ => False) s2) (fun _ _ => False) s1) (fun _ _ _ => False) d s) :
    Go P w A Z (.forLoop tg it body [] env) (denote table (.forLoop tg it body [] env)) (.ret k hd g l c q kp :: fs) d s := by
  show Go P w A Z _ ((forTurn tg it body [] env).onRaise (fun x => do noteFrame x env; theTreesLotGoes x)) _ d s
  unfold forTurn
  rw [Sem.onRaise_eq_wrap]
  refine go_bindw (lw_standAt ?_)
  refine go_bindw (lw_onRaise (lw_mono h (fun r d1 s1 h1 => ?_) fun _ _ _ z => z.elim))
  cases r with
  | none =>
    show Go P w A Z _ (.pure (.again (.block [] env))) _ _ _
    refine go_again rfl ?_
    exact go_leaf (.ok .next) h1
  | some v =>
    refine go_bindw (lw_of (wpAny_mono h1 (fun _ s2 h2 => ?_) fun _ _ z => z.elim))
    refine go_bindw (lw_of (wpAny_mono h2 (fun _ s3 h3 => ?_) fun _ _ z => z.elim))
    rw [Sem.bind_eq_wrap', Sem.wrap_wrap]
    rw [Sem.wrap_congr (execs body env) _ _ (K' := fun f => match f with
            | .next | .cont => .pure (.again (.forLoop tg it body [] env))
            | .brk => .pure (.done .next)
            | .ret v => .pure (.done (.ret v))) (fun f => by cases f <;> rfl) (fun _ => rfl)]
    exact h3 _
end
end Lk
/-! Kg9 -/
namespace Lk
open PySem PySem.Spec PyProof.Rows L2 GenW
/-- an iterator of the kit that is no generator -/
structure PIG (X : Cx) (tg iter : Expr) (wi : TI) : Prop where
  run : ∀ (pins : List (Addr × Obj)) (s : Shared) (σ : L2.St) (H : Hp) (R : It → Hp → Prop), Inv X pins σ H s → wi σ H R →
    wpAny (model X.prog X.w) X.A (eval iter X.env) (fun v s1 => wpAny (model X.prog X.w) X.A (pyIter v) (fun itv s2 => ∃ (it : Addr) (fp : List Addr) (tn : Nat → Heap → Prop) (J : It) (H' : Hp), itv = .ref it ∧ Inv X pins σ H' s2 ∧ Turn X.prog X.w X.K tg J fp it tn ∧ tn 0 s2.heap ∧
      (∀ b ∈ fp, FpOk X pins H' b) ∧ R J H' ∧ ∀ i h, tn i h → ∀ b ∈ fp, ¬ GenAt h b) X.xe s1) X.xe s
theorem not_gen {h : Heap} {b : Addr} {o : Obj} (e : h.get? b = some o) (n : o.genNumber? = none) : ¬ GenAt h b := fun ⟨o', e', n'⟩ => by
  rw [e] at e'
  cases e'
  rw [n] at n'
  cases n'
theorem pig_tup {X : Cx} {tg l : Expr} {tl : TE} (hl : PE X l tl) : PIG X tg l (iTup X.K tl) := by
  refine ⟨fun pins s σ H R I h => thn (hl.run pins s σ H _ I h) fun v s1 z => ?_⟩
  obtain ⟨x, H1, I1, r1, a, rfl, ⟨xs, hq⟩, q⟩ := z
  obtain rfl : v = Value.ref a := r1
  obtain ⟨its, rv, pt, hz⟩ := I1.tuple hq
  have fresh := I1.hok.fresh (Nat.le_refl s1.heap.objs.size)
  refine wpAny_pyIter_tuple (show s1.heap.IsTuple a its.toArray from pt) ⟨s1.heap.objs.size, [s1.heap.objs.size], _, _, H1, rfl, I1.kept (t' := s1.toks) fun b o e => Heap.get?_push_of_some _ e, turn_tuple a _,
    ⟨_, Heap.get?_push_size _ rfl, rfl, rfl⟩, fun b hb => ?_, q, fun i h tn b hb => ?_⟩
  · rw [List.mem_singleton.mp hb]
    exact I1.fpOk (Nat.le_refl _) fresh
  · rw [List.mem_singleton.mp hb]
    obtain ⟨o, ho, hc, hd⟩ := id tn
    exact not_gen ho (by unfold Obj.genNumber?; rw [hc, hd]; simp)
section
variable {G : Gf} {tg iter : Expr} {body : List Stmt} {pos : Pos}
def uFor (wi : TI) (g : L2.TG) (tb : Lk.TG G) : Lk.TG G := fun D l H0 σ H => wi σ H fun J H1 => ∃ W : Nat → Nat → List G.α → Hp → L2.St → Hp → Prop, (∃ m, W 0 m l H0 σ H1) ∧ ∀ i m l H0 σ H, W i m l H0 σ H →
  (J.stop i H ∧ D.nx l H0 σ H) ∨ (J.go i H ∧ ∃ N : List G.α → Hp → L2.St → Hp → Prop, (∀ l' H0' σ' H', N l' H0' σ' H' → ∃ m', m' < m ∧ W (i + 1) m' l' H0' σ' H') ∧
    ∀ x H', J.yld i H x H' → g x σ H' fun σ2 H2 => tb { D with nx := N, ct := N, bk := D.nx } l H0 σ2 H2)
theorem gt_for {wi : TI} {g : L2.TG} {tb : Lk.TG G} (F : G.Fx) (hi : ∀ s0 H0, PIG (G.X s0 H0) tg iter wi) (hg : ∀ s0 H0, PG (G.X s0 H0) tg g) (hb : GSts G body tb)
    (hs : ∀ x, foldedSetIterable iter G.env x = pure x := by intro _; rfl) : GSt G (.For tg iter body [] pos) (uFor wi g tb) := by
  refine ⟨fun ip c fs K J gd lv D l H0 s0 σ H d s a k ex hz I q => ?_⟩
  refine go_For hs ?_
  rw [a.over]
  have gd0 := I.dok.gen
  refine wpAny_gsz hz.2 (wpAny_mono ((hi s0 H0).run _ s σ H _ I.up q) (fun v s1 h1 hz1 => wpAny_gsz hz1 (wpAny_mono h1 (fun itv s2 h2 hz2 => ?_) fun _ _ z => False.elim z)) fun _ _ z => False.elim z)
  obtain ⟨it, fp, tn, It, H2, rfl, I2, T, st2, f2, ⟨W, ⟨m0, w0⟩, turn⟩, ng⟩ := h2
  have J2 : G.I s0 H0 ip σ H2 d s2 := .of I2 gd0
  intro p
  have hA : G.A.over (.forLoop tg (.ref it) body [] G.env) (.ret (loopK G.env K J gd lv) none (gd false) (lv []) c p [] :: fs) = G.A.deeper G.env := (over_loop rfl rfl).trans a.over
  have stat : ∀ b ∈ fp, G.L ≤ (b : Nat) ∧ b ≠ G.L ∧ b ∉ frs G.outer ∧ b ∉ G.fo ∧ ∀ p ∈ ip, p.1 ≠ b := fun b hb => by
    obtain ⟨_, h1, h2, h3, _, h5⟩ := f2 b hb
    refine ⟨?_, h1, h2, fun hf => ?_, fun p hp => h5 p (List.mem_append_right _ (List.mem_append_left _ (List.mem_append_left _ hp)))⟩
    · rcases h3 with z | z
      · exact absurd (show b ∈ ([] : List Addr) from z) (by simp)
      · have e : (G.X s0 H0).s_0.heap.objs.size = G.L := cutH_size
        rw [e] at z
        exact z
    · obtain ⟨o, e⟩ := ex b hf
      exact h5 (b, o) (List.mem_append_right _ (List.mem_append_left _ (List.mem_append_right _ (foP_mem hf e)))) rfl
  have fpk : ∀ {s0 : Shared} {H0 : Hp} {σ : L2.St} {H H' : Hp} {d : List Addr} {s : Shared} {i : Nat}, G.I s0 H0 ip σ H d s → tn i s.heap → (∀ b ∈ fp, H' b = none) → ∀ b ∈ fp, FpOk (G.X s0 H0) ((ip ++ foP G.fo s0.heap) ++ foP d s.heap) H' b := fun {s0 H0 σ H H' d s i} I st hn b hb => by
    obtain ⟨h1, h2, h3, h4, h5⟩ := stat b hb
    refine ⟨hn b hb, h2, h3, .inr ?_, fun x c e => absurd ((F.noc x).symm.trans e) (by simp), fun p hp => ?_⟩
    · show (cutH G.L s0.heap).objs.size ≤ b
      rw [cutH_size]
      exact h1
    · rcases List.mem_append.mp hp with z | z
      · exact absurd (show p ∈ ([] : List (Addr × Obj)) from z) (by simp)
      rcases List.mem_append.mp z with z | z
      · rcases List.mem_append.mp z with z | z
        · exact h5 p z
        · intro e
          rw [← e] at h4
          exact h4 (foP_of z).1
      · intro e
        exact ng i s.heap st b hb (by rw [← e]; exact (I.dok _ (foP_of z).1).2)
  have loop : ∀ (m i : Nat) (l : List G.α) (H0 : Hp) (s0 : Shared) (σ : L2.St) (H : Hp) (d : List Addr) (s : Shared), G.E s0 → G.Sz s0 s → G.I s0 H0 ip σ H d s → tn i s.heap → (∀ b ∈ fp, H b = none) → W i m l H0 σ H →
      Go G.P G.w G.A (G.Z l H0 s0) (.forLoop tg (.ref it) body [] G.env) (denote table (.forLoop tg (.ref it) body [] G.env)) (.ret (loopK G.env K J gd lv) none (gd false) (lv []) c p [] :: fs) d s := by
    intro m
    induction m using Nat.strongRecOn with
    | ind m ih =>
      intro i l H0 s0 σ H d s ex hz I st fr w
      refine go_turn (lw_of ?_)
      rw [hA]
      rcases turn i m l H0 σ H w with ⟨stop, qn⟩ | ⟨go, N, hN, step⟩
      · refine wpAny_gsz hz.2 (wpAny_mono (T.done (G.X s0 H0) rfl rfl rfl rfl i _ s σ H (fun _ _ => False) I.up (fpk I st fr) st stop) (fun r s4 z hz4 => ?_) fun _ _ z => z.elim)
        obtain ⟨rfl, I4⟩ := z
        exact k l H0 s0 .next d s4 ex ⟨⟨hz.1, hz4⟩, σ, H, .of I4 I.dok.gen, qn⟩
      · refine wpAny_gsz hz.2 (wpAny_mono (T.item (G.X s0 H0) rfl rfl rfl rfl i _ s σ H (fun _ _ => False) I.up (fpk I st fr) st go) (fun r s4 z hz4 => ?_) fun _ _ z => z.elim)
        obtain ⟨u, rfl, h4⟩ := z
        refine wpAny_gsz hz4 (wpAny_mono h4 (fun _ s5 z hz5 => ?_) fun _ _ z => z.elim)
        obtain ⟨x, H5, I5, r5, y5, st5, fr5⟩ := z
        have I5' := I5.pinned (fpk I st fr5) (T.obj _ _ st5)
        refine wpAny_gsz hz5 (wpAny_mono ((hg s0 H0).run _ s5 σ H5 x u _ I5' r5 (step x H5 y5)) (fun _ s6 z hz6 => ?_) fun _ _ z => False.elim z)
        obtain ⟨σ6, H6, I6, q6⟩ := z
        intro J2
        have I6' : G.I s0 H0 (ip ++ pinsAt fp s5.heap) σ6 H6 d s6 := .of (h0 := s.heap) (I6.pins_of fun p hp => by
          rcases List.mem_append.mp hp with z | z
          · rcases List.mem_append.mp z with z | z
            · rcases List.mem_append.mp z with z | z
              · exact I6.pin p (List.mem_append_right _ (List.mem_append_left _ (List.mem_append_left _ (List.mem_append_left _ z))))
              · exact I6.pin p (List.mem_append_right _ (List.mem_append_right _ z))
            · exact I6.pin p (List.mem_append_right _ (List.mem_append_left _ (List.mem_append_left _ (List.mem_append_right _ z))))
          · exact I6.pin p (List.mem_append_right _ (List.mem_append_left _ (List.mem_append_right _ z)))) I.dok.gen
        have back : ∀ {s0 : Shared} {H0 : Hp} {σ : L2.St} {H : Hp} {d : List Addr} {s : Shared}, G.I s0 H0 (ip ++ pinsAt fp s5.heap) σ H d s → G.I s0 H0 ip σ H d s := fun {s0 H0 σ H d s} I => ⟨I.inv.pins_of fun p hp => by
          rcases List.mem_append.mp hp with z | z
          · exact I.inv.pin p (List.mem_append_right _ (List.mem_append_left _ (List.mem_append_left _ z)))
          · exact I.inv.pin p (List.mem_append_right _ (List.mem_append_right _ z)), I.dok⟩
        have at5 : ∀ {s0 : Shared} {H0 : Hp} {σ : L2.St} {H : Hp} {d : List Addr} {s : Shared}, G.I s0 H0 (ip ++ pinsAt fp s5.heap) σ H d s → tn (i + 1) s.heap ∧ ∀ b ∈ fp, H b = none := fun {s0 H0 σ H d s} I => by
          have q : ∀ b ∈ fp, ∀ o, s5.heap.get? b = some o → s.heap.get? b = some o ∧ H b = none := fun b hb o e =>
            let z := I.inv.pin (b, o) (List.mem_append_right _ (List.mem_append_left _ (List.mem_append_right _ (mem_pinsAt hb e))))
            ⟨z.1, z.2.1⟩
          refine ⟨T.keep _ _ _ st5 fun b hb o e => (q b hb o e).1, fun b hb => ?_⟩
          obtain ⟨o, e, _⟩ := T.obj _ _ st5 b hb
          exact (q b hb o e).2
        refine hb.run (ip ++ pinsAt fp s5.heap) _ _ _ J2 id id { D with nx := N, ct := N, bk := D.nx } l H0 s0 σ6 H6 d s6 ⟨fun p hp => ?_, hA, ?_, ?_, rfl⟩ (fun l7 H7 s7 fl d8 s8 ex7 z => ?_) ex ⟨hz.1, hz6⟩ I6' q6
        · rcases List.mem_append.mp hp with z | z
          · exact a.ip p z
          · obtain ⟨h1, _, _, h4, _⟩ := stat p.1 (of_pinsAt z).1
            exact ⟨h1, h4⟩
        · show (splitAtGen fs).map _ = none
          rw [a.split]; rfl
        · show (gd false || fs.any Frame.guarded) = false
          rw [a.gd, a.guard]; rfl
        · have hz7 : G.Sz s7 s8 := z.1
          have again : ∀ {σ7 : L2.St} {H8 : Hp}, G.I s7 H7 (ip ++ pinsAt fp s5.heap) σ7 H8 d8 s8 → N l7 H7 σ7 H8 → Go G.P G.w G.A (G.Z l7 H7 s7) (.forLoop tg (.ref it) body [] G.env) (.pure (.again (.forLoop tg (.ref it) body [] G.env))) (.ret (loopK G.env K J gd lv) none (gd false) (lv []) c p [] :: fs) d8 s8 := fun {σ7 H8} I7 n7 => by
            obtain ⟨m2, hm, w7⟩ := hN l7 H7 σ7 H8 n7
            obtain ⟨t7, f7⟩ := at5 I7
            exact go_again rfl (ih m2 hm (i + 1) l7 H7 s7 σ7 H8 d8 s8 ex7 hz7 (back I7) t7 f7 w7)
          cases fl with
          | next => obtain ⟨_, σ7, H8, I7, n7⟩ := z; exact again I7 n7
          | cont => obtain ⟨_, σ7, H8, I7, n7⟩ := z; exact again I7 n7
          | brk =>
            obtain ⟨_, σ7, H8, I7, n7⟩ := z
            exact go_leaf (.ok .next) (k l7 H7 s7 .next d8 s8 ex7 ⟨hz7, σ7, H8, back I7, n7⟩)
          | ret v =>
            obtain ⟨_, x7, σ7, H8, I7, r7, n7⟩ := z
            exact go_leaf (.ok (.ret v)) (k l7 H7 s7 (.ret v) d8 s8 ex7 ⟨hz7, x7, σ7, H8, back I7, r7, n7⟩)
  exact loop m0 0 l H0 s0 σ H2 d s2 ex ⟨hz.1, hz2⟩ J2 st2 (fun b hb => (f2 b hb).1) w0
end
end Lk
/-! Kg10 -/
namespace Lk
open PySem PySem.Spec PyProof.Rows L2 GenW
/-- since the generator fell asleep (Hs, ss) nothing of it has changed -/
structure Rst (L : Nat) (fo : List Addr) (g : Nat) (Hs : Hp) (ss : Shared) (H : Hp) (s : Shared) : Prop where
  sub : ∀ b u, Hs b = some u → H b = some u
  raw : ∀ (b : Nat) o, L ≤ b → b ∉ fo → ss.heap.get? b = some o → s.heap.get? b = some o
  fre : ∀ (b : Nat) o, L ≤ b → b ∉ fo → Hs b = none → ss.heap.get? b = some o → H b = none
  gens : ∀ (j : Nat) x, g < j → ss.gens[j]? = some x → s.gens[j]? = some x
theorem Rst.refl {L : Nat} {fo : List Addr} {g : Nat} {H : Hp} {s : Shared} : Rst L fo g H s H s := ⟨fun _ _ e => e, fun _ _ _ _ e => e, fun _ _ _ _ n _ => n, fun _ _ _ e => e⟩
/-- a step that leaves it alone: the heap grows, or an elder object is written -/
theorem Rst.step {L : Nat} {fo : List Addr} {g : Nat} {Hs H H' : Hp} {ss s s' : Shared} (x : Rst L fo g Hs ss H s) (sub : ∀ b u, H b = some u → H' b = some u) (raw : ∀ (b : Nat) o, L ≤ b → b ∉ fo → s.heap.get? b = some o → s'.heap.get? b = some o)
    (fre : ∀ (b : Nat) o, L ≤ b → b ∉ fo → s.heap.get? b = some o → H b = none → H' b = none) (gens : ∀ (j : Nat) x, g < j → s.gens[j]? = some x → s'.gens[j]? = some x) : Rst L fo g Hs ss H' s' :=
  ⟨fun b u e => sub b u (x.sub b u e), fun b o h1 h2 e => raw b o h1 h2 (x.raw b o h1 h2 e), fun b o h1 h2 n e => fre b o h1 h2 (x.raw b o h1 h2 e) (x.fre b o h1 h2 n e), fun j y h e => gens j y h (x.gens j y h e)⟩
/-- how the frame of X stands to the generator with L, fo -/
structure Pr (X : Cx) (pins : List (Addr × Obj)) (L : Nat) (fo : List Addr) : Prop where
  s0 : X.s_0.heap.objs.size ≤ L
  loc : (X.env.locals : Nat) < L
  cell : ∀ x c, X.env.cells.lookup x = some c → (c : Nat) < L
  pin : ∀ p ∈ X.pn ++ pins, (p.1 : Nat) < L ∨ p.1 ∈ fo
  fo : ∀ b ∈ fo, ∃ o, (b, o) ∈ X.pn ++ pins
section
variable {X : Cx} {pins : List (Addr × Obj)} {σ : L2.St} {H H1 : Hp} {s s1 : Shared} {L : Nat} {fo : List Addr} {g : Nat} {Hs : Hp} {ss : Shared} {Rl : Hp → Hp → Prop} {α : Type} {It : α → Hp → V → Prop}
theorem setGen_at2 {s : Shared} {g j : Nat} {x y : GenState} (h : g < j) (e : s.gens[j]? = some y) : (s.setGen g x).gens[j]? = some y := by
  show (s.gens.setIfInBounds g x)[j]? = some y
  rw [Array.getElem?_setIfInBounds_ne (Nat.ne_of_lt h)]
  exact e
theorem slp_of (I : Inv X pins σ H s) (pr : Pr X pins L fo) (R : Rst L fo g Hs ss H s) (ho : ss.os = X.s_0.os) (hz : g < s.gens.size) {x : GenState} (hx : x.bare = true) : Slp X.prog X.w X.base X.stack L fo g Hs ss H (s.setGen g x) where
  os := I.os.trans ho.symm
  bare := allBare_setGen I.bare hx
  hok := I.hok
  sub := R.sub
  raw := R.raw
  fre := R.fre
  gens := fun j y h e => setGen_at2 h (R.gens j y h e)
  big := by rw [setGen_size]; exact hz
  bs := I.bs
  funs := I.stack
  frf := I.stkFree
  fop := fun b hb => let ⟨o, ho⟩ := pr.fo b hb; let ⟨e, n, _, _, d⟩ := I.pin (b, o) ho; ⟨o, e, n, d⟩
/-- behind a stretch of the generator -/
theorem Prom.inv (I : Inv X pins σ H s) (pr : Pr X pins L fo) {gs : GenState} (p : Prom X.prog X.w X.stack L fo Rl H (s.setGen g gs) H1 s1) {x : GenState} (hx : x.bare = true) : Inv X pins σ H1 (s1.setGen g x) := by
  refine I.call' (ch := exl L fo s.heap) p.os p.un p.hok (allBare_setGen p.bare hx) fun b hb => ?_
  obtain ⟨h1, h2⟩ := exl_of hb
  refine ⟨.inr (Nat.le_trans pr.s0 h1), fun e => ?_, fun y c e z => ?_, fun q hq e => ?_⟩
  · exact absurd (Nat.lt_of_lt_of_le pr.loc (by rw [← e]; exact h1)) (Nat.lt_irrefl _)
  · exact absurd (Nat.lt_of_lt_of_le (pr.cell y c e) (by rw [z]; exact h1)) (Nat.lt_irrefl _)
  · rcases pr.pin q hq with z | z
    · exact absurd (Nat.lt_of_lt_of_le z (by rw [e]; exact h1)) (Nat.lt_irrefl _)
    · rw [e] at z; exact h2 z
/-- the generator's object, pinned -/
def GPin (X : Cx) (pins : List (Addr × Obj)) (a : Addr) (g : Nat) : Prop := ∃ o nm qn, (a, o) ∈ X.pn ++ pins ∧ o.cls = .type "generator" ∧ o.data = .fields #[.int g 0, nm, qn] ∧ ∀ n t, o.slots[0]? = some (some (Value.int n t)) → ¬ n > 0
theorem GPin.ob {a : Addr} (x : GPin X pins a g) (I : Inv X pins σ H s) : GenOb s.heap a g := let ⟨o, nm, qn, h1, r⟩ := x; ⟨o, nm, qn, (I.pin _ h1).1, r⟩
/-- the next item -/
theorem pair_next {l : List α} {gs : GenState} {a : Addr} {d : List Addr} {Q : Option Value → List Addr → Shared → Prop} {E : Value → List Addr → Shared → Prop} (I : LI X pins σ H d s) (pr : Pr X pins L fo) (hh : X.A.handled = none) (hroom : X.A.depth < recursionLimit) (hg : GPin X pins a g) (hgs : s.gens[g]? = some gs)
    (al : Alive X.prog X.w X.base X.A.in1 X.stack L fo g Rl It l Hs ss gs) (R : Rst L fo g Hs ss H s) (ho : ss.os = X.s_0.os)
    (h0 : l = [] → ∀ H1 d1 s1, LI X pins σ H1 d1 s1 → s.gens.size ≤ s1.gens.size → Rl H H1 → Q none d1 s1)
    (h1 : ∀ x r, l = x :: r → ∀ v y H1 d1 s1 s2 gs2, LI X pins σ H1 d1 s1 → s.gens.size ≤ s1.gens.size → Rl H H1 → RelV y v → It x H1 y → s1.gens[g]? = some gs2 → Alive X.prog X.w X.base X.A.in1 X.stack L fo g Rl It r H1 s2 gs2 → Rst L fo g H1 s2 H1 s1 → s2.os = X.s_0.os → Q (some v) d1 s1) :
    LW X.prog X.w X.A (pyNext (.ref a)) Q E d s := by
  have hgl : g < s.gens.size := (Array.getElem?_eq_some_iff.mp hgs).1
  refine gnext hh I.inv.nolimit hroom (hg.ob I.inv) hgs ((alive_iff ..).mp al H _ d (slp_of I.inv pr R ho hgl rfl) I.dok) fun e d1 s1 z => ?_
  cases l with
  | nil =>
    obtain ⟨he, H1, p, dk⟩ := z
    refine .inr ⟨he, fun h' hk => ?_⟩
    have J := p.inv I.inv pr (x := .finished) rfl
    refine h0 rfl H1 d1 _ ⟨J.kept (t' := s1.toks) hk, fun b hb => ?_⟩ ?_ p.rl
    · obtain ⟨n, o, e, q⟩ := dk b hb
      exact ⟨n, o, hk b o e, q⟩
    · have q := p.gz
      rw [setGen_size] at q
      show s.gens.size ≤ (s1.setGen g .finished).gens.size
      rw [setGen_size]
      exact q
  | cons x r =>
    obtain ⟨v, b, l0, k, c, q, fs, H1, y, rfl, rv, hIt, p, dk, al2⟩ := z
    have q1 := p.gz
    rw [setGen_size] at q1
    refine .inl ⟨v, _, l0, k, c, q, fs, rfl, ?_⟩
    have J := p.inv I.inv pr (x := still (.susp v b l0 k c q fs)) rfl
    refine h1 x r rfl v y H1 d1 _ s1 _ ⟨J, dk⟩ ?_ p.rl rv hIt (setGen_at (Nat.lt_of_lt_of_le hgl q1)) al2 ⟨fun _ _ e => e, fun _ _ _ _ e => e, fun _ _ _ _ n _ => n, fun j y h e => setGen_at2 h e⟩ ?_
    · rw [setGen_size]; exact q1
    · exact p.os.trans I.inv.os
end
end Lk
/-! Kg11 -/
namespace Lk
open PySem PySem.Spec PyProof.Rows L2 GenW
/-- an expression that lays new objects at most; no generator is touched -/
structure PEk (X : Cx) (e : Expr) (te : TE) : Prop where
  run : ∀ (pins : List (Addr × Obj)) (s : Shared) (σ : L2.St) (H : Hp) (Q : V → Hp → Prop), Inv X pins σ H s → te σ H Q → wpAny (model X.prog X.w) X.A (eval e X.env)
    (fun u s1 => ∃ x H1, Inv X pins σ H1 s1 ∧ RelV x u ∧ Q x H1 ∧ s1.gens = s.gens ∧ (∀ b o, s.heap.get? b = some o → s1.heap.get? b = some o) ∧ (∀ b y, H b = some y → H1 b = some y) ∧ ∀ b o, s.heap.get? b = some o → H b = none → H1 b = none) (fun _ _ => False) s
/-- a store into the frame -/
structure PGk (X : Cx) (tg : Expr) (t : L2.TG) : Prop where
  run : ∀ (pins : List (Addr × Obj)) (s : Shared) (σ : L2.St) (H : Hp) (v : V) (u : Value) (Q : L2.St → Hp → Prop), Inv X pins σ H s → RelV v u → t v σ H Q →
    wpAny (model X.prog X.w) X.A (assign tg X.env u) (fun _ s1 => ∃ σ1, Inv X pins σ1 H s1 ∧ Q σ1 H ∧ s1.gens = s.gens ∧ ∀ b o, b ≠ X.env.locals → s.heap.get? b = some o → s1.heap.get? b = some o) (fun _ _ => False) s
/-- the call of a generator def: a new generator -/
structure MkG (X : Cx) (Aw : Around) (call : Expr) {α : Type} (It : α → Hp → V → Prop) (Rl : Hp → Hp → Prop) (tc : L2.St → Hp → (List α → Hp → Prop) → Prop) : Prop where
  run : ∀ (pins : List (Addr × Obj)) (s : Shared) (σ : L2.St) (H : Hp) (R : List α → Hp → Prop), Inv X pins σ H s → tc σ H R → wpAny (model X.prog X.w) X.A (eval call X.env)
    (fun u s1 => ∃ (a : Addr) (oa : Obj) (L g : Nat) (H1 Hs : Hp) (ss : Shared) (gs : GenState) (l : List α), u = .ref a ∧ Inv X (pins ++ [(a, oa)]) σ H1 s1 ∧ X.s_0.heap.objs.size ≤ L ∧ (X.env.locals : Nat) < L ∧ (∀ x c, X.env.cells.lookup x = some c → (c : Nat) < L) ∧ (∀ p ∈ X.pn ++ pins, (p.1 : Nat) < L) ∧ L < (a : Nat) ∧
      s.gens.size ≤ g ∧ (∃ nm qn, oa.cls = .type "generator" ∧ oa.data = .fields #[.int g 0, nm, qn] ∧ ∀ n t, oa.slots[0]? = some (some (Value.int n t)) → ¬ n > 0) ∧ s1.gens[g]? = some gs ∧ Alive X.prog X.w X.base Aw X.stack L [a] g Rl It l Hs ss gs ∧ Rst L [a] g Hs ss H1 s1 ∧ ss.os = X.s_0.os ∧ R l H1) (fun _ _ => False) s
theorem wpAny_iterGen {P : Program} {w : World} {A : Around} {E : Value → Shared → Prop} {s : Shared} {a : Addr} {g : Nat} {Q : Value → Shared → Prop} (hg : GenOb s.heap a g) (h : Q (.ref a) s) : wpAny (model P w) A (pyIter (.ref a)) Q E s := by
  refine wpAny_pyIter_slot hg.ty slot_gen_iter (wpAny_call_entry slot_gen_iter hg.ty entry_gen_iter ?_ (args_gen_iter _))
  show wpAny _ _ (ret (.ref a)) _ _ s
  exact wpAny_pure ⟨_, rfl, "generator", _, hg.ty, slot_gen_next.lookup, h⟩
section
variable {G : Gf} {x : Str} {xp pos yp ypos : Pos} {call e : Expr} {α : Type} {It : α → Hp → V → Prop} {Rl : Hp → Hp → Prop} {tc : L2.St → Hp → (List α → Hp → Prop) → Prop} {tg : L2.TG} {te : TE}
def uForGen (It : α → Hp → V → Prop) (Rl : Hp → Hp → Prop) (tc : L2.St → Hp → (List α → Hp → Prop) → Prop) (tg : L2.TG) (te : TE) : Lk.TG G := fun D l H0 σ H => tc σ H fun li H1 => ∃ W : List α → List G.α → Hp → L2.St → Hp → Prop, W li l H0 σ H1 ∧
  (∀ l H0 σ H, W [] l H0 σ H → ∀ H1, Rl H H1 → D.nx l H0 σ H1) ∧
  ∀ z r l H0 σ H, W (z :: r) l H0 σ H → ∀ y H1, Rl H H1 → It z H1 y → tg y σ H1 fun σ2 H2 => te σ2 H2 fun v H3 => ∃ q l2, l = q :: l2 ∧ G.It q H3 v ∧ G.Rl H0 H3 ∧ ∀ H4, (∀ b u, H3 b = some u → H4 b = some u) → W r l2 H4 σ2 H4
theorem lw_iterGen {P : Program} {w : World} {A : Around} {E : Value → List Addr → Shared → Prop} {d : List Addr} {s : Shared} {a : Addr} {g : Nat} {Q : Value → List Addr → Shared → Prop} (hg : GenOb s.heap a g) (h : Q (.ref a) d s) : LW P w A (pyIter (.ref a)) Q E d s := lw_of (wpAny_iterGen hg h)
theorem gt_forgen {k0 : Nat} (F : G.Fx) (hr : Room k0 (G.A.deeper G.env)) (hc : ∀ s0 H0, MkG (G.X s0 H0) (G.A.deeper G.env).in1 call It Rl tc) (hg : ∀ s0 H0, PGk (G.X s0 H0) (.Name x xp) tg) (he : ∀ s0 H0, PEk (G.X s0 H0) e te) (hco : G.env.scope.isCoroutine = false) (hi : interactive G.env = false)
    (hs : ∀ x, foldedSetIterable call G.env x = pure x := by intro _; rfl) : GSt G (.For (.Name x xp) call [.Expr (.Yield (some e) yp) ypos] [] pos) (uForGen It Rl tc tg te) := by
  refine ⟨fun ip c fs K J gd lv D l H0 s0 σ H d s a k ex hz I q => ?_⟩
  refine go_For hs ?_
  rw [a.over]
  have gd0 := I.dok.gen
  refine wpAny_gsz hz.2 (wpAny_mono ((hc s0 H0).run _ s σ H _ I.up q) (fun v s1 z hz1 => ?_) fun _ _ z => False.elim z)
  obtain ⟨ga, oa, L, g, H1, Hs, ss, gs, li, rfl, I1, p1, p2, p3, p4, p5, p6, ⟨nm, qn, o1, o2, o3⟩, hgs, al, R, ho, W, w0, wend, wstep⟩ := z
  have I1a := I1.pin (ga, oa) (List.mem_append_right _ (List.mem_append_right _ (List.mem_singleton.mpr rfl)))
  refine wpAny_iterGen ⟨oa, nm, qn, I1a.1, o1, o2, o3⟩ ?_
  intro p
  have hA : G.A.over (.forLoop (.Name x xp) (.ref ga) [.Expr (.Yield (some e) yp) ypos] [] G.env) (.ret (loopK G.env K J gd lv) none (gd false) (lv []) c p [] :: fs) = G.A.deeper G.env := (over_loop rfl rfl).trans a.over
  have hfoL : ∀ b ∈ G.fo, (b : Nat) < L := fun b hb => by
    obtain ⟨o, e⟩ := ex b hb
    exact p4 (b, o) (List.mem_append_right _ (List.mem_append_left _ (List.mem_append_right _ (foP_mem hb e))))
  have hipL : ∀ p ∈ ip, (p.1 : Nat) < L := fun p hp => p4 p (List.mem_append_right _ (List.mem_append_left _ (List.mem_append_left _ hp)))
  have hGL : G.L < L := p2
  have hgg : G.g < g := Nat.lt_of_lt_of_le (Nat.lt_of_lt_of_le hz.1 hz.2) p6
  have hgaF : ga ∉ G.fo := fun hb => Nat.lt_irrefl _ (Nat.lt_trans (hfoL ga hb) p5)
  have prS : ∀ (s0 : Shared) (H0 : Hp), Pr (G.X s0 H0) ((ip ++ [(ga, oa)]) ++ foP G.fo s0.heap) L [ga] := fun s0 H0 => by
    refine ⟨?_, hGL, fun y c e => absurd ((F.noc y).symm.trans e) (by simp), fun p hp => ?_, fun b hb => ⟨oa, ?_⟩⟩
    · show (cutH G.L s0.heap).objs.size ≤ L
      rw [cutH_size]
      exact Nat.le_of_lt hGL
    · rcases List.mem_append.mp hp with z | z
      · exact absurd (show p ∈ ([] : List (Addr × Obj)) from z) (by simp)
      rcases List.mem_append.mp z with z | z
      · rcases List.mem_append.mp z with z | z
        · exact .inl (hipL p z)
        · exact .inr (by rw [List.mem_singleton.mp z]; exact List.mem_singleton.mpr rfl)
      · exact .inl (hfoL _ (foP_of z).1)
    · rw [List.mem_singleton.mp hb]
      exact List.mem_append_right _ (List.mem_append_left _ (List.mem_append_right _ (List.mem_singleton.mpr rfl)))
  have gpS : ∀ (s0 : Shared) (H0 : Hp), GPin (G.X s0 H0) ((ip ++ [(ga, oa)]) ++ foP G.fo s0.heap) ga g := fun s0 H0 =>
    ⟨oa, nm, qn, List.mem_append_right _ (List.mem_append_left _ (List.mem_append_right _ (List.mem_singleton.mpr rfl))), o1, o2, o3⟩
  have back : ∀ {s0 : Shared} {H0 : Hp} {σ : L2.St} {H : Hp} {d : List Addr} {s : Shared}, G.I s0 H0 (ip ++ [(ga, oa)]) σ H d s → G.I s0 H0 ip σ H d s := fun {s0 H0 σ H d s} I => ⟨I.inv.pins_of fun p hp => by
    rcases List.mem_append.mp hp with z | z
    · exact I.inv.pin p (List.mem_append_right _ (List.mem_append_left _ (List.mem_append_left _ z)))
    · exact I.inv.pin p (List.mem_append_right _ (List.mem_append_right _ z)), I.dok⟩
  have hip2 : ∀ p ∈ ip ++ [(ga, oa)], G.L ≤ (p.1 : Nat) ∧ p.1 ∉ G.fo := fun p hp => by
    rcases List.mem_append.mp hp with z | z
    · exact a.ip p z
    · rw [List.mem_singleton.mp z]
      exact ⟨Nat.le_of_lt (Nat.lt_trans hGL p5), hgaF⟩
  have loop : ∀ (li : List α) (l : List G.α) (H0 : Hp) (s0 : Shared) (σ : L2.St) (H : Hp) (d : List Addr) (s : Shared) (Hs : Hp) (ss : Shared) (gs : GenState), G.E s0 → G.Sz s0 s → G.I s0 H0 (ip ++ [(ga, oa)]) σ H d s → s.gens[g]? = some gs →
      Alive G.P G.w G.base (G.A.deeper G.env).in1 (G.env :: G.outer) L [ga] g Rl It li Hs ss gs → Rst L [ga] g Hs ss H s → ss.os = s0.os → W li l H0 σ H →
      Go G.P G.w G.A (G.Z l H0 s0) (.forLoop (.Name x xp) (.ref ga) [.Expr (.Yield (some e) yp) ypos] [] G.env) (denote table (.forLoop (.Name x xp) (.ref ga) [.Expr (.Yield (some e) yp) ypos] [] G.env)) (.ret (loopK G.env K J gd lv) none (gd false) (lv []) c p [] :: fs) d s := by
    intro li
    induction li with
    | nil =>
      intro l H0 s0 σ H d s Hs ss gs ex hz I hgs al R ho w
      refine go_turn ?_
      rw [hA]
      refine pair_next (X := G.X s0 H0) I (prS s0 H0) hr.hd hr.depth (gpS s0 H0) hgs al R ho (fun _ H1 d1 s1 I2 hz2 rl => ?_) fun y r e0 => by cases e0
      exact k l H0 s0 .next d1 s1 ex ⟨⟨hz.1, Nat.le_trans hz.2 hz2⟩, σ, H1, back I2, wend l H0 σ H w H1 rl⟩
    | cons z r ih =>
      intro l H0 s0 σ H d s Hs ss gs ex hz I hgs al R ho w
      refine go_turn ?_
      rw [hA]
      refine pair_next (X := G.X s0 H0) I (prS s0 H0) hr.hd hr.depth (gpS s0 H0) hgs al R ho (fun e0 => by cases e0) fun z2 r2 e0 v y H1 d1 s1 s2 gs2 I2 hz2 rl rv hIt hgs2 al2 R2 ho2 => ?_
      cases e0
      have e2 : s1.heap.get? ga = some oa := (I2.inv.pin (ga, oa) (List.mem_append_right _ (List.mem_append_left _ (List.mem_append_right _ (List.mem_singleton.mpr rfl))))).1
      refine go_of e2 o1 o2 (by decide) ?_
      refine wpAny_mono ((hg s0 H0).run _ s1 σ H1 y v _ I2.up rv (wstep z r l H0 σ H w y H1 rl hIt)) (fun _ s3 zz => ?_) fun _ _ z => z
      obtain ⟨σ3, I3, q3, gen3, k3⟩ := zz
      have R3 : Rst L [ga] g H1 s2 H1 s3 := R2.step (fun _ _ e => e) (fun b o h1 _ e => k3 b o (fun e0 => by
        have h2 : L ≤ G.L := by
          have e1 : b = G.L := e0
          rw [e1] at h1
          exact h1
        exact Nat.lt_irrefl _ (Nat.lt_of_lt_of_le hGL h2)) e) (fun _ _ _ _ _ n => n) fun j x _ e => by rw [gen3]; exact e
      intro J2
      rw [execs_cons_wrap]
      rw [exec_Expr G.env _ ypos hi rfl]
      show Go G.P G.w G.A (G.Z l H0 s0) _ (.at ypos fun _ => ((eval e G.env >>= fun v => (standAt yp >>= fun _ => yieldOut G.env v)) >>= fun x => dropValue (.Yield (some e) yp) ypos x).wrap _ J2 id id) _ d1 s3
      have hy : ∀ v, yieldOut G.env v = yieldValue v := fun v => by simp only [yieldOut, hco, Bool.false_eq_true, if_false]
      simp only [hy]
      refine go_at ?_
      rw [Sem.bind_eq_wrap', Sem.bind_eq_wrap', Sem.wrap_wrap, Sem.wrap_wrap]
      refine go_wrap (lw_of ?_)
      rw [hA]
      refine wpAny_mono ((he s0 H0).run _ s3 σ3 H1 _ I3 q3) (fun v4 s4 zz => ?_) fun _ _ z => False.elim z
      obtain ⟨x4, H4, I4, rv4, ⟨q, l2, rfl, hIt4, hRl4, hk⟩, gen4, k4, sub4, fr4⟩ := zz
      have J4 : G.I s0 H0 (ip ++ [(ga, oa)]) σ3 H4 d1 s4 := .of I4 I2.dok.gen
      have R4 : Rst L [ga] g H1 s2 H4 s4 := R3.step sub4 (fun b o _ _ e => k4 b o e) (fun b o _ _ e n => fr4 b o e n) fun j x _ e => by rw [gen4]; exact e
      have hgs4 : s4.gens[g]? = some gs2 := by rw [gen4, gen3]; exact hgs2
      have hz4 : G.Sz s0 s4 := ⟨hz.1, by rw [gen4, gen3]; exact Nat.le_trans hz.2 hz2⟩
      refine go_at (go_yield (d1 := d1) ?_ ?_ (fun _ h => h) (fun h => by cases h) fun p2 => ?_)
      · show (splitAtGen fs).map _ = none
        rw [a.split]; rfl
      · show (gd false || fs.any Frame.guarded) = false
        rw [a.gd, a.guard]; rfl
      refine ⟨v4, _, _, _, _, p2, _, H4, x4, rfl, rv4, hIt4, prom_of F hz4 J4.inv hRl4, J4.dok, ?_⟩
      refine (alive_iff ..).mpr fun H5 s5 d5 zz dk => ?_
      have I5 := wake_inv F J4.inv hip2 zz
      refine go_again rfl (ih l2 H5 s5 σ3 H5 d5 s5 H1 s2 gs2 (fun b hb => let ⟨o, e, _⟩ := zz.fop b hb; ⟨o, e⟩) ⟨zz.big, Nat.le_refl _⟩ ⟨I5, dk⟩ (zz.gens g gs2 hgg hgs4) al2 (R4.step zz.sub (fun b o h1 _ e => zz.raw b o (Nat.le_of_lt (Nat.lt_of_lt_of_le hGL h1)) (fun hb => Nat.lt_irrefl _ (Nat.lt_of_lt_of_le (hfoL b hb) h1)) e)
        (fun b o h1 _ e n => zz.fre b o (Nat.le_of_lt (Nat.lt_of_lt_of_le hGL h1)) (fun hb => Nat.lt_irrefl _ (Nat.lt_of_lt_of_le (hfoL b hb) h1)) n e) fun j x h e => zz.gens j x (Nat.lt_trans hgg h) e) ?_ (hk H5 zz.sub))
      exact (ho2.trans I4.os.symm).trans zz.os.symm
  exact loop li l H0 s0 σ H1 d s1 Hs ss gs ex ⟨hz.1, hz1⟩ (.of (h0 := s.heap) (I1.pins_of fun p hp => by
    rcases List.mem_append.mp hp with z | z
    · rcases List.mem_append.mp z with z | z
      · rcases List.mem_append.mp z with z | z
        · exact I1.pin p (List.mem_append_right _ (List.mem_append_left _ (List.mem_append_left _ (List.mem_append_left _ z))))
        · exact I1.pin p (List.mem_append_right _ (List.mem_append_right _ z))
      · exact I1.pin p (List.mem_append_right _ (List.mem_append_left _ (List.mem_append_left _ (List.mem_append_right _ z))))
    · exact I1.pin p (List.mem_append_right _ (List.mem_append_left _ (List.mem_append_right _ z)))) gd0) hgs al R ho w0
end
end Lk
/-! Kg12 -/
namespace Lk
open PySem PySem.Spec PyProof.Rows L2 GenW
theorem over_plainC {A : Around} {c c' : Code} {fs : List Frame} {k : Result → Sem PySem.Fin} {g : Bool} {l kp : List Value} {p : Pos} (hw : c'.weight = 0) (hu : c'.cUnits = 1) :
    A.over c' (.ret k none g l c p kp :: fs) = (A.over c fs).in1 := by
  have q2 : A.depth + frameCount ((c, p) :: fs.map Frame.where_) + c'.weight = A.depth + frameCount (fs.map Frame.where_) + c.weight := by
    rw [frameCount_cons, hw]; omega
  have q3 : pushEnvs c'.envs (pushEnvs (envsOf ((c, p) :: fs.map Frame.where_)) A.frames) = pushEnvs c.envs (pushEnvs (envsOf (fs.map Frame.where_)) A.frames) := by
    rw [Code.envs_of_weight hw, envsOf_cons, pushEnvs_eq, pushEnvs_eq, pushEnvs_eq, pushEnvs_eq]
    cases A.frames <;> simp
  have q4 : pushGuards c'.guards (pushGuards (guardsOf ((c, p) :: fs.map Frame.where_)) A.guards) = pushGuards c.guards (pushGuards (guardsOf (fs.map Frame.where_)) A.guards) := by
    rw [Code.guards_of_weight hw, guardsOf_cons, pushGuards_eq, pushGuards_eq, pushGuards_eq, pushGuards_eq]
    cases A.guards <;> simp
  have q5 : A.units + unitsOf ((c, p) :: fs.map Frame.where_) + c'.cUnits = A.units + unitsOf (fs.map Frame.where_) + c.cUnits + 1 := by
    rw [unitsOf_cons, hu]; omega
  show Around.mk _ _ _ _ _ = Around.mk _ _ _ _ _
  exact congr (congr (congr (congr (congrArg Around.mk rfl) q2) q3) q4) q5
theorem close_gen : ∃ v, typeLookup (.type "generator") "close" = pure (some v) := ⟨.builtin "generator.close", by rw [typeLookup_type, builtinLookup_eq_fast]; kernel_rfl⟩
/-- the count of those that sleep over it -/
theorem wpAny_slept {M : Model} {A : Around} {E : Value → Shared → Prop} {s : Shared} {a : Addr} {o : Obj} {b : Bool} {Q : Unit → Shared → Prop} (ho : s.heap.get? a = some o) (hc : o.cls = .type "generator") {vs : Array Value} (hd : o.data = .fields vs)
    (h : ∀ (o' : Obj) (h' : Heap) (n : Int), o'.cls = o.cls → o'.data = o.data → (n = match (o.slots[0]? : Option (Option Value)) with | some (some (Value.int n _)) => n | _ => 0) → o'.slots[0]? = some (some (rawInt (if b then n + 1 else n - 1))) → h'.get? a = some o' → (∀ b, b ≠ a → h'.get? b = s.heap.get? b) → Q () { s with heap := h' }) :
    wpAny M A (Builtin.Generator.sleptOver (.ref a) b) Q E s := by
  unfold Builtin.Generator.sleptOver
  refine wpAny_bind (wpAny_load ho ?_)
  rw [hc, if_neg (by decide)]
  unfold setSlotAt
  rw [if_neg (by rw [sizeLine_eq]; decide)]
  refine wpAny_bind (wpAny_pure ?_)
  let N : Int := match (o.slots[0]? : Option (Option Value)) with | some (some (Value.int n _)) => n | _ => 0
  let F : Obj → Obj := fun q => { q with slots := (q.slots ++ Array.replicate (0 + 1 - q.slots.size) none).setIfInBounds 0 (some (rawInt (if b then N + 1 else N - 1))) }
  refine wpAny_updatePart (f := F) ho ?_
  refine h (F o) (s.heap.update a F) N rfl rfl rfl ?_ (Heap.get?_update_self _ ho ?_) fun c hcn => Heap.get?_update_ne _ _ _ _ hcn
  · show ((o.slots ++ Array.replicate (0 + 1 - o.slots.size) none).setIfInBounds 0 _)[0]? = _
    rw [Array.getElem?_setIfInBounds_self]
    rw [if_pos (by rw [Array.size_append, Array.size_replicate]; omega)]
  · exact Obj.isFreed_of_fields (show (F o).data = .fields vs from hd)
section
variable {X : Cx} {pins : List (Addr × Obj)} {σ : L2.St} {H H1 : Hp} {s s1 : Shared} {L : Nat} {fo : List Addr} {g : Nat} {Hs : Hp} {ss : Shared} {Rl : Hp → Hp → Prop} {α : Type} {It : α → Hp → V → Prop}
/-- the next item, by __next__ -/
theorem pair_nx {Ax : Around} {l : List α} {gs : GenState} {a : Addr} {d : List Addr} {Q : Option Value → List Addr → Shared → Prop} {E : Value → List Addr → Shared → Prop} (I : LI X pins σ H d s) (pr : Pr X pins L fo) (hh : Ax.handled = none) (hroom : Ax.depth < recursionLimit) (hg : GPin X pins a g) (hgs : s.gens[g]? = some gs)
    (al : Alive X.prog X.w X.base Ax.in1 X.stack L fo g Rl It l Hs ss gs) (R : Rst L fo g Hs ss H s) (ho : ss.os = X.s_0.os)
    (h0 : l = [] → ∀ x H1 d1 s1, StopX x s1.heap → LI X pins σ H1 d1 s1 → s.gens.size ≤ s1.gens.size → Rl H H1 → E x d1 s1)
    (h1 : ∀ x r, l = x :: r → ∀ v y H1 d1 s1 s2 gs2, LI X pins σ H1 d1 s1 → s.gens.size ≤ s1.gens.size → Rl H H1 → RelV y v → It x H1 y → s1.gens[g]? = some gs2 → Alive X.prog X.w X.base Ax.in1 X.stack L fo g Rl It r H1 s2 gs2 → Rst L fo g H1 s2 H1 s1 → s2.os = X.s_0.os → Q (some v) d1 s1) :
    LW X.prog X.w Ax (callSpecial? (.ref a) "__next__") Q E d s := by
  have hgl : g < s.gens.size := (Array.getElem?_eq_some_iff.mp hgs).1
  refine gnx hh I.inv.nolimit hroom (hg.ob I.inv) hgs ((alive_iff ..).mp al H _ d (slp_of I.inv pr R ho hgl rfl) I.dok) fun e d1 s1 z => ?_
  cases l with
  | nil =>
    obtain ⟨he, H1, p, dk⟩ := z
    refine .inr ⟨he, fun x h' hx hk => ?_⟩
    have J := p.inv I.inv pr (x := .finished) rfl
    refine h0 rfl x H1 d1 _ hx ⟨J.kept (t' := s1.toks) hk, fun b hb => ?_⟩ ?_ p.rl
    · obtain ⟨n, o, e, q⟩ := dk b hb
      exact ⟨n, o, hk b o e, q⟩
    · have q := p.gz
      rw [setGen_size] at q
      show s.gens.size ≤ (s1.setGen g .finished).gens.size
      rw [setGen_size]
      exact q
  | cons x r =>
    obtain ⟨v, b, l0, k, c, q, fs, H1, y, rfl, rv, hIt, p, dk, al2⟩ := z
    have q1 := p.gz
    rw [setGen_size] at q1
    refine .inl ⟨v, _, l0, k, c, q, fs, rfl, ?_⟩
    have J := p.inv I.inv pr (x := still (.susp v b l0 k c q fs)) rfl
    refine h1 x r rfl v y H1 d1 _ s1 _ ⟨J, dk⟩ ?_ p.rl rv hIt (setGen_at (Nat.lt_of_lt_of_le hgl q1)) al2 ⟨fun _ _ e => e, fun _ _ _ _ e => e, fun _ _ _ _ n _ => n, fun j y h e => setGen_at2 h e⟩ ?_
    · rw [setGen_size]; exact q1
    · exact p.os.trans I.inv.os
end
/-- an own object's slots turn -/
theorem LI.slots {X : Cx} {pins : List (Addr × Obj)} {σ : L2.St} {H : Hp} {d : List Addr} {s : Shared} {a : Addr} {o o' : Obj} {h' : Heap} (I : LI X (pins ++ [(a, o)]) σ H d s) (hs : X.s_0.heap.objs.size ≤ a) (hc : ∀ x c, X.env.cells.lookup x = some c → c ≠ a) (hp : ∀ p ∈ X.pn ++ pins, p.1 ≠ a)
    (e1 : h'.get? a = some o') (e2 : ∀ b, b ≠ a → h'.get? b = s.heap.get? b) (c1 : o'.cls = o.cls) (c2 : o'.data = o.data) : LI X (pins ++ [(a, o')]) σ H d { s with heap := h' } := by
  obtain ⟨p1, p2, p3, p4, p5⟩ := I.inv.pin (a, o) (List.mem_append_right _ (List.mem_append_right _ (List.mem_singleton.mpr rfl)))
  have J : Inv X pins σ H s := I.inv.pins_of fun p hp => I.inv.pin p (List.mem_append_right _ (List.mem_append_left _ hp))
  have J1 : Inv X pins σ H { s with heap := h' } := J.turned (it := a) (t' := s.toks) (fun b o hb e => (e2 b hb).trans e) p2 p3 (.inr hs) hc hp
  refine ⟨J1.pins_of fun p hp => ?_, fun b hb => ?_⟩
  · rcases List.mem_append.mp hp with z | z
    · exact J1.pin p (List.mem_append_right _ z)
    · rw [List.mem_singleton.mp z]
      exact ⟨e1, p2, p3, p4, fun v z => p5 v (c2.symm.trans z)⟩
  · obtain ⟨n, ob, e, q⟩ := I.dok b hb
    refine ⟨n, ?_⟩
    by_cases hba : b = a
    · subst hba
      rw [p1] at e
      cases e
      exact ⟨o', e1, by unfold Obj.genNumber? at q ⊢; rw [c1, c2]; exact q⟩
    · exact ⟨ob, (e2 b hba).trans e, q⟩
section
variable {G : Gf} {yp pos : Pos} {call : Expr} {α : Type} {It : α → Hp → V → Prop} {Rl : Hp → Hp → Prop} {tc : L2.St → Hp → (List α → Hp → Prop) → Prop}
def uFrom (It : α → Hp → V → Prop) (Rl : Hp → Hp → Prop) (tc : L2.St → Hp → (List α → Hp → Prop) → Prop) : Lk.TG G := fun D l H0 σ H => tc σ H fun li H1 => ∃ W : List α → List G.α → Hp → Hp → Prop, W li l H0 H1 ∧
  (∀ l H0 H, W [] l H0 H → ∀ H1, Rl H H1 → D.nx l H0 σ H1) ∧
  ∀ z r l H0 H, W (z :: r) l H0 H → ∀ y H1, Rl H H1 → It z H1 y → ∃ q l2, l = q :: l2 ∧ G.It q H1 y ∧ G.Rl H0 H1 ∧ ∀ H2, (∀ b u, H1 b = some u → H2 b = some u) → W r l2 H2 H2
theorem gt_yieldFrom {k0 : Nat} (F : G.Fx) (hr : Room k0 (G.A.deeper G.env)) (hc : ∀ s0 H0, MkG (G.X s0 H0) (G.A.deeper G.env).in1.in1 call It Rl tc) (hi : interactive G.env = false) : GSt G (.Expr (.YieldFrom call yp) pos) (uFrom It Rl tc) := by
  refine ⟨fun ip c fs K J gd lv D l H0 s0 σ H d s a k ex hz I q => ?_⟩
  rw [exec_Expr G.env _ pos hi rfl]
  show Go G.P G.w G.A (G.Z l H0 s0) c (.at pos fun _ => ((eval call G.env >>= fun v => (standAt yp >>= fun _ => yieldFrom G.env v)) >>= fun x => dropValue (.YieldFrom call yp) pos x).wrap K J gd lv) fs d s
  refine go_at ?_
  rw [Sem.bind_eq_wrap', Sem.bind_eq_wrap', Sem.wrap_wrap, Sem.wrap_wrap]
  have gd0 := I.dok.gen
  refine go_wrap (lw_of ?_)
  rw [a.over]
  refine wpAny_gsz hz.2 (wpAny_mono ((hc s0 H0).run _ s σ H _ I.up q) (fun v s1 z hz1 => ?_) fun _ _ z => False.elim z)
  obtain ⟨ga, oa, L, g, H1, Hs, ss, gs, li, rfl, I1, p1, p2, p3, p4, p5, p6, ⟨nm, qn, o1, o2, o3⟩, hgs, al, R, ho, W, w0, wend, wstep⟩ := z
  have I1a := I1.pin (ga, oa) (List.mem_append_right _ (List.mem_append_right _ (List.mem_singleton.mpr rfl)))
  have ob1 : GenOb s1.heap ga g := ⟨oa, nm, qn, I1a.1, o1, o2, o3⟩
  refine go_at ?_
  show Go G.P G.w G.A (G.Z l H0 s0) c ((yieldFrom G.env (.ref ga)).wrap (fun b => (dropValue (.YieldFrom call yp) pos b).wrap K J gd lv) J gd lv) fs d s1
  unfold yieldFrom
  refine go_bindw (lw_of (wpAny_typeOf ob1.ty ?_))
  rw [if_neg (show ¬ ((Value.type "generator" == Value.type "coroutine") = true) by decide)]
  refine go_bindw (lw_of (wpAny_holding (wpAny_iterGen ob1 ?_)))
  refine go_call fun p => ?_
  have hA : ∀ (kk : Result → Sem PySem.Fin) (l0 : List Value), G.A.over (.builtin "proto.yield_from" ⟨[.ref ga, .bool false, .none], []⟩) (.ret kk none (gd false) l0 c p [] :: fs) = (G.A.deeper G.env).in1 := fun kk l0 =>
    (over_plainC (plainId_weight plain_yf _) (plainId_units plain_yf _)).trans (congrArg Around.in1 a.over)
  have hfoL : ∀ b ∈ G.fo, (b : Nat) < L := fun b hb => by
    obtain ⟨o, e⟩ := ex b hb
    exact p4 (b, o) (List.mem_append_right _ (List.mem_append_left _ (List.mem_append_right _ (foP_mem hb e))))
  have hipL : ∀ p ∈ ip, (p.1 : Nat) < L := fun p hp => p4 p (List.mem_append_right _ (List.mem_append_left _ (List.mem_append_left _ hp)))
  have hGL : G.L < L := p2
  have hgg : G.g < g := Nat.lt_of_lt_of_le (Nat.lt_of_lt_of_le hz.1 hz.2) p6
  have hgaF : ga ∉ G.fo := fun hb => Nat.lt_irrefl _ (Nat.lt_trans (hfoL ga hb) p5)
  have flat : ∀ {s0 : Shared} {H0 : Hp} {σ : L2.St} {H : Hp} {d : List Addr} {s : Shared} {o : Obj}, G.I s0 H0 (ip ++ [(ga, o)]) σ H d s → LI (G.X s0 H0) ((ip ++ foP G.fo s0.heap) ++ [(ga, o)]) σ H d s := fun {s0 H0 σ H d s o} I => ⟨I.inv.pins_of fun p hp => by
    rcases List.mem_append.mp hp with z | z
    · rcases List.mem_append.mp z with z | z
      · exact I.inv.pin p (List.mem_append_right _ (List.mem_append_left _ (List.mem_append_left _ z)))
      · exact I.inv.pin p (List.mem_append_right _ (List.mem_append_right _ z))
    · exact I.inv.pin p (List.mem_append_right _ (List.mem_append_left _ (List.mem_append_right _ z))), I.dok⟩
  have unfl : ∀ {s0 : Shared} {H0 : Hp} {σ : L2.St} {H : Hp} {d : List Addr} {s : Shared} {o : Obj}, LI (G.X s0 H0) ((ip ++ foP G.fo s0.heap) ++ [(ga, o)]) σ H d s → G.I s0 H0 (ip ++ [(ga, o)]) σ H d s := fun {s0 H0 σ H d s o} I => ⟨I.inv.pins_of fun p hp => by
    rcases List.mem_append.mp hp with z | z
    · rcases List.mem_append.mp z with z | z
      · exact I.inv.pin p (List.mem_append_right _ (List.mem_append_left _ (List.mem_append_left _ z)))
      · exact I.inv.pin p (List.mem_append_right _ (List.mem_append_right _ z))
    · exact I.inv.pin p (List.mem_append_right _ (List.mem_append_left _ (List.mem_append_right _ z))), I.dok⟩
  have prS : ∀ (s0 : Shared) (H0 : Hp) (o : Obj), Pr (G.X s0 H0) ((ip ++ foP G.fo s0.heap) ++ [(ga, o)]) L [ga] := fun s0 H0 o => by
    refine ⟨?_, hGL, fun y c e => absurd ((F.noc y).symm.trans e) (by simp), fun p hp => ?_, fun b hb => ⟨o, ?_⟩⟩
    · show (cutH G.L s0.heap).objs.size ≤ L
      rw [cutH_size]
      exact Nat.le_of_lt hGL
    · rcases List.mem_append.mp hp with z | z
      · exact absurd (show p ∈ ([] : List (Addr × Obj)) from z) (by simp)
      rcases List.mem_append.mp z with z | z
      · rcases List.mem_append.mp z with z | z
        · exact .inl (hipL p z)
        · exact .inl (hfoL _ (foP_of z).1)
      · exact .inr (by rw [List.mem_singleton.mp z]; exact List.mem_singleton.mpr rfl)
    · rw [List.mem_singleton.mp hb]
      exact List.mem_append_right _ (List.mem_append_right _ (List.mem_singleton.mpr rfl))
  have apart : ∀ (s0 : Shared) (H0 : Hp), ∀ p ∈ (G.X s0 H0).pn ++ (ip ++ foP G.fo s0.heap), p.1 ≠ ga := fun s0 H0 p hp e => by
    rcases List.mem_append.mp hp with z | z
    · exact absurd (show p ∈ ([] : List (Addr × Obj)) from z) (by simp)
    rcases List.mem_append.mp z with z | z
    · have h1 := hipL p z
      rw [e] at h1
      exact Nat.lt_irrefl _ (Nat.lt_trans h1 p5)
    · have h1 := (foP_of z).1
      rw [e] at h1
      exact hgaF h1
  have hip2 : ∀ o : Obj, ∀ p ∈ ip ++ [(ga, o)], G.L ≤ (p.1 : Nat) ∧ p.1 ∉ G.fo := fun o p hp => by
    rcases List.mem_append.mp hp with z | z
    · exact a.ip p z
    · rw [List.mem_singleton.mp z]
      exact ⟨Nat.le_of_lt (Nat.lt_trans hGL p5), hgaF⟩
  have loop : ∀ (kk : Result → Sem PySem.Fin) (l0 : List Value), (∀ l H0 s0 d s, G.E s0 → GP G D ip l H0 s0 .next d s → Go G.P G.w G.A (G.Z l H0 s0) c (kk (.ok (.ret .none))) fs d s) → ∀ (li : List α) (l : List G.α) (H0 : Hp) (s0 : Shared) (H : Hp) (d : List Addr) (s : Shared) (Hs : Hp) (ss : Shared) (gs : GenState) (oa : Obj), G.E s0 → G.Sz s0 s → G.I s0 H0 (ip ++ [(ga, oa)]) σ H d s →
      oa.cls = .type "generator" → oa.data = .fields #[.int g 0, nm, qn] → (∀ n t, oa.slots[0]? = some (some (Value.int n t)) → ¬ n > 0) → s.gens[g]? = some gs →
      Alive G.P G.w G.base (G.A.deeper G.env).in1.in1 (G.env :: G.outer) L [ga] g Rl It li Hs ss gs → Rst L [ga] g Hs ss H s → ss.os = s0.os → W li l H0 H →
      Go G.P G.w G.A (G.Z l H0 s0) (.builtin "proto.yield_from" ⟨[.ref ga, .bool false, .none], []⟩) (denote table (.builtin "proto.yield_from" ⟨[.ref ga, .bool false, .none], []⟩)) (.ret kk none (gd false) l0 c p [] :: fs) d s := by
    intro kk l0 hend li
    induction li with
    | nil =>
      intro l H0 s0 H d s Hs ss gs oa ex hz I o1 o2 o3 hgs al R ho w
      rw [show denote table (.builtin "proto.yield_from" ⟨[.ref ga, .bool false, .none], []⟩) = Builtin.«proto.yield_from» ⟨[.ref ga, .bool false, .none], []⟩ from den_yf (X := G.X s0 H0)]
      unfold Builtin.«proto.yield_from»
      try dsimp only
      refine go_bind (lw_pure ?_)
      try dsimp only
      refine go_bind (lw_attempt (lw_holding ?_))
      rw [if_neg Bool.false_ne_true, if_pos (show (Value.none == Value.none) = true from rfl), hA]
      refine lw_bindw (wpAny_rule (lw_bind ?_))
      refine pair_nx (X := G.X s0 H0) (flat I) (prS s0 H0 oa) hr.hd hr.depth ⟨oa, nm, qn, List.mem_append_right _ (List.mem_append_right _ (List.mem_singleton.mpr rfl)), o1, o2, o3⟩ hgs al R ho (fun _ x H1 d1 s1 hx I2 hz2 rl => ?_) fun y r e0 => by cases e0
      obtain ⟨b, ob, vs, rfl, hob, hcl, hdt, h5⟩ := hx
      try dsimp only
      refine go_bind (lw_of (wpAny_endsTurn hob hcl ?_))
      try dsimp only
      rw [if_pos rfl]
      first
        | refine go_bind (lw_rule ?_)
        | (rw [if_neg Bool.false_ne_true]; refine go_bind (lw_rule ?_))
        | (rw [if_neg Bool.false_ne_true]; refine go_bind (lw_pure ?_); refine go_bind (lw_rule ?_))
      refine go_bind (lw_of (wpAny_field hob hdt h5 ?_))
      refine go_leaf (.ok (.ret .none)) (hend l H0 s0 d1 s1 ex ⟨⟨hz.1, Nat.le_trans hz.2 hz2⟩, σ, H1, ?_, wend l H0 H w H1 rl⟩)
      exact ⟨I2.inv.pins_of fun p hp => I2.inv.pin p (List.mem_append_right _ (List.mem_append_left _ hp)), I2.dok⟩
    | cons z r ih =>
      intro l H0 s0 H d s Hs ss gs oa ex hz I o1 o2 o3 hgs al R ho w
      rw [show denote table (.builtin "proto.yield_from" ⟨[.ref ga, .bool false, .none], []⟩) = Builtin.«proto.yield_from» ⟨[.ref ga, .bool false, .none], []⟩ from den_yf (X := G.X s0 H0)]
      unfold Builtin.«proto.yield_from»
      try dsimp only
      refine go_bind (lw_pure ?_)
      try dsimp only
      refine go_bind (lw_attempt (lw_holding ?_))
      rw [if_neg Bool.false_ne_true, if_pos (show (Value.none == Value.none) = true from rfl), hA]
      refine lw_bindw (wpAny_rule (lw_bind ?_))
      refine pair_nx (X := G.X s0 H0) (flat I) (prS s0 H0 oa) hr.hd hr.depth ⟨oa, nm, qn, List.mem_append_right _ (List.mem_append_right _ (List.mem_singleton.mpr rfl)), o1, o2, o3⟩ hgs al R ho (fun e0 => by cases e0) fun z2 r2 e0 v y H1 d1 s1 s2 gs2 I2 hz2 rl rv hIt hgs2 al2 R2 ho2 => ?_
      cases e0
      obtain ⟨q, l2, rfl, hIt4, hRl4, hk⟩ := wstep z r l H0 H w y H1 rl hIt
      refine lw_pure ?_
      try dsimp only
      have e2 : s1.heap.get? ga = some oa := (I2.inv.pin (ga, oa) (List.mem_append_right _ (List.mem_append_right _ (List.mem_singleton.mpr rfl)))).1
      refine go_bind (lw_of (wpAny_typeOf (T := "generator") ⟨oa, e2, o1⟩ ?_))
      try dsimp only
      obtain ⟨cv, hcv⟩ := close_gen
      first
        | (refine go_bind (lw_of (wpAny_of_eq hcv ?_)); refine go_bind (lw_pure ?_))
        | refine go_bind (lw_bindw (wpAny_of_eq hcv (lw_pure ?_)))
        | refine go_bind (lw_of (wpAny_of_eq hcv ?_))
      try dsimp only
      refine go_bind (lw_of (wpAny_slept e2 o1 o2 fun oa3 h3 n3 c3 d3 e3 sl3 g3 k3 => ?_))
      have I3 : LI (G.X s0 H0) ((ip ++ foP G.fo s0.heap) ++ [(ga, oa3)]) σ H1 d1 { s1 with heap := h3 } := I2.slots (by
        show (cutH G.L s0.heap).objs.size ≤ (ga : Nat)
        rw [cutH_size]; exact Nat.le_of_lt (Nat.lt_trans hGL p5)) (fun y c e => absurd ((F.noc y).symm.trans e) (by simp)) (apart s0 H0) g3 k3 c3 d3
      have gen3 : GenAt h3 ga := ⟨oa3, g3, by unfold Obj.genNumber?; rw [c3, d3, o1, o2]; rfl⟩
      have R3 : Rst L [ga] g H1 s2 H1 { s1 with heap := h3 } := R2.step (fun _ _ e => e) (fun b o _ hb e => (k3 b (fun z => hb (List.mem_singleton.mpr z))).trans e) (fun _ _ _ _ _ n => n) fun j x _ e => e
      have n3le : ¬ n3 > 0 := by
        rw [e3]
        split
        · rename_i n t hn; exact o3 n _ hn
        · decide
      have pg3 := I3.inv.pin (ga, oa3) (List.mem_append_right _ (List.mem_append_right _ (List.mem_singleton.mpr rfl)))
      refine go_yield (d1 := ga :: d1) ?_ ?_ (fun _ h => List.mem_cons_of_mem _ h) (fun _ => ⟨ga, _, _, rfl, gen3, List.mem_cons_self⟩) fun p2 => ?_
      · show (splitAtGen fs).map _ = none
        rw [a.split]; rfl
      · show (gd false || fs.any Frame.guarded) = false
        rw [a.gd, a.guard]; rfl
      have J3 := unfl I3
      refine ⟨v, _, _, _, _, p2, _, H1, y, rfl, rv, hIt4, prom_of F (s := { s1 with heap := h3 }) ⟨hz.1, Nat.le_trans hz.2 hz2⟩ J3.inv hRl4, I3.dok.cons pg3.2.1 gen3, ?_⟩
      refine (alive_iff ..).mpr fun H5 s5 d5 zz dk => ?_
      have I5 : G.I s5 H5 (ip ++ [(ga, oa3)]) σ H5 d5 s5 := ⟨wake_inv F J3.inv (hip2 oa3) zz, dk⟩
      have e5 : s5.heap.get? ga = some oa3 := (I5.inv.pin (ga, oa3) (List.mem_append_right _ (List.mem_append_left _ (List.mem_append_right _ (List.mem_singleton.mpr rfl))))).1
      show Go _ _ _ _ _ (Builtin.Generator.sleptOver (.ref ga) false >>= fun _ => _) _ d5 s5
      refine go_bind (lw_of (wpAny_slept e5 (c3.trans o1) (d3.trans o2) fun oa6 h6 n6 c6 d6 e6 sl6 g6 k6 => ?_))
      try dsimp only
      refine go_bind (lw_pure ?_)
      have I6 : LI (G.X s5 H5) ((ip ++ foP G.fo s5.heap) ++ [(ga, oa6)]) σ H5 d5 { s5 with heap := h6 } := (flat I5).slots (by
        show (cutH G.L s5.heap).objs.size ≤ (ga : Nat)
        rw [cutH_size]; exact Nat.le_of_lt (Nat.lt_trans hGL p5)) (fun y c e => absurd ((F.noc y).symm.trans e) (by simp)) (apart s5 H5) g6 k6 c6 d6
      have R5 : Rst L [ga] g H1 s2 H5 s5 := R3.step zz.sub (fun b o h1 _ e => zz.raw b o (Nat.le_of_lt (Nat.lt_of_lt_of_le hGL h1)) (fun hb => Nat.lt_irrefl _ (Nat.lt_of_lt_of_le (hfoL b hb) h1)) e)
        (fun b o h1 _ e n => zz.fre b o (Nat.le_of_lt (Nat.lt_of_lt_of_le hGL h1)) (fun hb => Nat.lt_irrefl _ (Nat.lt_of_lt_of_le (hfoL b hb) h1)) n e) fun j x h e => zz.gens j x (Nat.lt_trans hgg h) e
      have R6 : Rst L [ga] g H1 s2 H5 { s5 with heap := h6 } := R5.step (fun _ _ e => e) (fun b o _ hb e => (k6 b (fun z => hb (List.mem_singleton.mpr z))).trans e) (fun _ _ _ _ _ n => n) fun j x _ e => e
      refine go_again (plainId_quiet plain_yf _) (ih l2 H5 s5 H5 d5 { s5 with heap := h6 } H1 s2 gs2 oa6 (fun b hb => let ⟨o, e, _⟩ := zz.fop b hb; ⟨o, e⟩) ⟨zz.big, Nat.le_refl _⟩ (unfl I6) (c6.trans (c3.trans o1)) (d6.trans (d3.trans o2)) (fun n t hn => ?_) (zz.gens g gs2 hgg hgs2) al2 R6 ?_ (hk H5 zz.sub))
      · have h6n : n6 = n3 + 1 := by
          rw [e6, sl3]; rfl
        have h7n : n6 - 1 = n := by
          rw [sl6] at hn
          have hn := Option.some.inj (Option.some.inj hn)
          injection hn
        rw [h6n] at h7n
        have h8n : n3 = n := by rw [← h7n]; exact (Int.add_sub_cancel n3 1).symm
        rw [← h8n]
        exact n3le
      · exact (ho2.trans I3.inv.os.symm).trans zz.os.symm
  refine loop _ _ (fun l H0 s0 d s ex z => ?_) li l H0 s0 H1 d s1 Hs ss gs oa ex ⟨hz.1, hz1⟩ (.of (h0 := s.heap) (I1.pins_of fun p hp => by
    rcases List.mem_append.mp hp with z | z
    · rcases List.mem_append.mp z with z | z
      · rcases List.mem_append.mp z with z | z
        · exact I1.pin p (List.mem_append_right _ (List.mem_append_left _ (List.mem_append_left _ (List.mem_append_left _ z))))
        · exact I1.pin p (List.mem_append_right _ (List.mem_append_right _ z))
      · exact I1.pin p (List.mem_append_right _ (List.mem_append_left _ (List.mem_append_left _ (List.mem_append_right _ z))))
    · exact I1.pin p (List.mem_append_right _ (List.mem_append_left _ (List.mem_append_right _ z)))) gd0) o1 o2 o3 hgs al R ho w0
  exact k l H0 s0 .next d s ex z
end
end Lk
/-! Kg13 -/
namespace Lk
open PySem PySem.Spec PyProof.Rows L2 GenW
theorem cells_none : ∀ (names : List (Str × NameKind)) (n : Nat), (∀ y ∈ names, y.2 ≠ .cell) → cellsFrom n names [] = []
  | [], _, _ => rfl
  | (x, k) :: r, n, h => by
    have hk : (k == NameKind.cell) = false := beq_eq_false_iff_ne.mpr (h (x, k) List.mem_cons_self)
    unfold cellsFrom
    rw [hk, if_neg Bool.false_ne_true]
    exact cells_none r n fun y hy => h y (List.mem_cons_of_mem _ hy)
theorem lookup_mem {x : Str} {k : NameKind} : ∀ {l : List (Str × NameKind)}, l.lookup x = some k → ∃ y ∈ l, y.2 = k
  | (y, j) :: r, h => by
    rw [List.lookup_cons] at h
    split at h
    · cases h; exact ⟨_, List.mem_cons_self, rfl⟩
    · obtain ⟨z, hz, e⟩ := lookup_mem h
      exact ⟨z, List.mem_cons_of_mem _ hz, e⟩
/-- neither cells nor free names -/
abbrev PlainNames (sc : Scope) : Prop := ∀ y ∈ sc.names, y.2 ≠ NameKind.cell ∧ y.2 ≠ NameKind.free
theorem plain_noc {qual : Str} {sc : Scope} {L f : Addr} {cd : Value} (h : PlainNames sc) : ∀ x, (envOfC qual sc L f cd).cells.lookup x = none := fun x => by
  show (cellsFrom (L + 1) sc.names []).lookup x = none
  rw [cells_none _ _ fun y hy => (h y hy).1]
  rfl
theorem plain_nok {qual : Str} {sc : Scope} {L f : Addr} {cd : Value} (h : PlainNames sc) : ∀ x, ¬ ((envOfC qual sc L f cd).kindOf x = some .cell ∨ (envOfC qual sc L f cd).kindOf x = some .free) := fun x z => by
  rcases z with z | z
  · obtain ⟨y, hy, e⟩ := lookup_mem (show sc.names.lookup x = some .cell from z)
    exact (h y hy).1 e
  · obtain ⟨y, hy, e⟩ := lookup_mem (show sc.names.lookup x = some .free from z)
    exact (h y hy).2 e
/-- a generator has been made -/
def Born (P : Program) (w : World) (base : Heap) (Aw : Around) (outer : List Env) {α : Type} (It : α → Hp → V → Prop) (Rl : Hp → Hp → Prop) (H : Hp) (s : Shared) (li : List α) (u : Value) (s1 : Shared) : Prop :=
  ∃ (a : Addr) (oa : Obj) (gs : GenState) (ss : Shared) (nm qn : Value), u = .ref a ∧ s.heap.objs.size < (a : Nat) ∧ s1.heap.get? a = some oa ∧ oa.cls = .type "generator" ∧ oa.data = .fields #[.int s.gens.size 0, nm, qn] ∧ (∀ n t, oa.slots[0]? = some (some (Value.int n t)) → ¬ n > 0) ∧
    (∀ b o, s.heap.get? b = some o → s1.heap.get? b = some o) ∧ s1.gens = s.gens.push gs ∧ gs.bare = true ∧ s1.os = s.os ∧ HOk P w H s1.heap ∧
    Alive P w base Aw outer s.heap.objs.size [a] s.gens.size Rl It li H ss gs ∧ Rst s.heap.objs.size [a] s.gens.size H ss H s1 ∧ ss.os = s.os
/-- the promise of a generator def: sp: what is asked, what comes -/
structure GDef (P : Program) (w : World) (K : PySem.W.Frag) (mg : Str → Option Value) (base : Heap) (k : Nat) (f : Addr) (fd : FuncData) (ps : List Str) {α : Type} (It : α → Hp → V → Prop) (Rl : Hp → Hp → Prop) (sp : List V → Hp → (List α → Hp → Prop) → Prop) : Prop where
  len : ∀ vs H R, sp vs H R → vs.length = ps.length
  run : ∀ (A Aw : Around) (outer : List Env) (s : Shared) (H : Hp) (args : Args) (us : List Value) (vs : List V) (R : List α → Hp → Prop), Room (k + 1) A → Room (k + 1) Aw → Aw.frames = some outer → Env0 P w K mg base A outer s H → BindsTo s fd args (ps.zip us) → Vals vs us → sp vs H R →
    codeAny (model P w) A (.call (.ref f) args) (fun r s1 => ∃ u li, r = .ok (.ret u) ∧ Born P w base Aw outer It Rl H s li u s1 ∧ R li H) s
section
variable {P : Program} {w : World} {K : PySem.W.Frag} {mg : Str → Option Value} {base : Heap} {x qual : Str} {st : Stmt} {f : Addr} {N ps : List Str} {k : Nat} {α : Type} {It : α → Hp → V → Prop} {Rl : Hp → Hp → Prop} {sp : List V → Hp → (List α → Hp → Prop) → Prop}
/-- the frame of a generator -/
abbrev gfOf (P : Program) (w : World) (K : PySem.W.Frag) (mg : Str → Option Value) (base : Heap) (N : List Str) (qual : Str) (st : Stmt) (f : Addr) {α : Type} (It : α → Hp → V → Prop) (Rl : Hp → Hp → Prop) (cdv : Value) (Aw : Around) (outer : List Env) (L : Nat) (a : Addr) (g : Nat) : Gf :=
  ⟨P, w, K, mg, base, N, qual, defScope st, f, cdv, Aw, outer, L, [a], g, Rl, α, It⟩
theorem gdef_of {fd : FuncData} (F : FunD K x qual (defArgs st) (defBody st) (defScope st) [] [] f fd) (S : GScope N ps (defScope st)) (pn : PlainNames (defScope st)) (bd : BindsBy x qual st ps) (len : ∀ vs H R, sp vs H R → vs.length = ps.length)
    (body : ∀ (cdv : Value) (Aw : Around) (outer : List Env) (L : Nat) (a : Addr) (g : Nat) (vs : List V) (H : Hp) (R : List α → Hp → Prop), (gfOf P w K mg base N qual st f It Rl cdv Aw outer L a g).Fx → Room k (Aw.deeper (envOfC qual (defScope st) L f cdv)) → sp vs H R →
      ∃ li, R li H ∧ ∃ t, GSts (gfOf P w K mg base N qual st f It Rl cdv Aw outer L a g) (defBody st) t ∧ ∀ H0, (∀ b u, H b = some u → H0 b = some u) → t { nx := fun l H0 _ H2 => l = [] ∧ Rl H0 H2, rt := fun l H0 v H2 => l = [] ∧ v = .non ∧ Rl H0 H2 } li H0 (start N vs) H0) :
    GDef P w K mg base k f fd ps It Rl sp ∧ PySem.W.keepIn K (.ref f) = true ∧ Binds K fd ps [] := by
  refine ⟨⟨len, fun A Aw outer s H args us vs R hr hrw hfr e0 hb r hsp => ?_⟩, F.kp, F.bindsN bd⟩
  obtain ⟨oc, od, dV, kV, doc, pm, an, cdv, ct, osl, rfl, lk, hcd, _, _⟩ := F.ex
  refine gmake lk hcd S hr e0 hb (len vs H R hsp) r fun s1 go tk I1 os1 gen1 lt1 kp1 ob1 gg1 nc1 => ?_
  have Fx : (gfOf P w K mg base N qual st f It Rl cdv Aw outer s.heap.objs.size s1.heap.objs.size s.gens.size).Fx :=
    ⟨e0.mod, S.kind, e0.bsz, hrw.hd, hfr, fun b hb => let ⟨_, o, ho, _⟩ := e0.funs.mem hb; Heap.lt_size ho, fun b hb => by rw [List.mem_singleton.mp hb]; exact lt1, plain_noc pn, plain_nok pn⟩
  obtain ⟨li, hR, t, hG, ht⟩ := body cdv Aw outer s.heap.objs.size s1.heap.objs.size s.gens.size vs H R Fx (hrw.deeper _) hsp
  have I2 := first_inv (fo := [s1.heap.objs.size]) Fx I1 fun b hb => by rw [List.mem_singleton.mp hb]; simp [Heap.get?]
  have al := gen_body (G := gfOf P w K mg base N qual st f It Rl cdv Aw outer s.heap.objs.size s1.heap.objs.size s.gens.size) Fx hG I2 ht
  obtain ⟨o, nm, qn, q1, q2, q3, q4⟩ := ob1
  rw [gg1] at q1
  cases q1
  have kp2 : ∀ b o, s1.heap.get? b = some o → (s1.heap.push go).get? b = some o := fun b o e => Heap.get?_push_of_some _ e
  refine ⟨_, li, rfl, ⟨s1.heap.objs.size, go, _, s1, nm, qn, rfl, lt1, gg1, q2, q3, q4, fun b o e => kp2 b o (kp1 b o e), rfl, rfl, os1, I1.hok.kept kp2, al, ⟨fun _ _ e => e, fun b o _ _ e => kp2 b o e, fun _ _ _ _ n _ => n, fun j y hj e => ?_⟩, os1⟩, hR⟩
  rw [gen1] at e
  have : j < s.gens.size := (Array.getElem?_eq_some_iff.mp e).1
  exact absurd (Nat.lt_trans hj this) (Nat.lt_irrefl _)
end
section
variable {X : Cx} {k j : Nat} {f C : Addr} {fd : FuncData} {ps : List Str} {m : Str} {α : Type} {It : α → Hp → V → Prop} {Rl : Hp → Hp → Prop} {sp : List V → Hp → (List α → Hp → Prop) → Prop} {Aw : Around} {o e : Expr} {es : List Expr} {ta : TE} {t : TA} {apos pos : Pos}
theorem run_gdef {pins : List (Addr × Obj)} {σ : L2.St} {H : Hp} {s : Shared} {us : List Value} {vs : List V} {R : List α → Hp → Prop} {E1 : Value → Shared → Prop} (F : GDef X.prog X.w X.K X.mg X.base k f fd ps It Rl sp) (hr : Room (k + 1) X.A) (hw : Room (k + 1) Aw) (hf : Aw.frames = some X.stack) (hb : Binds X.K fd ps [])
    (I : Inv X pins σ H s) (r : Vals vs us) (h : sp vs H R) (hcell : ∀ x, X.env.cells.lookup x = none) :
    wpAny (model X.prog X.w) X.A (call (.ref f) us) (fun u s1 => ∃ (a : Addr) (oa : Obj) (L g : Nat) (H1 Hs : Hp) (ss : Shared) (gs : GenState) (l : List α), u = .ref a ∧ Inv X (pins ++ [(a, oa)]) σ H1 s1 ∧ X.s_0.heap.objs.size ≤ L ∧ (X.env.locals : Nat) < L ∧ (∀ x c, X.env.cells.lookup x = some c → (c : Nat) < L) ∧ (∀ p ∈ X.pn ++ pins, (p.1 : Nat) < L) ∧ L < (a : Nat) ∧
      s.gens.size ≤ g ∧ (∃ nm qn, oa.cls = .type "generator" ∧ oa.data = .fields #[.int g 0, nm, qn] ∧ ∀ n t, oa.slots[0]? = some (some (Value.int n t)) → ¬ n > 0) ∧ s1.gens[g]? = some gs ∧ Alive X.prog X.w X.base Aw X.stack L [a] g Rl It l Hs ss gs ∧ Rst L [a] g Hs ss H1 s1 ∧ ss.os = X.s_0.os ∧ R l H1 ∧ H1 = H) E1 s := by
  have hl2 : us.length = ps.length := by rw [← r.length]; exact F.len _ _ _ h
  refine wpAny_call (codeAny_mono (F.run X.A Aw X.stack s H ⟨us, []⟩ us vs R hr hw hf I.env0 ?_ r h) fun q s1 z => ?_)
  · have := hb s us I.kIn (by rw [List.append_nil]; exact hl2)
    rw [List.append_nil] at this
    exact this
  · obtain ⟨u, li, rfl, ⟨a, oa, gs, ss, nm, qn, rfl, h1, h2, h3, h4, h5, kp, hg, hgb, hos, hok, al, R1, ho⟩, hR⟩ := z
    have J : Inv X pins σ H s1 := by
      have J1 := I.kept (h' := s1.heap) (t' := s1.toks) kp
      exact ⟨J1.ok, hos.trans I.os, by rw [hg]; exact I.bare.push hgb, J1.base, J1.loc, J1.cell, J1.free, J1.freeC, J1.pin, J1.hok, J1.len⟩
    have hsz : s.heap.objs.size ≤ (a : Nat) := Nat.le_of_lt h1
    refine ⟨a, oa, s.heap.objs.size, s.gens.size, H, H, ss, gs, li, rfl, J.pins_of fun p hp => ?_, I.sz, I.lt, fun y c e => absurd ((hcell y).symm.trans e) (by simp), fun p hp => Heap.lt_size (I.pin p hp).1, h1, Nat.le_refl _, ⟨nm, qn, h3, h4, h5⟩, by rw [hg]; simp, al, R1, ho.trans I.os, hR, rfl⟩
    rcases List.mem_append.mp hp with z | z
    · exact J.pin p (List.mem_append_right _ z)
    · rw [List.mem_singleton.mp z]
      exact ⟨h2, I.hok.fresh hsz, Nat.ne_of_gt (Nat.lt_of_lt_of_le I.lt hsz), I.nofs hsz, fun v z => by rw [h4] at z; cases z⟩
def tMk (C : Addr) (m : Str) (sp : List V → Hp → (List α → Hp → Prop) → Prop) (ta : TE) (t : TA) : L2.St → Hp → (List α → Hp → Prop) → Prop := fun σ H R => ta σ H fun x H1 => ∃ a dx fs, x = .ref a ∧ H1 a = some (.ins C dx fs) ∧ fs.lookup m = none ∧ t σ H1 fun vs H2 => sp (x :: vs) H2 R
/-- o.m(e, ..) of a generator method -/
theorem mkg_meth {pl : Sem Bool} (he : PE X o ta) (c : Cls X.K C) (hm : Meth X.K C m f) (F : GDef X.prog X.w X.K X.mg X.base k f fd ps It Rl sp) (hr : Room (k + 1) X.A) (hw : Room (k + 1) Aw) (hf : Aw.frames = X.A.frames) (hb : Binds X.K fd ps []) (ha : PA X (e :: es) t) (hcell : ∀ x, X.env.cells.lookup x = none) (hxe : ∀ v s, ¬ X.xe v s)
    (hst : starEach (e :: es) X.env = (false, eval e X.env) :: starEach es X.env := by rfl) (hpl : (backTo pos (starEach es X.env)).any (·.1) = false := by rfl)
    (ht : eval (.Call (.Attribute o m apos) (e :: es) [] pos) X.env = (do
      let ov ← eval o X.env
      standAt apos.atName
      let (f, first) ← holding [ov] (getMethod ov m pl)
      callWith pos f first (backTo pos (starEach (e :: es) X.env)) (backToKw pos (keywordEach [] X.env))) := by rfl) :
    MkG X Aw (.Call (.Attribute o m apos) (e :: es) [] pos) It Rl (tMk C m sp ta t) := by
  refine ⟨fun pins s σ H R I h => ?_⟩
  refine PySem.W.methodCall_KW (pl := pl) (wpAny_gsz (n := s.gens.size) (Nat.le_refl _) (wpAny_mono (he.run pins s σ H _ I h) (fun u s1 z hz1 => ?_) fun v s' z => absurd z (hxe v s'))) ht
  obtain ⟨x, H1, I1, rx, a, dx, fs, rfl, ea, l, q⟩ := z
  obtain rfl : u = Value.ref a := rx
  refine getmeth_ok I1 ea c hm l ?_
  refine PySem.W.callWith_K (first := [.ref a]) (h₀ := X.base) I.ok.mod.kin hm.kp (wpAny_gsz (n := s.gens.size) hz1 (wpAny_mono (ha.run pos pins s1 σ H1 _ I1 q) (fun us s2 z hz2 => ?_) fun v s' z => absurd z (hxe v s'))) hst hpl
  obtain ⟨vs, H2, I2, r, q2⟩ := z
  refine ⟨I2.kIn, wpAny_mono (run_gdef (us := .ref a :: us) (vs := .ref a :: vs) (E1 := fun _ _ => False) F hr hw (hf.trans I2.ok.frames) hb I2 (.cons rfl r) q2 hcell) (fun u3 s3 z => ?_) fun _ _ z => z⟩
  obtain ⟨b, ob, L, g, H3, Hs, ss, gs, li, e1, J, p1, p2, p3, p4, p5, p6, p7, p8, p9, p10, p11, p12, _⟩ := z
  exact ⟨b, ob, L, g, H3, Hs, ss, gs, li, e1, J, p1, p2, p3, p4, p5, Nat.le_trans hz2 p6, p7, p8, p9, p10, p11, p12⟩
end
end Lk
/-! Kg14 -/
namespace Lk
open PySem PySem.Spec PyProof.Rows L2 GenW
/-- things were laid, nothing else -/
def Laid1 (H : Hp) (s : Shared) (H1 : Hp) (s1 : Shared) : Prop := s1.gens = s.gens ∧ (∀ b o, s.heap.get? b = some o → s1.heap.get? b = some o) ∧ (∀ b y, H b = some y → H1 b = some y) ∧ ∀ b o, s.heap.get? b = some o → H b = none → H1 b = none
theorem Laid1.refl {H : Hp} {s : Shared} : Laid1 H s H s := ⟨rfl, fun _ _ e => e, fun _ _ e => e, fun _ _ _ n => n⟩
theorem Laid1.trans {H H1 H2 : Hp} {s s1 s2 : Shared} (x : Laid1 H s H1 s1) (y : Laid1 H1 s1 H2 s2) : Laid1 H s H2 s2 :=
  ⟨y.1.trans x.1, fun b o e => y.2.1 b o (x.2.1 b o e), fun b u e => y.2.2.1 b u (x.2.2.1 b u e), fun b o e n => y.2.2.2 b o (x.2.1 b o e) (x.2.2.2 b o e n)⟩
theorem Laid1.push {H : Hp} {s : Shared} {o : Obj} {u : HO} (hf : H s.heap.objs.size = none) : Laid1 H s (upd H s.heap.objs.size u) { s with heap := s.heap.push o } :=
  ⟨rfl, fun b o e => Heap.get?_push_of_some _ e, fun b y e => by rw [upd_ne (ne_of_none e hf)]; exact e, fun b o e n => by rw [upd_ne (Nat.ne_of_lt (Heap.lt_size e))]; exact n⟩
section
variable {X : Cx} {pos : Pos} {e : Expr} {es : List Expr} {te : TE} {t : TA}
/-- such an expression -/
structure PEq (X : Cx) (e : Expr) (te : TE) : Prop where
  run : ∀ (pins : List (Addr × Obj)) (s : Shared) (σ : L2.St) (H : Hp) (Q : V → Hp → Prop), Inv X pins σ H s → te σ H Q → wpAny (model X.prog X.w) X.A (eval e X.env) (fun u s1 => ∃ x H1, Inv X pins σ H1 s1 ∧ RelV x u ∧ Q x H1 ∧ Laid1 H s H1 s1) (fun _ _ => False) s
structure PAq (X : Cx) (es : List Expr) (t : TA) : Prop where
  run : ∀ (pos : Pos) (pins : List (Addr × Obj)) (s : Shared) (σ : L2.St) (H : Hp) (Q : List V → Hp → Prop), Inv X pins σ H s → t σ H Q → wpAny (model X.prog X.w) X.A (spliced (backTo pos (starEach es X.env))) (fun us s1 => ∃ xs H1, Inv X pins σ H1 s1 ∧ Vals xs us ∧ Q xs H1 ∧ Laid1 H s H1 s1) (fun _ _ => False) s
theorem PEq.k (h : PEq X e te) : PEk X e te := ⟨fun pins s σ H Q I q => wpAny_mono (h.run pins s σ H Q I q) (fun u s1 ⟨x, H1, I1, r, q1, l⟩ => ⟨x, H1, I1, r, q1, l⟩) fun _ _ z => z⟩
theorem pq_var {i : Nat} {x : Str} (hN : X.N[i]? = some x) (hv : X.env.scope.names.lookup x = some .local) (hd : (x == ("__debug__" : Str)) = false := by decide) : PEq X (.Name x pos) (tVar i) := by
  refine ⟨fun pins s σ H Q I q => ?_⟩
  obtain ⟨v, ev, q⟩ := q
  obtain ⟨m, hn, hl⟩ := I.loc
  obtain ⟨u, r, ⟨hk, hm⟩ | ⟨hk, _⟩⟩ := hl i x v hN ev (.inl hv)
  · exact wpAny_Name (wpAny_loadName_local I.ok.kind hk hn hm ⟨v, H, I, r, q, .refl⟩) hd
  · have hv' : X.env.kindOf x = some .local := hv
    rw [hv'] at hk
    rcases hk with z | z <;> cases z
theorem paq_nil : PAq X [] tNil := ⟨fun _ pins s σ H Q I q => Calls.spliced_nil ⟨[], H, I, .nil, q, .refl⟩⟩
theorem paq_cons (ha : PEq X e te) (hr : PAq X es t) (hs : starEach (e :: es) X.env = (false, eval e X.env) :: starEach es X.env := by rfl) : PAq X (e :: es) (tCons te t) := by
  refine ⟨fun pos pins s σ H Q I q => ?_⟩
  rw [hs]
  show wpAny _ _ (spliced ((false, eval e X.env) :: backTo pos (starEach es X.env))) _ _ s
  refine Calls.spliced_cons (wpAny_mono (ha.run pins s σ H _ I q) (fun u s1 z => ?_) fun _ _ z => z)
  obtain ⟨x, H1, I1, r1, q1, l1⟩ := z
  refine wpAny_mono (hr.run pos pins s1 σ H1 _ I1 q1) (fun us s2 z => ?_) fun _ _ z => z
  obtain ⟨xs, H2, I2, r2, q2, l2⟩ := z
  exact ⟨x :: xs, H2, I2, .cons r1 r2, q2, l1.trans l2⟩
theorem pq_tup {x1} (h : PAq X es t) : PEq X (.Tuple es x1 pos) (tTup t) := by
  refine ⟨fun pins s σ H Q I q => wpAny_Tuple_spliced (wpAny_mono (h.run pos pins s σ H _ I q) (fun us s1 z => ?_) fun _ _ z => z)⟩
  obtain ⟨xs, H1, I1, r, ⟨hz, q⟩, l⟩ := z
  have hf : H1 s1.heap.objs.size = none := I1.hok.fresh (Nat.le_refl _)
  have J : Inv X pins σ (upd H1 s1.heap.objs.size (.tup xs)) { s1 with heap := s1.heap.push { cls := .type "tuple", data := .seq us.toArray } } :=
    I1.laid (t' := s1.toks) (fun b u e => Heap.get?_push_of_some _ e) (Nat.le_refl _) ⟨hz, us, r, _, Heap.get?_push_size _ rfl, rfl, _, rfl⟩
  exact ⟨by rw [← r.length]; exact hz, .ref s1.heap.objs.size, _, J, rfl, q _ hf, l.trans (.push hf)⟩
theorem pq_lst (h : PAq X es t) : PEq X (.List es pos) (tLst t) := by
  refine ⟨fun pins s σ H Q I q => wpAny_List_spliced (wpAny_mono (h.run pos pins s σ H _ I q) (fun us s1 z => ?_) fun _ _ z => z)⟩
  obtain ⟨xs, H1, I1, r, ⟨hz, q⟩, l⟩ := z
  have hf : H1 s1.heap.objs.size = none := I1.hok.fresh (Nat.le_refl _)
  exact ⟨by rw [← r.length]; exact hz, .ref s1.heap.objs.size, _, I1.lnew (t' := s1.toks) r hz, rfl, q _ hf, l.trans (.push hf)⟩
theorem pq_cat {a b : Expr} {ta tb : TE} (ha : PEq X a ta) (hb : PEq X b tb) : PEq X (.BinOp a .Add b pos) (tOp rCat ta tb) := by
  refine ⟨fun pins s σ H Q I q => wpAny_BinOp (wpAny_mono (ha.run pins s σ H _ I q) (fun v s1 z => ?_) fun _ _ z => z)⟩
  obtain ⟨x, H1, I1, r1, q1, l1⟩ := z
  refine wpAny_mono (hb.run pins s1 σ H1 _ I1 q1) (fun u s2 z => ?_) fun _ _ z => z
  obtain ⟨y, H2, I2, r2, q2, l2⟩ := z
  obtain ⟨p, p2, xs, zs, rfl, rfl, h1, h2, hz, q⟩ := q2
  obtain rfl : v = Value.ref p := r1
  obtain rfl : u = Value.ref p2 := r2
  obtain ⟨z1, i1, n1, v1, k1, e1⟩ := I2.lstM h1
  obtain ⟨z2, i2, n2, v2, k2, e2⟩ := I2.lstM h2
  have hf := I2.fresh
  have hsum : (xs ++ zs).length ≤ sizeLine := by rw [List.length_append]; omega
  refine PySem.P.add_list e1 e2 ?_ (by rw [List.size_toArray, List.size_toArray]; omega)
  have J := I2.lnew (t' := s2.toks) (v1.append v2) hsum
  rw [show i1.toArray ++ i2.toArray = (i1 ++ i2).toArray by simp]
  exact ⟨.ref s2.heap.objs.size, _, J, rfl, q _ hf, (l1.trans l2).trans (.push hf)⟩
/-- a local name stored -/
theorem Inv.storeL {pins : List (Addr × Obj)} {σ : L2.St} {H : Hp} {s : Shared} {i : Nat} {x : Str} {v : V} {u : Value} {m : Str → Option Value} {h' : Heap} {t' : Nat} (I : Inv X pins σ H s) (hN : X.N.Nodup) (hi : X.N[i]? = some x) (hk : X.env.kindOf x = some .local) (hcell : ∀ y, X.env.cells.lookup y = none) (r : RelV v u)
    (hl : ∀ (i : Nat) (x : Str) (v : V), X.N[i]? = some x → σ[i]? = some (some v) → Vis X.env.scope x → ∃ u, RelV v u ∧ Look X.env s.heap m x u) (hfree : ∃ o, s.heap.get? X.env.locals = some o) (hn : h'.Ns X.env.locals (fun y => if y = x then some u else m y)) (hs : Heap.SameBut X.env.locals s.heap h') :
    Inv X pins (σ.set i (some v)) H { s with heap := h', toks := t' } := by
  have far : ∀ b o, X.s_0.heap.get? b = some o → h'.get? b = s.heap.get? b := fun b o e => hs.2 b (Nat.ne_of_lt (Nat.lt_of_lt_of_le (Heap.lt_size e) I.ok.above))
  have nc : ∀ y c, ¬ X.env.cells.lookup y = some c := fun y c e => absurd ((hcell y).symm.trans e) (by simp)
  have hiσ : i < σ.length := by rw [I.len]; exact (List.getElem?_eq_some_iff.mp hi).1
  refine ⟨I.ok, I.os, I.bare, ⟨fun b o e n hb hx => (far b o e).trans (I.base.keep b o e n hb hx), fun b o e n hb hx => ?_, I.base.free, fun b o e hx => ?_, I.base.tups, I.base.frzs, I.base.tbls⟩, ⟨_, hn, fun j y v' e1 e2 e3 => ?_⟩, fun y c e => absurd e (nc y c), I.free, fun y c e => absurd e (nc y c), fun p hp => ?_, fun b ob e => ?_, ?_⟩
  · obtain ⟨sl, q⟩ := I.base.slot b o e n hb hx
    exact ⟨sl, (far b o e).trans q⟩
  · obtain ⟨o', q⟩ := I.base.there b o e hx
    exact ⟨o', (far b o e).trans q⟩
  · by_cases hj : j = i
    · subst hj
      rw [hi] at e1
      cases e1
      rw [List.getElem?_set_self hiσ] at e2
      cases e2
      exact ⟨u, r, .inl ⟨hk, if_pos rfl⟩⟩
    · rw [List.getElem?_set_ne (Ne.symm hj)] at e2
      obtain ⟨u', r', ⟨k, q⟩ | ⟨_, c, q, _⟩⟩ := hl j y v' e1 e2 e3
      · have hyx : y ≠ x := fun z => hj (nodup_ix hN e1 (z ▸ hi))
        exact ⟨u', r', .inl ⟨k, (if_neg hyx).trans q⟩⟩
      · exact absurd q (nc y c)
  · obtain ⟨q1, q2, q3, q4, q5⟩ := I.pin p hp
    exact ⟨(hs.2 p.1 q3).trans q1, q2, q3, q4, q5⟩
  · refine (I.hok b ob e).stay (fun c w' hc q => (hs.2 c fun z => ?_).trans q) (fun _ q => q) fun _ _ q => q
    subst z
    have hf := I.free
    rcases hc with hc | hc
    · rw [← hc, hf] at e; cases e
    · rw [hf] at hc; cases hc
  · rw [List.length_set]; exact I.len
theorem pgk_name {i : Nat} {x : Str} (hN : X.N.Nodup) (hi : X.N[i]? = some x) (hk : X.env.scope.names.lookup x = some .local) (hcell : ∀ y, X.env.cells.lookup y = none) : PGk X (.Name x pos) (gName i) := by
  refine ⟨fun pins s σ H v u Q I r q => ?_⟩
  obtain ⟨m, hn, hl⟩ := id I.loc
  obtain ⟨oL, _, _, hoL, _⟩ := id hn
  have hcls : (X.env.scope.kind == .class || (X.env.scope.kind == .module && X.env.locals != X.env.globals)) = false := by rw [I.ok.kind]; rfl
  refine wpAny_assign_Name (wpAny_storeName_local hk hn (fun h' hn' hs => ?_) hcls)
  exact ⟨_, Inv.storeL I hN hi hk hcell r hl ⟨oL, hoL⟩ hn' hs, q, rfl, fun b o hb e => (hs.2 b hb).trans e⟩
/-- dict(l) of a list of pairs -/
theorem pq_dict {x : Str} {p : Pos} {a : Expr} {ta : TE} (ha : PEq X a ta) (hg : Gl X x) (hm : X.mg x = none) (hv : bootBuiltins x = some (.type "dict")) (hcalm : X.calm = true) (hn : x ≠ "__name__" := by decide) (hdb : (x == ("__debug__" : Str)) = false := by decide)
    (he : starEach [a] X.env = (false, eval a X.env) :: starEach [] X.env := by rfl) (hpl : (backTo pos (starEach [] X.env)).any (·.1) = false := by rfl) :
    PEq X (.Call (.Name x p) [a] [] pos) (fun σ H Q => ta σ H fun y H1 => ∃ (l : Addr) (ps : List Addr) (kvs : List (Key × V)), y = .ref l ∧ SqL X.K H1 l (ps.map V.ref) ∧ Paired (fun p kv => SqT X.K H1 p [kV kv.1, kv.2]) ps kvs ∧ ∀ p, H1 p = none → Q (.ref p) (upd H1 p (.dK (mergeK [] kvs)))) := by
  refine ⟨fun pins s σ H Q I q => wpAny_Call_Name_kw (ld_blt I hg hm hv ?_ hn hdb)⟩
  refine PyProof.Rows.callWith_type1 (wpAny_mono ((paq_cons ha paq_nil he).run pos pins s σ H (fun xs H1 => ∃ (l : Addr) (ps : List Addr) (kvs : List (Key × V)), xs = [.ref l] ∧ SqL X.K H1 l (ps.map V.ref) ∧ Paired (fun p kv => SqT X.K H1 p [kV kv.1, kv.2]) ps kvs ∧ ∀ p, H1 p = none → Q (.ref p) (upd H1 p (.dK (mergeK [] kvs)))) I ?_) (fun us s1 z => ?_) fun _ _ z => z) he hpl
  · refine cast ?_ q
    congr 1
    funext y H1
    simp only [tNil, eq_iff_iff]
    constructor
    · rintro ⟨l, ps, kvs, rfl, q⟩; exact ⟨l, ps, kvs, rfl, q⟩
    · rintro ⟨l, ps, kvs, e, q⟩; cases e; exact ⟨l, ps, kvs, rfl, q⟩
  obtain ⟨xs, H1, I1, rv, ⟨l, ps, kvs, rfl, hq, hp, q⟩, l1⟩ := z
  obtain ⟨u, rfl, rx⟩ := vals1 rv
  obtain rfl : u = Value.ref l := rx
  obtain ⟨its, rv2, pl, hz⟩ := I1.list hq
  obtain rfl := refs_at rv2
  rw [List.length_map] at hz
  obtain ⟨prs, rel, hl, hpr⟩ := pairs_of I1 hp
  obtain ⟨o, n, ho, hc, hd, hdat⟩ := pl
  have hf : H1 s1.heap.objs.size = none := I1.hok.fresh (Nat.le_refl _)
  refine call_dict_pairs (prs := prs) (I1.ok.hd hcalm) ho hc hd hdat (by simp [hl]) (by rw [hl]; exact hz) (fun j q' e => ?_) fun h' tk hd' k => ?_
  · obtain ⟨b, u, e1, e2, e3⟩ := hpr j q' e
    exact ⟨b, u, by simp [e1], e2, e3⟩
  · have hlen : (mergeK [] kvs).length ≤ sizeLine := Nat.le_trans (length_mergeK kvs []) (by rw [List.length_nil, Nat.zero_add, rel.length, hl]; exact hz)
    have hm1 : (s1.heap.objs.size == sysModules) = false := beq_eq_false_iff_ne.mpr (Nat.ne_of_gt I1.big)
    have new : ObjOk X.prog X.w (upd H1 s1.heap.objs.size (.dK (mergeK [] kvs))) h' s1.heap.objs.size (.dK (mergeK [] kvs)) := ⟨hlen, hm1, merged [] prs, KV.merge rel .nil, hd'⟩
    refine ⟨.ref s1.heap.objs.size, _, I1.laid (t' := tk) k (Nat.le_refl _) new, rfl, q _ hf, l1.trans ⟨rfl, k, fun b y e => ?_, fun b o e n => ?_⟩⟩
    · rw [upd_ne (ne_of_none e hf)]; exact e
    · rw [upd_ne (Nat.ne_of_lt (Heap.lt_size e))]; exact n
/-- a list, walked -/
theorem pig_list {tg l : Expr} {tl : TE} (hl : PE X l tl) : PIG X tg l (iList X.K tl) := by
  refine ⟨fun pins s σ H R I h => thn (hl.run pins s σ H _ I h) fun v s1 z => ?_⟩
  obtain ⟨x, H1, I1, r1, a, rfl, ⟨xs, hq⟩, q⟩ := z
  obtain rfl : v = Value.ref a := r1
  obtain ⟨its, rv, pt, hz⟩ := I1.list hq
  have fresh := I1.hok.fresh (Nat.le_refl s1.heap.objs.size)
  refine wpAny_pyIter_list pt.isList ⟨s1.heap.objs.size, [s1.heap.objs.size], _, _, H1, rfl, I1.kept (t' := s1.toks) fun b o e => Heap.get?_push_of_some _ e, turn_list a _,
    ⟨_, Heap.get?_push_size _ rfl, rfl, rfl⟩, fun b hb => ?_, q, fun i h tn b hb => ?_⟩
  · rw [List.mem_singleton.mp hb]
    exact I1.fpOk (Nat.le_refl _) fresh
  · rw [List.mem_singleton.mp hb]
    obtain ⟨o, ho, hc, hd⟩ := id tn
    exact not_gen ho (by unfold Obj.genNumber?; rw [hc, hd]; simp)
end
end Lk
/-! Kg15 -/
namespace Lk
open PySem PySem.Spec PyProof.Rows L2
open GenW
abbrev nm_walked : List Str := ["self", "place", "taken", "pairs", "claim", "things", "thing", "later", "rest"]
theorem sc_walked : GScope nm_walked ["self", "place", "taken", "pairs"] (defScope sMatWalked) := ⟨rfl, rfl, rfl, by decide +kernel, rfl, by decide +kernel, by decide +kernel⟩
theorem pn_walked : PlainNames (defScope sMatWalked) := by decide +kernel
theorem room_in2 {k : Nat} {A : Around} (r : Room (k + 1) A) : Room k A.in1.in1 :=
  ⟨r.hd, by have := r.dp; show A.depth + 3 * k + 5 < _; omega, by have := r.un; show A.units + 1 + 1 + 16 * k + 200 < _; omega⟩
section
variable {X : Cx} (Kf : PySem.W.Frag)
theorem call_lenK (h : X.K = Kf) : CallR X (.builtin "len") (fun xs H Q => ∃ x n, xs = [x] ∧ LenV Kf x H n ∧ Q (.int n) H) := by subst h; exact call_len
theorem call_tupleK (h : X.K = Kf) : CallR X (.type "tuple") (fun xs H Q => ∃ p ys, xs = [.ref p] ∧ ((SqL Kf H p ys ∧ ∀ l, H l = none → Q (.ref l) (upd H l (.tup ys))) ∨ (SqT Kf H p ys ∧ Q (.ref p) H))) := by subst h; exact call_tuple_of
theorem cr_sortedTupK (h : X.K = Kf) (hcalm : X.calm = true) : CallR X (.builtin "sorted") (fun vs H Q => ∃ (a : Addr) (ks : List Str), vs = [.ref a] ∧ SqT Kf H a (ks.map V.str) ∧ ks.length < 64 ∧ ∀ ys p, ys.Perm ks → sortedS ys = true → H p = none → Q (.ref p) (upd H p (.lst (ys.map V.str)))) := by subst h; exact cr_sortedTup hcalm
theorem op_catAK (h : X.K = Kf) : OpR X (binaryOp .Add) (rCatA Kf) := by subst h; exact op_catA
theorem pig_listK {tg l : Expr} {tl : TE} (h : X.K = Kf) (hl : PE X l tl) : PIG X tg l (iList Kf tl) := by subst h; exact pig_list hl
end
/-- a list of pairs -/
structure PairsAt (H : Hp) (p : Addr) (x : List (Str × Str)) : Prop where
  ex : ∃ L : List (Addr × (Str × Str)), H p = some (.lst (L.map fun q => V.ref q.1)) ∧ L.map (·.2) = x ∧ ∀ q ∈ L, H q.1 = some (.tup [.str q.2.1, .str q.2.2])
def ItP (x : List (Str × Str)) (H : Hp) (v : V) : Prop := ∃ p, v = .ref p ∧ PairsAt H p x
def RlM (P : Program) (w : World) (K : PySem.W.Frag) (m d : Addr) (o : Op) (T : List Str) (H H1 : Hp) : Prop := SameX d H H1 ∧ MatAt P w K H1 m d o T
/-- what is asked of walked when n places are left at most -/
def spWalked (P : Program) (w : World) (K : PySem.W.Frag) (m d : Addr) (o : Op) (T : List Str) (n : Nat) : List V → Hp → (List (List (Str × Str)) → Hp → Prop) → Prop := fun vs H R =>
  ∃ (place k : Nat) (tk : List Str) (q : Addr), vs = [.ref m, .int place, .ref q, .int k] ∧ MatAt P w K H m d o T ∧ place ≤ o.length ∧ o.length ≤ place + n ∧ H q = some (.tup (tk.map V.str)) ∧ tk.Sublist T ∧ Ld.W (o.drop place) tk k ≠ [] ∧ R (Ld.W (o.drop place) tk k) H
/-- what comes of one thing -/
def one (c t : Str) (r : Op) (tk : List Str) (k : Nat) : List (List (Str × Str)) := if t ∉ tk ∧ 0 < k then (Ld.W r (t :: tk) (k - 1)).map ((c, t) :: ·) else []
def part (c : Str) (ts : List Str) (r : Op) (tk : List Str) (k : Nat) : List (List (Str × Str)) := ts.flatMap fun t => one c t r tk k
theorem W_part {c : Str} {ts : List Str} {r : Op} {tk : List Str} {k : Nat} : Ld.W ((c, ts) :: r) tk k = part c ts r tk k ++ Ld.W r tk k := by
  cases k with
  | zero =>
    have e : part c ts r tk 0 = [] := by
      unfold part one
      rw [List.flatMap_eq_nil_iff]
      intro t _
      rw [if_neg (fun z => absurd z.2 (Nat.lt_irrefl 0))]
    rw [e]; rfl
  | succ k =>
    show (ts.flatMap fun t => if t ∈ tk then [] else (Ld.W r (t :: tk) k).map ((c, t) :: ·)) ++ Ld.W r tk (k + 1) = _
    congr 1
    unfold part
    congr 1
    funext t
    unfold one
    by_cases h : t ∈ tk
    · rw [if_pos h, if_neg fun z => z.1 h]
    · rw [if_neg h, if_pos ⟨h, Nat.succ_pos k⟩, Nat.add_sub_cancel]
theorem part_cons {c t : Str} {ts : List Str} {r : Op} {tk : List Str} {k : Nat} : part c (t :: ts) r tk k = one c t r tk k ++ part c ts r tk k := by unfold part; rw [List.flatMap_cons]
theorem W_lenk : ∀ (o : Op) (tk : List Str) (k : Nat) (z : List (Str × Str)), z ∈ Ld.W o tk k → z.length = k
  | [], _, 0, z, h => by rw [show Ld.W ([] : Op) _ 0 = [[]] from rfl] at h; rw [List.mem_singleton.mp h]; rfl
  | [], _, _ + 1, z, h => by cases h
  | (c, ts) :: r, tk, k, z, h => by
    rw [W_part] at h
    rcases List.mem_append.mp h with h | h
    · unfold part at h
      obtain ⟨t, _, h⟩ := List.mem_flatMap.mp h
      unfold one at h
      split at h
      · rename_i hk
        obtain ⟨y, hy, rfl⟩ := List.mem_map.mp h
        have := W_lenk r (t :: tk) (k - 1) y hy
        rw [List.length_cons, this]
        omega
      · cases h
    · exact W_lenk r tk k z h
theorem gts_no {G : Gf} {st : List Stmt} : GSts G st (fun _ _ _ _ _ => False) := ⟨fun ip c fs K J gd lv D l H0 s0 σ H d s _ _ _ _ _ z => z.elim⟩
section
variable {P : Program} {w : World} {K : PySem.W.Frag} {mg : Str → Option Value} {base : Heap} {f : Addr}
theorem body_walked {fd : FuncData} {n : Nat} {m d : Addr} {o : Op} {T : List Str} (c : Cls K (cMat K)) (me : Meth K (cMat K) "walked" f) (Tx : Txt K mg) (cH : C8.Met P w K mg base 7 (cMat K) "has" (spHas P w K) []) (bd : Binds K fd ["self", "place", "taken", "pairs"] [])
    (ihw : ∀ n', n = n' + 1 → GDef P w K mg base (7 + 2 * n') f fd ["self", "place", "taken", "pairs"] ItP (RlM P w K m d o T) (spWalked P w K m d o T n'))
    (cdv : Value) (Aw : Around) (outer : List Env) (L : Nat) (a : Addr) (g : Nat) (vs : List V) (H : Hp) (R : List (List (Str × Str)) → Hp → Prop) (Fx : (gfOf P w K mg base nm_walked "Matcher.walked" sMatWalked f ItP (RlM P w K m d o T) cdv Aw outer L a g).Fx)
    (hr : Room (7 + 2 * n) (Aw.deeper (envOfC "Matcher.walked" (defScope sMatWalked) L f cdv))) (hsp : spWalked P w K m d o T n vs H R) :
    ∃ li, R li H ∧ ∃ t, GSts (gfOf P w K mg base nm_walked "Matcher.walked" sMatWalked f ItP (RlM P w K m d o T) cdv Aw outer L a g) (defBody sMatWalked) t ∧
      ∀ H0, (∀ b u, H b = some u → H0 b = some u) → t { nx := fun l H0 _ H2 => l = [] ∧ RlM P w K m d o T H0 H2, rt := fun l H0 v H2 => l = [] ∧ v = .non ∧ RlM P w K m d o T H0 H2 } li H0 (start nm_walked vs) H0 := by
  obtain ⟨place, k, tk, q, rfl, hm, h1, h2, hq, hs, hW, hR⟩ := hsp
  refine ⟨_, hR, ?_⟩
  -- the place behind the last claim
  have last : place = o.length → ∀ {Hw : Hp} {x4 x5 x6 x7 x8 : Option V}, MatAt P w K Hw m d o T → uThen (uYield (G := gfOf P w K mg base nm_walked "Matcher.walked" sMatWalked f ItP (RlM P w K m d o T) cdv Aw outer L a g) (tLst tNil)) uNil { nx := fun l H0 _ H2 => l = [] ∧ RlM P w K m d o T H0 H2, rt := fun l H0 v H2 => l = [] ∧ v = .non ∧ RlM P w K m d o T H0 H2 }
      (Ld.W (o.drop place) tk k) Hw [some (.ref m), some (.int place), some (.ref q), some (.int k), x4, x5, x6, x7, x8] Hw := fun hpl Hw x4 x5 x6 x7 x8 hm => by
    have e0 : o.drop place = [] := List.drop_of_length_le (Nat.le_of_eq hpl.symm)
    rw [e0] at hW ⊢
    have ek : k = 0 := by
      cases k with
      | zero => rfl
      | succ k => exact absurd rfl hW
    subst ek
    refine ⟨by show 0 ≤ sizeLine; decide, fun p hp => ⟨[], [], rfl, ⟨p, rfl, [], upd_same, rfl, fun q hq => by cases hq⟩, ⟨Same.x (Same.upd hp), hm.same (Same.upd hp)⟩, fun H2 h2 => ⟨rfl, fun _ _ _ e => e, (hm.same (Same.upd hp)).same h2⟩⟩⟩
  cases n with
  | zero =>
    have hpl : place = o.length := by omega
    refine ⟨_, gts_cons (gt_if (fun s0 H0 => pt_cmpR op_eq (pv 1) (pe_callB (call_lenK K rfl) (by rfl) Tx.len boot_len (pa_cons (pe_fldK K rfl (pv 0) rfl) pa_nil)) (nomark _)) (gts_cons (gt_yield Fx (fun s0 H0 => pe_lst pa_nil) rfl rfl) gts_nil) gts_no) gts_nil, ?_⟩
    intro Hw hsub
    have hm := hm.same hsub
    obtain ⟨dx, op, m1, Lo, m2, eo, m3⟩ := hm.ex
    have hLl : Lo.length = o.length := by rw [← eo]; simp
    refine ⟨_, rfl, _, rfl, m, _, dx, _, _, rfl, m1, Tx.clMat, Tx.naOptions, rfl, .ref op, Lo.length, rfl, .inl ⟨_, SqL.of m2, by simp⟩, rfl, _, rfl, ?_⟩
    rw [decide_eq_true (by rw [hpl, hLl])]
    exact iteT (last hpl hm)
  | succ n =>
  have F := ihw n rfl
  have nc := plain_noc (qual := "Matcher.walked") (L := L) (f := f) (cd := cdv) pn_walked
  have hr1 : Room (7 + 2 * n + 1) (Aw.deeper (envOfC "Matcher.walked" (defScope sMatWalked) L f cdv)) := hr.mono (by omega)
  have hr2 : Room (7 + 2 * n + 1) (Aw.deeper (envOfC "Matcher.walked" (defScope sMatWalked) L f cdv)).in1.in1 := room_in2 hr
  have hr3 : Room (7 + 2 * n + 1) (Aw.deeper (envOfC "Matcher.walked" (defScope sMatWalked) L f cdv)).in1 := (Room.in1 (k := 7 + 2 * n + 1) hr).mono (by omega)
  have hfr := Around.frames_deeper (env := envOfC "Matcher.walked" (defScope sMatWalked) L f cdv) Fx.frames
  have h7 : 7 ≤ 7 + 2 * (n + 1) := by omega
  refine ⟨_, gts_cons (gt_if (fun s0 H0 => pt_cmpR op_eq (pv 1) (pe_callB (call_lenK K rfl) (by rfl) Tx.len boot_len (pa_cons (pe_fldK K rfl (pv 0) rfl) pa_nil)) (nomark _)) (gts_cons (gt_yield Fx (fun s0 H0 => pe_lst pa_nil) rfl rfl) gts_nil)
    (gts_cons (gt_ps fun s0 H0 => ps_asg (pe_ix (ix_listK K rfl) (pe_fldK K rfl (pv 0) rfl) (pv 1) (fun _ _ => rfl)) (pg_n2 K (i := 4) (j := 5) rfl rfl sc_walked.nd rfl rfl (by first | exact Or.inl rfl | exact Or.inr rfl) (by first | exact Or.inl rfl | exact Or.inr rfl) (by first | exact Or.inr rfl | exact Or.inl rfl) (by first | exact Or.inr rfl | exact Or.inl rfl)))
    (gts_cons (gt_for Fx (fun s0 H0 => pig_listK K rfl (pv 5)) (fun s0 H0 => (pg_name (i := 6) sc_walked.nd rfl (Or.inl rfl)))
      (gts_cons (gt_ps fun s0 H0 => ps_set sc_walked.nd (i := 7) rfl (Or.inl rfl) (pe_callTy (call_tupleK K rfl) (by rfl) Tx.tuple boot_tuple (pa_cons (pe_callB (cr_sortedTupK K rfl rfl) (by rfl) Tx.sorted boot_sorted (pa_cons (pe_op (op_catAK K rfl) (pv 2) (pe_tup (pa_cons (pv 6) pa_nil))) pa_nil)) pa_nil)))
      (gts_cons (gt_if (fun s0 H0 => PW.pt (pw_and (pt_cmpR (op_notInK K rfl) (pv 6) (pv 2) rfl) (pw_and (pt_cmpR op_gt (pv 3) pe_int (nomark _)) (pw_and1 (pt_val (C8.pe_mt cH hr h7 (pv 0) (pa_cons (pe_op op_add (pv 1) pe_int) (pa_cons (pv 7) (pa_cons (pe_op op_sub (pv 3) pe_int) pa_nil)))))))))
        (gts_cons (gt_forgen Fx hr (fun s0 H0 => mkg_meth (pv 0) c me F hr1 hr3 rfl bd (pa_cons (pe_op op_add (pv 1) pe_int) (pa_cons (pv 7) (pa_cons (pe_op op_sub (pv 3) pe_int) pa_nil))) nc (fun _ _ z => z))
          (fun s0 H0 => pgk_name (i := 8) sc_walked.nd rfl rfl nc) (fun s0 H0 => (pq_cat (pq_lst (paq_cons (pq_tup (paq_cons (pq_var (i := 4) rfl rfl) (paq_cons (pq_var (i := 6) rfl rfl) paq_nil))) paq_nil)) (pq_var (i := 8) rfl rfl)).k) rfl rfl) gts_nil) gts_nil)
      gts_nil)))
    (gts_cons (gt_if (fun s0 H0 => pt_val (C8.pe_mt cH hr h7 (pv 0) (pa_cons (pe_op op_add (pv 1) pe_int) (pa_cons (pv 2) (pa_cons (pv 3) pa_nil)))))
      (gts_cons (gt_yieldFrom Fx hr (fun s0 H0 => mkg_meth (pv 0) c me F hr1 hr2 rfl bd (pa_cons (pe_op op_add (pv 1) pe_int) (pa_cons (pv 2) (pa_cons (pv 3) pa_nil))) nc (fun _ _ z => z)) rfl) gts_nil) gts_nil)
    gts_nil)))) gts_nil, ?_⟩
  intro Hw hsub
  have hm := hm.same hsub
  have hq := hsub _ _ hq
  clear hsub
  obtain ⟨dx, op, m1, Lo, m2, eo, m3⟩ := hm.ex
  have hLl : Lo.length = o.length := by rw [← eo]; simp
  refine ⟨_, rfl, _, rfl, m, _, dx, _, _, rfl, m1, Tx.clMat, Tx.naOptions, rfl, .ref op, Lo.length, rfl, .inl ⟨_, SqL.of m2, by simp⟩, rfl, _, rfl, ?_⟩
  by_cases hpl : place = o.length
  · rw [decide_eq_true (by rw [hpl, hLl])]
    exact iteT (last hpl hm)
  clear last
  have hlt : place < o.length := by omega
  rw [decide_eq_false (fun e => hpl (by injection e with e; omega))]
  refine iteF ?_
  obtain ⟨y, hy⟩ : ∃ y, Lo[place]? = some y := ⟨Lo[place]'(by omega), List.getElem?_eq_getElem _⟩
  have hoy : o[place]? = some y.2.2 := by rw [← eo, List.getElem?_map, hy]; rfl
  have hdrop : o.drop place = y.2.2 :: o.drop (place + 1) := by
    rw [List.drop_eq_getElem_cons hlt]
    congr 1
    rw [List.getElem?_eq_getElem hlt] at hoy
    exact Option.some.inj hoy
  obtain ⟨ti, fl, cl, ts⟩ := y
  have hsubl : ts.Sublist T := hm.ok.sub _ (mem_of_get hoy)
  obtain ⟨m4, m5⟩ := m3 _ (mem_of_get hy)
  have m4 : Hw ti = some (.tup [.str cl, .ref fl]) := m4
  have m5 : Hw fl = some (.lst (ts.map V.str)) := m5
  have htk5 : tk.length ≤ 5 := Nat.le_trans hs.length_le hm.ok.tlen
  rw [hdrop]
  rw [hdrop] at hW
  generalize hr0 : o.drop (place + 1) = r
  rw [hr0] at hW
  refine ⟨_, rfl, m, _, dx, _, _, rfl, m1, Tx.clMat, Tx.naOptions, rfl, _, rfl, op, _, _, _, rfl, rfl, SqL.of m2, atI_nat (by rw [List.getElem?_map, hy]; rfl), ti, _, rfl, SqT.of m4, rfl, _, _, rfl, _, _, rfl, rfl, ?_⟩
  clear hpl hdrop hoy
  have kpx : ∀ {Hc b' u}, SameX d Hw Hc → Hw b' = some u → (∀ φ, u ≠ .ext φ) → Hc b' = some u := fun a h hne => hm.keep a h hne
  refine ⟨_, rfl, fl, rfl, ⟨_, SqL.of m5⟩, ?_⟩
  refine ⟨fun i mm l H0 σ H => mm = ts.length - i ∧ i ≤ ts.length ∧ l = part cl (ts.drop i) r tk k ++ Ld.W r tk k ∧ SameX d H0 H ∧ SameX d Hw H ∧ MatAt P w K H m d o T ∧ ∃ x6 x7 x8, σ = [some (.ref m), some (.int place), some (.ref q), some (.int k), some (.str cl), some (.ref fl), x6, x7, x8],
    ⟨ts.length, rfl, Nat.zero_le _, by rw [List.drop_zero]; exact W_part, fun _ _ _ e => e, fun _ _ _ e => e, hm, _, _, _, rfl⟩, ?_⟩
  rintro i mm l H0 σ H1 ⟨rfl, hi, rfl, a1, a2, k1, x6, x7, x8, rfl⟩
  have mm1 := kpx a2 m1 (by intro φ z; cases z)
  have qt := kpx a2 hq (by intro φ z; cases z)
  have ft := kpx a2 m5 (by intro φ z; cases z)
  by_cases hie : i = ts.length
  · refine .inl ⟨⟨_, SqL.of ft, by rw [List.length_map]; omega⟩, ?_⟩
    subst hie
    have el : part cl (ts.drop ts.length) r tk k ++ Ld.W r tk k = Ld.W r tk k := by rw [List.drop_length]; rfl
    rw [el]
    refine ⟨_, rfl, m, dx, _, rfl, mm1, rfl, _, rfl, _, _, rfl, rfl, _, rfl, _, rfl, m, d, o, T, place + 1, k, tk, q, rfl, k1, by omega, qt, hs, fun H2 s2 k2 => ?_⟩
    have a3 : SameX d H0 H2 := SameX.trans a1 s2
    have a4 : SameX d Hw H2 := SameX.trans a2 s2
    rw [hr0]
    by_cases hb : Ld.W r tk k = []
    · rw [decide_eq_false (p := Ld.W r tk k ≠ []) (fun z => z hb)]
      refine ⟨_, rfl, iteF ⟨hb, a3, k2⟩⟩
    · rw [decide_eq_true (p := Ld.W r tk k ≠ []) hb]
      refine ⟨_, rfl, iteT ?_⟩
      refine ⟨_, rfl, m, dx, _, rfl, kpx a4 m1 (by intro φ z; cases z), rfl, _, rfl, _, _, rfl, rfl, _, rfl, _, rfl, place + 1, k, tk, q, rfl, k2, by omega, by omega, kpx a4 hq (by intro φ z; cases z), hs, by rw [hr0]; exact hb, ?_⟩
      rw [hr0]
      refine ⟨fun li l H0 H => li = l ∧ SameX d H0 H, ⟨rfl, a3⟩, ?_, ?_⟩
      · rintro l H0 H ⟨rfl, b1⟩ H3 b2
        exact ⟨rfl, SameX.trans b1 b2.1, b2.2⟩
      · rintro z r2 l H0 H ⟨rfl, b1⟩ y H3 b2 hIt
        exact ⟨z, r2, rfl, hIt, ⟨SameX.trans b1 b2.1, b2.2⟩, fun H4 h4 => ⟨rfl, fun _ _ _ e => e⟩⟩
  · have hil : i < ts.length := by omega
    obtain ⟨t, ht⟩ : ∃ t, ts[i]? = some t := ⟨ts[i], List.getElem?_eq_getElem hil⟩
    have hdi : ts.drop i = t :: ts.drop (i + 1) := by
      rw [List.drop_eq_getElem_cons hil]
      congr 1
      rw [List.getElem?_eq_getElem hil] at ht
      exact Option.some.inj ht
    have htT : t ∈ T := hsubl.subset (mem_of_get ht)
    refine .inr ⟨⟨_, .str t, SqL.of ft, by rw [List.getElem?_map, ht]; rfl⟩, fun l' H0' σ' H' => i + 1 ≤ ts.length ∧ l' = part cl (ts.drop (i + 1)) r tk k ++ Ld.W r tk k ∧ SameX d H0' H' ∧ SameX d Hw H' ∧ MatAt P w K H' m d o T ∧ ∃ x6 x7 x8, σ' = [some (.ref m), some (.int place), some (.ref q), some (.int k), some (.str cl), some (.ref fl), x6, x7, x8],
      fun l' H0' σ' H' z => ⟨ts.length - (i + 1), by omega, rfl, z⟩, ?_⟩
    rintro x H' ⟨rfl, hx⟩
    obtain rfl : x = .str t := by
      have e := hx _ (SqL.of ft)
      rw [List.getElem?_map, ht] at e
      exact (Option.some.inj e).symm
    refine ⟨_, rfl, _, rfl, by show 1 ≤ sizeLine; decide, fun b1 hb1 => ?_⟩
    refine catA_read (upd_keep qt hb1) upd_same (by rw [List.length_map]; omega) fun p2 H3 s3 hp2 => ?_
    refine ⟨p2, tk ++ [t], rfl, SqT.of (by rw [hp2]; simp), by simp; omega, fun zs p3 hperm hso hp3 => ?_⟩
    refine ⟨p3, _, rfl, .inl ⟨SqL.of upd_same, fun p4 hp4 => ?_⟩⟩
    have s4 : Same H' (upd (upd H3 p3 (.lst (zs.map V.str))) p4 (.tup (zs.map V.str))) := Same.upd' (Same.upd' ((Same.upd hb1).trans s3) hp3) hp4
    have z4 : (upd (upd H3 p3 (.lst (zs.map V.str))) p4 (.tup (zs.map V.str))) p4 = some (.tup (zs.map V.str)) := upd_same
    revert s4 z4
    generalize upd (upd H3 p3 (.lst (zs.map V.str))) p4 (.tup (zs.map V.str)) = H4
    intro s4 z4
    clear hp4 hp3 hp2 s3 hb1 hx
    have a3 : SameX d H0 H4 := SameX.trans a1 (Same.x s4)
    have a4 : SameX d Hw H4 := SameX.trans a2 (Same.x s4)
    have k4 := k1.same s4
    have skip : ∀ {H5 x6 x7 x8}, one cl t r tk k = [] → SameX d H0 H5 → SameX d Hw H5 → MatAt P w K H5 m d o T → i + 1 ≤ ts.length ∧ part cl (ts.drop i) r tk k ++ Ld.W r tk k = part cl (ts.drop (i + 1)) r tk k ++ Ld.W r tk k ∧ SameX d H0 H5 ∧ SameX d Hw H5 ∧ MatAt P w K H5 m d o T ∧
        ∃ y6 y7 y8, [some (V.ref m), some (.int place), some (.ref q), some (.int k), some (.str cl), some (.ref fl), x6, x7, x8] = [some (.ref m), some (.int place), some (.ref q), some (.int k), some (.str cl), some (.ref fl), y6, y7, y8] := fun {H5 x6 x7 x8} e b1 b2 b3 => by
      refine ⟨by omega, ?_, b1, b2, b3, _, _, _, rfl⟩
      rw [hdi, part_cons, e]; rfl
    refine ⟨_, rfl, _, rfl, q, _, rfl, .inr (SqT.of (s4 _ _ qt)), rfl, flat_strs _, _, rfl, ?_⟩
    rw [inV_strs]
    by_cases htk : t ∈ tk
    · rw [decide_eq_true htk]
      refine iteF (iteF (skip ?_ a3 a4 k4))
      unfold one
      rw [if_neg fun z => z.1 htk]
    rw [decide_eq_false htk]
    refine iteT ?_
    refine ⟨_, rfl, _, _, rfl, rfl, _, rfl, ?_⟩
    by_cases hk0 : k = 0
    · rw [decide_eq_false (p := (0 : Int) < (k : Int)) (by omega)]
      refine iteF (iteF (skip ?_ a3 a4 k4))
      unfold one
      rw [if_neg fun z => absurd z.2 (by omega)]
    have hk : 0 < k := by omega
    rw [decide_eq_true (p := (0 : Int) < (k : Int)) (by omega)]
    refine iteT ?_
    have ezs := sorted_tk hm.ok.t hs htT htk hperm hso
    have hzsT : zs.Sublist T := by rw [ezs]; exact List.filter_sublist
    have hmem : ∀ x, x ∈ zs ↔ x ∈ t :: tk := fun x => by
      rw [hperm.mem_iff, List.mem_append, List.mem_singleton, List.mem_cons]; exact Or.comm
    have eW : ∀ j, Ld.W r zs j = Ld.W r (t :: tk) j := fun j => Ld.W_congr r j hmem
    have ek : ((k : Int) - 1) = ((k - 1 : Nat) : Int) := by omega
    refine ⟨_, rfl, m, dx, _, rfl, s4 _ _ mm1, rfl, _, rfl, _, _, rfl, rfl, _, rfl, _, rfl, _, _, rfl, rfl, m, d, o, T, place + 1, k - 1, zs, p4, by rw [← ek]; rfl, k4, by omega, z4, hzsT, fun H5 s5 k5 => ?_⟩
    have a5 : SameX d H0 H5 := SameX.trans a3 s5
    have a6 : SameX d Hw H5 := SameX.trans a4 s5
    rw [hr0, eW]
    by_cases hb : Ld.W r (t :: tk) (k - 1) = []
    · rw [decide_eq_false (p := Ld.W r (t :: tk) (k - 1) ≠ []) (fun z => z hb)]
      refine ⟨_, rfl, iteF (skip ?_ a5 a6 k5)⟩
      unfold one
      rw [if_pos ⟨htk, hk⟩, hb]; rfl
    rw [decide_eq_true (p := Ld.W r (t :: tk) (k - 1) ≠ []) hb]
    refine ⟨_, rfl, iteT ?_⟩
    have hone : one cl t r tk k = (Ld.W r (t :: tk) (k - 1)).map ((cl, t) :: ·) := by
      unfold one
      rw [if_pos ⟨htk, hk⟩]
    refine ⟨_, rfl, m, dx, _, rfl, kpx a6 m1 (by intro φ z; cases z), rfl, _, rfl, _, _, rfl, rfl, _, rfl, _, rfl, _, _, rfl, rfl, place + 1, k - 1, zs, p4, by rw [← ek]; rfl, k5, by omega, by omega, k4.keep s5 z4 (by intro φ z; cases z), hzsT, by rw [hr0, eW]; exact hb, ?_⟩
    rw [hr0, eW, hdi, part_cons, hone]
    have hk6 : k - 1 ≤ 5 := by
      have h8 : ¬ r.length < k - 1 := fun z => hb (Ld.W_long _ _ _ z)
      have h9 : r.length ≤ 5 := by rw [← hr0, List.length_drop]; have := hm.ok.olen; omega
      omega
    refine ⟨fun li l H0 σ H => l = li.map ((cl, t) :: ·) ++ (part cl (ts.drop (i + 1)) r tk k ++ Ld.W r tk k) ∧ (∀ z ∈ li, z.length = k - 1) ∧ SameX d H0 H ∧ SameX d Hw H ∧ ∃ x8, σ = [some (.ref m), some (.int place), some (.ref q), some (.int k), some (.str cl), some (.ref fl), some (.str t), some (.ref p4), x8], ⟨by rw [List.append_assoc], W_lenk _ _ _, a5, a6, _, rfl⟩, ?_, ?_⟩
    · rintro l H0 σ H ⟨rfl, _, b1, b2, x8, rfl⟩ H6 b3
      exact ⟨by omega, rfl, SameX.trans b1 b3.1, SameX.trans b2 b3.1, b3.2, _, _, _, rfl⟩
    · rintro z r2 l H0 σ H ⟨rfl, hlen, b1, b2, x8, rfl⟩ y H6 b3 ⟨pz, rfl, hpz⟩
      obtain ⟨Lz, z1, z2, z3⟩ := hpz.ex
      have hzl : Lz.length = k - 1 := by rw [← hlen z List.mem_cons_self, ← z2, List.length_map]
      refine ⟨_, rfl, _, rfl, by show 2 ≤ sizeLine; decide, fun q1 hq1 => ⟨by show 1 ≤ sizeLine; decide, fun q2 hq2 => ⟨_, rfl, q2, pz, [.ref q1], _, rfl, rfl, upd_same, upd_keep (upd_keep z1 hq1) hq2, by rw [List.length_map, hzl, sizeLine_eq]; show 1 + _ ≤ _; omega, fun q3 hq3 => ?_⟩⟩⟩
      have s7 : Same H6 (upd (upd (upd H6 q1 (.tup [.str cl, .str t])) q2 (.lst [.ref q1])) q3 (.lst ([V.ref q1] ++ Lz.map fun q => V.ref q.1))) := Same.upd' (Same.upd' (Same.upd hq1) hq2) hq3
      refine ⟨(cl, t) :: z, r2.map ((cl, t) :: ·) ++ (part cl (ts.drop (i + 1)) r tk k ++ Ld.W r tk k), rfl, ⟨q3, rfl, (q1, (cl, t)) :: Lz, upd_same, by rw [List.map_cons, z2], fun x hx => ?_⟩, ⟨SameX.trans (SameX.trans b1 b3.1) (Same.x s7), b3.2.same s7⟩, fun H8 h8 => ⟨rfl, fun x hx => hlen x (List.mem_cons_of_mem _ hx), fun _ _ _ e => e, SameX.trans (SameX.trans (SameX.trans b2 b3.1) (Same.x s7)) (Same.x h8), _, rfl⟩⟩
      rcases List.mem_cons.mp hx with rfl | hx
      · exact upd_keep (upd_keep upd_same hq2) hq3
      · exact s7 _ _ (z3 x hx)
/-- walked keeps its promise -/
theorem gdef_walked {fd : FuncData} {m d : Addr} {o : Op} {T : List Str} (F : FunD K "walked" "Matcher.walked" (defArgs sMatWalked) (defBody sMatWalked) (defScope sMatWalked) [] [] f fd) (c : Cls K (cMat K)) (me : Meth K (cMat K) "walked" f) (Tx : Txt K mg) (cH : C8.Met P w K mg base 7 (cMat K) "has" (spHas P w K) []) :
    ∀ n, GDef P w K mg base (7 + 2 * n) f fd ["self", "place", "taken", "pairs"] ItP (RlM P w K m d o T) (spWalked P w K m d o T n) := by
  have bd : Binds K fd ["self", "place", "taken", "pairs"] [] := F.bindsN (fun _ _ _ _ _ _ us hl => match us, hl with | [_, _, _, _], _ => rfl)
  intro n
  induction n with
  | zero => exact (gdef_of F sc_walked pn_walked (fun _ _ _ _ _ _ us hl => match us, hl with | [_, _, _, _], _ => rfl) (fun vs H R h => by obtain ⟨_, _, _, _, rfl, _⟩ := h; rfl) fun cdv Aw outer L a g vs H R Fx hr hsp => body_walked c me Tx cH bd (fun n' e => by cases e) cdv Aw outer L a g vs H R Fx hr hsp).1
  | succ n ih => exact (gdef_of F sc_walked pn_walked (fun _ _ _ _ _ _ us hl => match us, hl with | [_, _, _, _], _ => rfl) (fun vs H R h => by obtain ⟨_, _, _, _, rfl, _⟩ := h; rfl) fun cdv Aw outer L a g vs H R Fx hr hsp => body_walked c me Tx cH bd (fun n' e => by cases e; exact ih) cdv Aw outer L a g vs H R Fx hr hsp).1
end
end Lk
/-! Kl6 -/
namespace Lk
open PySem PySem.Spec PyProof.Rows L2 GenW
section
variable {P : Program} {w : World} {A : Around} {E : Value → List Addr → Shared → Prop} {d : List Addr} {s : Shared}
theorem lc_call_function {a : Addr} {args : Args} {o : Obj} {fd : FuncData} {body : List Stmt} {RR : Result → List Addr → Shared → Prop} (hroom : A.depth < recursionLimit) (ho : s.heap.get? a = some o) (hd' : o.data = .func fd) (hco : fd.scope.isCoroutine = false) (hgen : fd.scope.isGenerator = false) (hbody : fd.body = .stmts body) (hcd : s.heap.CodeRec fd.code fd.qualname)
    (h : wpAny (model P w) A.in1 (bindArgs fd args) (fun binds s1 => wpAny (model P w) A.in1 (newFunctionEnv fd.scope fd.globals fd.closure binds (fd.qualname ++ ".<locals>.") (some a) fd.code none fd.builtins) (fun env s2 => s2.heap.NoLimit ∧ LC P w A (.func body env) RR d s2) (fun x s' => RR (.error x) d s') s1) (fun x s' => RR (.error x) d s') s) :
    LC P w A (.call (.ref a) args) RR d s := by
  refine lc_tree (lw_of ?_)
  show wpAny (model P w) A.in1 (callAny (.ref a) args) _ _ s
  obtain ⟨c, oc, vs, tq, hc, hoc, hdc, hq⟩ := hcd
  unfold callAny
  refine wpAny_bind (wpAny_load ho ?_)
  simp only [hd', callFunction, hco, hgen, hbody, hc]
  rw [hc] at h
  refine wpAny_bind (m := field (.ref c) 1) (wpAny_field hoc hdc hq (wpAny_bind (wpAny_pure (wpAny_bind (wpAny_mono h (fun binds s1 h1 => ?_) fun _ _ q => q)))))
  refine wpAny_bind (wpAny_mono h1 (fun env s2 h2 => ?_) fun _ _ q => q)
  exact wpAny_bind (wpAny_enterFrame h2.1 hroom (wpAny_pure ⟨rfl, h2.2⟩))
theorem lc_func {body : List Stmt} {env : Env} {RR : Result → List Addr → Shared → Prop} (h : LW P w (A.deeper env) (execs body env) (fun fl d1 s1 => RR (.ok (.ret (match fl with | .ret v => v | _ => .none))) d1 s1) (fun _ _ _ => False) d s) : LC P w A (.func body env) RR d s := by
  refine lc_tree ?_
  show LW _ _ (A.deeper env) (do point; match ← (execs body env).onRaise (leaving env) with | .ret v => ret v | _ => ret .none) _ _ d s
  refine lw_bindw (wpAny_point (lw_bind (lw_onRaise (lw_mono h (fun fl d1 s1 q => ?_) fun _ _ _ q => q.elim))))
  cases fl <;> exact lw_pure q
/-- one turn of a loop -/
theorem lc_turn {tg : Expr} {it : Value} {body : List Stmt} {env : Env} {RR : Result → List Addr → Shared → Prop}
    (h : LW P w A (pyNext it) (fun r d1 s1 => match r with
      | none => RR (.ok .next) d1 s1
      | some v => wpAny (model P w) A (letOwnedTupleGo tg it v) (fun _ s2 => wpAny (model P w) A (assign tg env v) (fun _ s3 => LW P w A (execs body env) (fun fl d4 s4 => match fl with
            | .next | .cont => LC P w A (.forLoop tg it body [] env) RR d4 s4
            | .brk => RR (.ok .next) d4 s4
            | .ret v => RR (.ok (.ret v)) d4 s4) (fun _ _ _ => False) d1 s3) (fun _ _ => False) s2) (fun _ _ => False) s1) (fun _ _ _ => False) d s) : LC P w A (.forLoop tg it body [] env) RR d s := by
  have hA : A.under (.forLoop tg it body [] env) = A := Around.under_of_weight rfl rfl
  refine lc_tree ?_
  rw [hA]
  show LW _ _ A ((forTurn tg it body [] env).onRaise (fun x => do noteFrame x env; theTreesLotGoes x)) _ _ d s
  refine lw_onRaise (lw_mono (E := fun _ _ _ => False) ?_ (fun _ _ _ q => q) fun _ _ _ q => q.elim)
  unfold forTurn
  refine lw_bind (lw_standAt ?_)
  refine lw_bind (lw_onRaise (lw_mono h (fun r d1 s1 h1 => ?_) fun _ _ _ q => q.elim))
  cases r with
  | none =>
    refine lw_pure ⟨rfl, lc_tree ?_⟩
    show LW _ _ _ (pure (PySem.Fin.done .next)) _ _ d1 s1
    exact lw_pure h1
  | some v =>
    refine lw_bindw (wpAny_mono h1 (fun _ s2 h2 => ?_) fun _ _ q => q.elim)
    refine lw_bindw (wpAny_mono h2 (fun _ s3 h3 => ?_) fun _ _ q => q.elim)
    refine lw_bind (lw_mono h3 (fun fl d4 s4 q => ?_) fun _ _ _ q => q)
    cases fl with
    | next => exact lw_pure ⟨rfl, q⟩
    | cont => exact lw_pure ⟨rfl, q⟩
    | brk => exact lw_pure q
    | ret v => exact lw_pure q
/-- for, in a plain frame -/
theorem lw_For {tg iter : Expr} {body : List Stmt} {pos : Pos} {env : Env} {Q : Flow → List Addr → Shared → Prop} (hs : ∀ x, foldedSetIterable iter env x = pure x)
    (h : wpAny (model P w) A (eval iter env) (fun x s1 => wpAny (model P w) A (pyIter x) (fun it s2 => LC P w A (.forLoop tg it body [] env) (fun r d3 s3 => ∃ fl, r = .ok fl ∧ Q fl d3 s3) d s2) (fun _ _ => False) s1) (fun _ _ => False) s) : LW P w A (exec (.For tg iter body [] pos) env) Q (fun _ _ _ => False) d s := by
  rw [exec_For]
  refine lw_bind (lw_standAt ?_)
  refine lw_bindw (wpAny_mono h (fun x s1 h1 => ?_) fun _ _ q => q.elim)
  refine lw_bindw (wpAny_of_eq (hs x) ?_)
  refine lw_bind (lw_standAt ?_)
  refine lw_bindw (wpAny_holding (wpAny_mono h1 (fun it s2 h2 => ?_) fun _ _ q => q.elim))
  unfold runOwn
  refine lw_onRaise (E := fun _ _ _ => False) (lw_call (by simp) (lc_mono h2 fun r d3 s3 q => ?_))
  obtain ⟨fl, rfl, q⟩ := q
  exact lw_pure q
end
/-- a loud statement -/
structure LSt (X : Cx) (st : Stmt) (t : TS) : Prop where
  run : ∀ (pins : List (Addr × Obj)) (s : Shared) (σ : L2.St) (H : Hp) (d : List Addr) (D : L2.Ends), LI X pins σ H d s → t D σ H → LW X.prog X.w X.A (exec st X.env) (fun fl d1 s1 => SPL X pins D fl d1 s1) (fun _ _ _ => False) d s
structure LSts (X : Cx) (st : List Stmt) (t : TS) : Prop where
  run : ∀ (pins : List (Addr × Obj)) (s : Shared) (σ : L2.St) (H : Hp) (d : List Addr) (D : L2.Ends), LI X pins σ H d s → t D σ H → LW X.prog X.w X.A (execs st X.env) (fun fl d1 s1 => SPL X pins D fl d1 s1) (fun _ _ _ => False) d s
/-- a loud expression, a loud test -/
structure LPE (X : Cx) (e : Expr) (te : TE) : Prop where
  run : ∀ (pins : List (Addr × Obj)) (s : Shared) (σ : L2.St) (H : Hp) (d : List Addr) (Q : V → Hp → Prop), LI X pins σ H d s → te σ H Q → LW X.prog X.w X.A (eval e X.env) (fun u d1 s1 => ∃ x H1, LI X pins σ H1 d1 s1 ∧ RelV x u ∧ Q x H1) (fun _ _ _ => False) d s
structure LPT (X : Cx) (e : Expr) (tt : TT) : Prop where
  run : ∀ (pins : List (Addr × Obj)) (s : Shared) (σ : L2.St) (H : Hp) (d : List Addr) (Q : Bool → Hp → Prop), LI X pins σ H d s → tt σ H Q → LW X.prog X.w X.A (isTrue e X.env (eval e X.env)) (fun b d1 s1 => ∃ H1, LI X pins σ H1 d1 s1 ∧ Q b H1) (fun _ _ _ => False) d s
section
variable {X : Cx} {st : Stmt} {rest : List Stmt} {t u : TS} {e : Expr} {te : TE} {tt : TT} {pos : Pos}
/-- nothing leaves by an exception -/
abbrev NoX (X : Cx) : Prop := ∀ v s, ¬ X.xe v s
theorem lpe_of (hx : NoX X) (h : PE X e te) : LPE X e te := ⟨fun pins s σ H d Q I q => lw_of (wpAny_mono (h.run _ s σ H Q I.up q) (fun u s1 ⟨x, H1, I1, r, q1⟩ => ⟨x, H1, .of I1 I.dok.gen, r, q1⟩) fun v s1 z => hx v s1 z)⟩
theorem lpt_of (hx : NoX X) (h : PT X e tt) : LPT X e tt := ⟨fun pins s σ H d Q I q => lw_of (wpAny_mono (h.run _ s σ H Q I.up q) (fun b s1 ⟨H1, I1, q1⟩ => ⟨H1, .of I1 I.dok.gen, q1⟩) fun v s1 z => hx v s1 z)⟩
theorem ls_ps (hx : NoX X) (h : PS X st t) : LSt X st t := ⟨fun pins s σ H d D I q => lw_of (wpAny_mono (h.run _ s σ H D I.up q) (fun fl s1 z => spl_of I.dok.gen z) fun v s1 z => hx v s1 z)⟩
theorem lss_pss (hx : NoX X) {sts : List Stmt} (h : PSs X sts t) : LSts X sts t := ⟨fun pins s σ H d D I q => lw_of (wpAny_mono (h.run _ s σ H D I.up q) (fun fl s1 z => spl_of I.dok.gen z) fun v s1 z => hx v s1 z)⟩
theorem lss_nil : LSts X [] tNext := ⟨fun pins s σ H d D I q => lw_pure ⟨σ, H, I, q⟩⟩
theorem lss_cons (h1 : LSt X st t) (h2 : LSts X rest u) : LSts X (st :: rest) (tSeq t u) := by
  refine ⟨fun pins s σ H d D I q => ?_⟩
  rw [execs_cons]
  refine lw_bind (lw_mono (h1.run pins s σ H d { D with nx := u D } I q) (fun fl d1 s1 z => ?_) fun _ _ _ z => z)
  cases fl with
  | next =>
    obtain ⟨σ1, H1, I1, q1⟩ := z
    exact h2.run pins s1 σ1 H1 d1 D I1 q1
  | ret v => exact lw_pure z
  | brk => exact lw_pure z
  | cont => exact lw_pure z
theorem ls_if {c : Expr} {a b : List Stmt} {tc : TT} (hc : LPT X c tc) (ha : LSts X a t) (hb : LSts X b u) : LSt X (.If c a b pos) (tIfS tc t u) := by
  refine ⟨fun pins s σ H d D I q => ?_⟩
  show LW _ _ _ (standAt pos >>= fun _ => isTrue c X.env (eval c X.env) >>= fun b' => if b' then execs a X.env else execs b X.env) _ _ d s
  refine lw_bind (lw_standAt (lw_bind (lw_mono (hc.run pins s σ H d _ I q) (fun b' d1 s1 z => ?_) fun _ _ _ z => z)))
  obtain ⟨H1, I1, q1⟩ := z
  cases b' with
  | true => rw [if_pos rfl]; exact ha.run pins s1 σ H1 d1 D I1 q1
  | false => rw [if_neg Bool.false_ne_true]; exact hb.run pins s1 σ H1 d1 D I1 q1
end
end Lk
/-! Kl7 -/
namespace Lk
open PySem PySem.Spec PyProof.Rows L2 GenW
/-- a loud call's end -/
def CEL (outer : List Env) (P : Program) (w : World) (H : Hp) (s : Shared) (Q : VK) (u : Value) (d1 : List Addr) (s1 : Shared) : Prop :=
  ∃ v H1, s1.os = s.os ∧ AllBare s1.gens ∧ Un (frs outer) [] H H1 s.heap s1.heap ∧ HOk P w H1 s1.heap ∧ RelV v u ∧ Q v H1 ∧ DOk d1 H1 s1.heap
/-- a loud def's promise -/
structure LFn (P : Program) (w : World) (K : PySem.W.Frag) (mg : Str → Option Value) (base : Heap) (k : Nat) (f : Addr) (fd : FuncData) (ps : List Str) (sp : List V → Hp → VK → Prop) : Prop where
  len : ∀ vs H Q, sp vs H Q → vs.length = ps.length
  run : ∀ (A : Around) (outer : List Env) (s : Shared) (H : Hp) (d : List Addr) (args : Args) (us : List Value) (vs : List V) (Q : VK), Room k A → Env0 P w K mg base A outer s H → DOk d H s.heap → BindsTo s fd args (ps.zip us) → Vals vs us → sp vs H Q →
    LC P w A (.call (.ref f) args) (fun r d1 s1 => ∃ u, r = .ok (.ret u) ∧ CEL outer P w H s Q u d1 s1) d s
section
variable {P : Program} {w : World} {K : PySem.W.Frag} {mg : Str → Option Value} {base : Heap} {x qual : Str} {st : Stmt} {f : Addr} {N ps : List Str} {k : Nat} {sp : List V → Hp → VK → Prop}
theorem lfn_of {fd : FuncData} (F : FunD K x qual (defArgs st) (defBody st) (defScope st) [] [] f fd) (S : FnScope N ps (defScope st)) (len : ∀ vs H Q, sp vs H Q → vs.length = ps.length)
    (body : ∀ (cdv : Value) (A : Around) (outer : List Env) (s : Shared) (H : Hp) (vs : List V) (Q : VK), Room k (A.deeper (envOfC qual (defScope st) s.heap.objs.size f cdv)) → sp vs H Q →
      ∃ t, LSts (cxOf C8.CX0 P w K mg base N qual (defScope st) f cdv A outer s H C8.E0).nox (defBody st) t ∧ t { nx := fun _ H' => Q .non H', rt := Q } (start N vs) H) :
    LFn P w K mg base (k + 1) f fd ps sp := by
  refine ⟨len, fun A outer s H d args us vs Q hr e0 dk hb r hsp => ?_⟩
  obtain ⟨oc, od, dV, kV, doc, pm, an, cdv, ct, osl, rfl, lk, hcd, _, _⟩ := F.ex
  have hl := len _ _ _ hsp
  have KX : K.In s.heap := e0.mod.kin.keeps fun b o e => (e0.bs b o e).1
  have lim : s.heap.NoLimit := e0.mod.nolimit.keeps fun b o e => (e0.bs b o e).1
  have hkind : ∀ y ∈ ps.zip us, (defScope st).names.lookup y.1 = some .local ∨ ((defScope st).names.lookup y.1 = some .cell ∧ ((cellsFrom (s.heap.objs.size + 1) (defScope st).names []).lookup y.1).isSome = true) := fun ⟨n, v⟩ hy => by
    rcases S.par n (List.of_mem_zip hy).1 with q | q
    · exact .inl q
    · exact .inr ⟨q, PySem.W.cellsFrom_some _ _ _ (.inl q)⟩
  refine lc_call_function hr.depth (KX _ _ lk) rfl S.co S.gen rfl (PySem.W.codeRec_of KX hcd) (hb _ _ _ _ ?_)
  refine wpAny_newFunctionEnv_cells S.kind hkind fun env he s1 x => ?_
  subst he
  refine ⟨lim.keeps x.toInCall.keep, lc_func ?_⟩
  obtain ⟨t, ht, hq⟩ := body cdv A outer s H vs Q (hr.deeper _) hsp
  have I : Inv (cxOf C8.CX0 P w K mg base N qual (defScope st) f cdv A outer s H C8.E0) [] (start N vs) H s1 := inv_start S hr.hd e0 hl r x
  have J : LI (cxOf C8.CX0 P w K mg base N qual (defScope st) f cdv A outer s H C8.E0).nox [] (start N vs) H d s1 := ⟨I.wish _, fun b hb => let ⟨n, o, e, q⟩ := dk b hb; ⟨n, o, x.toInCall.keep b o e, q⟩⟩
  refine lw_mono (ht.run [] s1 (start N vs) H d _ J hq) (fun fl d2 s2 z => ?_) fun _ _ _ z => z
  cases fl with
  | ret u =>
    obtain ⟨v, σ', H', I', rv, q⟩ := z
    exact ⟨u, rfl, v, H', I'.inv.os, I'.inv.bare, I'.inv.base, I'.inv.hok, rv, q, I'.dok⟩
  | next =>
    obtain ⟨σ', H', I', q⟩ := z
    exact ⟨.none, rfl, .non, H', I'.inv.os, I'.inv.bare, I'.inv.base, I'.inv.hok, rfl, q, I'.dok⟩
  | brk => obtain ⟨_, _, _, q⟩ := z; exact q.elim
  | cont => obtain ⟨_, _, _, q⟩ := z; exact q.elim
end
section
variable {X : Cx} {k : Nat} {f : Addr} {fd : FuncData} {ps : List Str} {sp : List V → Hp → VK → Prop} {x : Str} {p pos apos cpos : Pos} {e o a b : Expr} {es : List Expr} {t : TA} {ta tb td tx ty : TE}
theorem LI.after {pins : List (Addr × Obj)} {σ : L2.St} {H : Hp} {d d1 : List Addr} {s s1 : Shared} {Q : VK} {u : Value} (I : LI X pins σ H d s) (h : CEL X.stack X.prog X.w H s Q u d1 s1) : ∃ v H1, LI X pins σ H1 d1 s1 ∧ RelV v u ∧ Q v H1 := by
  obtain ⟨v, H1, os, bare, un, hok, r, q, dk⟩ := h
  exact ⟨v, H1, ⟨I.inv.call' (ch := []) os un hok bare (fun b z => absurd z (by simp)), dk⟩, r, q⟩
theorem lw_keep {P : Program} {w : World} {α : Type} {A : Around} {vs : List Value} {m : Sem α} {Q : α → List Addr → Shared → Prop} {E : Value → List Addr → Shared → Prop} {d : List Addr} {s : Shared} (h : LW P w A m Q E d s) : LW P w A (m.keep vs) Q E d s := by
  intro R c st p K J gd lv hin hQ hE
  rw [Sem.keep_eq_wrap, Sem.wrap_wrap]
  exact h R c st p _ _ _ _ hin (fun a d1 s1 p1 q => hQ a d1 s1 p1 q) fun x d1 s1 p1 q => hE x d1 s1 p1 q
/-- a call with its arguments, the callee loud -/
theorem lw_callWith {P : Program} {w : World} {A : Around} {K : PySem.W.Frag} {pos : Pos} {f : Value} {first : List Value} {args : List (Bool × Sem Value)} {Q : Value → List Addr → Shared → Prop} {d : List Addr} {s : Shared} (hplain : args.any (·.1) = false) (hk : PySem.W.keepIn K f = true)
    (h : LW P w A (evalArgs f true args []) (fun a d1 s1 => K.In s1.heap ∧ LW P w A (call f (first ++ a.pos) a.kw) Q (fun _ _ _ => False) d1 s1) (fun _ _ _ => False) d s) : LW P w A (callWith pos f first args []) Q (fun _ _ _ => False) d s := by
  unfold callWith
  refine lw_bind (lw_holding (lw_mono h (fun a d1 s1 h1 => lw_bind (lw_standAt ?_)) fun _ _ _ z => z))
  obtain ⟨kp, hkp, L⟩ := PySem.W.looks_keep (M := model P w) hk h1.1
  simp only [hplain, List.any_nil, Bool.or_false]
  refine lw_bindw (L.here ?_)
  have tail : ∀ {t : Sem Value}, LW P w A t Q (fun _ _ _ => False) d1 s1 → LW P w A (t >>= fun r => holding [r] point >>= fun _ => pure r) Q (fun _ _ _ => False) d1 s1 :=
    fun ht => lw_bind (lw_mono ht (fun r d2 s2 hr => lw_bindw (wpAny_holding (wpAny_point (lw_pure hr)))) fun _ _ _ z => z)
  have marked (mk : Value) : LW P w A (callMarked mk f (first ++ a.pos) a.kw) Q (fun _ _ _ => False) d1 s1 := by unfold callMarked; exact lw_keep h1.2
  rcases hkp with rfl | rfl <;> dsimp only <;> first | exact tail h1.2 | (split <;> first | exact tail h1.2 | exact tail (marked _))
theorem lw_evalArgs {P : Program} {w : World} {A : Around} {f : Value} {y : Sem Value} {rest : List (Bool × Sem Value)} {Q : Args → List Addr → Shared → Prop} {E : Value → List Addr → Shared → Prop} {d : List Addr} {s : Shared}
    (h : LW P w A (spliced ((false, y) :: rest)) (fun vs => Q ⟨vs, []⟩) E d s) : LW P w A (evalArgs f true ((false, y) :: rest) []) Q E d s := by
  unfold evalArgs
  show LW P w A (spliced ((false, y) :: rest) >>= _) Q E d s
  refine lw_bind (lw_mono h (fun vs d1 s1 q => lw_holding ?_) fun _ _ _ z => z)
  exact lw_bind (lw_pure (lw_bind (lw_pure (lw_pure q))))
/-- f(e, ..), f a loud def -/
theorem lpe_call (hx : NoX X) (F : LFn X.prog X.w X.K X.mg X.base k f fd ps sp) (hr : Room k X.A) (hg : Gl X x) (hm : X.mg x = some (.ref f)) (hk : PySem.W.keepIn X.K (.ref f) = true) (hb : Binds X.K fd ps []) (ha : PA X (e :: es) t)
    (hdb : (x == ("__debug__" : Str)) = false := by decide) (he : starEach (e :: es) X.env = (false, eval e X.env) :: starEach es X.env := by rfl) (hpl : (backTo pos (starEach es X.env)).any (·.1) = false := by rfl) :
    LPE X (.Call (.Name x p) (e :: es) [] pos) (fun σ H Q => t σ H fun vs H1 => sp vs H1 Q) := by
  refine ⟨fun pins s σ H d Q I q => ?_⟩
  have gd := I.dok.gen
  rw [arm_eval_Call_Name']
  refine lw_bindw (ld_glob I.inv hg hm ?_ hdb)
  show LW _ _ _ (callWith pos (.ref f) [] (backTo pos (starEach (e :: es) X.env)) []) _ _ d s
  refine lw_callWith (K := X.K) (by rw [he]; show (false || (backTo pos (starEach es X.env)).any (·.1)) = false; rw [hpl]; rfl) hk ?_
  have ha2 := ha.run pos _ s σ H _ I.up q
  rw [he] at ha2 ⊢
  refine lw_evalArgs (lw_of (wpAny_mono ha2 (fun us s1 z => ?_) fun v s1 z => hx v s1 z))
  obtain ⟨vs, H1, I1, r, q1⟩ := z
  have J : LI X pins σ H1 d s1 := .of I1 gd
  refine ⟨I1.kIn, ?_⟩
  have hl : us.length = ps.length := by rw [← r.length]; exact F.len _ _ _ q1
  have bt := hb s1 us I1.kIn (by rw [List.append_nil]; exact hl)
  rw [List.append_nil] at bt
  show LW _ _ _ (runValue (.call (.ref f) ⟨us, []⟩)) _ _ d s1
  refine lw_runValue (lc_mono (F.run X.A X.stack s1 H1 d ⟨us, []⟩ us vs Q hr J.inv.env0 J.dok bt r q1) fun r d2 s2 z => ?_)
  obtain ⟨u, rfl, z⟩ := z
  exact J.after z
/-- o.get(e, f), o loud -/
theorem lpe_dget2 {e f : Expr} (hx : NoX X) (hu : X.A.units + 1 < cLine) (ho : LPE X o td) (he : PE X e ty) (hf : PE X f tx) (m : M2 X o "get" apos e f cpos) : LPE X (.Call (.Attribute o "get" apos) [e, f] [] cpos) (tDGet2 td ty tx) := by
  refine ⟨fun pins s σ H d Q I q => ?_⟩
  have hform : methodCallForm (([e, f] : List Expr).length + ([] : List Keyword).length) (backTo cpos (starEach [e, f] X.env)) (backToKw cpos (keywordEach [] X.env)) = true := m.few
  have hpos : methodCallPos true o X.env apos cpos = pure cpos := by unfold methodCallPos; simp [m.line]
  rw [arm_eval_Call, m.base]
  refine lw_bind (lw_mono (ho.run pins s σ H d _ I q) (fun u d1 s1 z => lw_bind (lw_standAt ?_)) fun _ _ _ z => z)
  obtain ⟨y, H1, I1, ry, a, rfl, dd, q1⟩ := z
  obtain rfl : u = Value.ref a := ry
  have gd := I1.dok.gen
  obtain ⟨t1, t2, _⟩ := isD_at I1.inv dd
  refine lw_of ?_
  unfold methodCall
  rw [hform]
  refine wpAny_bind (wpAny_holding (getMethod_builtin t1 PySem.F.plainAttrs_dict PySem.F.slot_dict_get PySem.F.type_dict_get t2 (wpAny_bind (wpAny_of_eq hpos ?_))))
  rw [m.trees]
  refine Calls.callWith_builtin rfl (Calls.evalArgs_plain (Calls.spliced_cons (wpAny_mono (he.run _ s1 σ H1 _ I1.up q1) (fun iv s2 z => ?_) fun v s2 z => (hx v s2 z).elim)))
  obtain ⟨y2, H2, I2, r2, q2⟩ := z
  refine Calls.spliced_cons (wpAny_mono (hf.run _ s2 σ H2 _ I2 q2) (fun fv s3 z => ?_) fun v s2 z => (hx v s2 z).elim)
  obtain ⟨y3, H3, I3, r3, ov, g, q3⟩ := z
  exact Calls.spliced_nil (d_get2 hu I3 g r2 r3 fun w' s4 I4 rw' => ⟨_, H3, .of I4 gd, rw', q3⟩)
/-- a comparison, its left side loud -/
theorem lpt_cmp {op : CmpOp} {r : R2} (hx : NoX X) (ho : OpR X (compareOp op) r) (ha : LPE X a ta) (hb : PE X b tb) (hm : behindInMarks op b = false) : LPT X (.Compare a [op] [b] pos) (tTest (tOp r ta tb)) := by
  refine ⟨fun pins s σ H d Q I q => ?_⟩
  rw [isTrue_Compare1]
  refine lw_bind (lw_mono (ha.run pins s σ H d _ I q) (fun v d1 s1 z => lw_of ?_) fun _ _ _ z => z)
  obtain ⟨y, H1, I1, r1, q1⟩ := z
  have gd := I1.dok.gen
  rw [markedBehindIn_of_false hm]
  refine wpAny_bind (wpAny_holding (wpAny_mono (hb.run _ s1 σ H1 _ I1.up q1) (fun u s2 z => ?_) fun v s2 z => (hx v s2 z).elim))
  obtain ⟨y2, H2, I2, r2, q2⟩ := z
  refine wpAny_bind (wpAny_standAt (wpAny_bind (wpAny_operateT (wpAny_mono (ho _ s2 σ H2 y y2 v u _ I2 r1 r2 q2) (fun c s3 z => ?_) fun v s2 z => (hx v s2 z).elim))))
  obtain ⟨z, H3, I3, r3, kk, rfl, q3⟩ := z
  obtain rfl : c = Value.bool kk := r3
  exact wpAny_holding (wpAny_truthy_bool ⟨H3, .of I3 gd, q3⟩)
/-- f(e), f a built-in function, e loud -/
theorem lpe_callB1 {id : String} {r : List V → Hp → VK → Prop} (hx : NoX X) (hc : CallR X (.builtin id) r) (hg : Gl X x) (hm : X.mg x = none) (hv : bootBuiltins x = some (.builtin id)) (ha : LPE X e ta) (hn : x ≠ "__name__" := by decide) (hdb : (x == ("__debug__" : Str)) = false := by decide)
    (he : starEach [e] X.env = [(false, eval e X.env)] := by rfl) : LPE X (.Call (.Name x p) [e] [] pos) (fun σ H Q => ta σ H fun y H1 => r [y] H1 Q) := by
  refine ⟨fun pins s σ H d Q I q => ?_⟩
  rw [arm_eval_Call_Name']
  refine lw_bindw (ld_blt I.inv hg hm hv ?_ hn hdb)
  show LW _ _ _ (callWith pos (.builtin id) [] (backTo pos (starEach [e] X.env)) []) _ _ d s
  rw [he]
  unfold callWith
  refine lw_bind (lw_holding (lw_mono (Q := fun (a : Args) d1 s1 => ∃ y H1 u, a = ⟨[u], []⟩ ∧ LI X pins σ H1 d1 s1 ∧ RelV y u ∧ r [y] H1 Q) (E := fun _ _ _ => False) (lw_evalArgs ?_) (fun a d1 s1 z => lw_bind (lw_standAt ?_)) fun _ _ _ z => z))
  · show LW _ _ _ (spliced [(false, eval e X.env)]) _ _ d s
    rw [spliced]
    refine lw_bind (lw_mono (ha.run pins s σ H d _ I q) (fun u d1 s1 z => ?_) fun _ _ _ z => z)
    obtain ⟨y, H1, I1, r1, q1⟩ := z
    simp only [Bool.false_eq_true, if_false]
    refine lw_bind (lw_pure (lw_bind (lw_holding (lw_mono (Q := fun vs d2 s2 => vs = [] ∧ d2 = d1 ∧ s2 = s1) (E := fun _ _ _ => False) (lw_of (Calls.spliced_nil ⟨rfl, rfl, rfl⟩)) (fun vs d2 s2 h => ?_) fun _ _ _ z => z))))
    obtain ⟨rfl, rfl, rfl⟩ := h
    exact lw_pure ⟨y, H1, u, rfl, I1, r1, q1⟩
  · obtain ⟨y, H1, u, rfl, I1, r1, q1⟩ := z
    have gd := I1.dok.gen
    refine lw_of ?_
    have c := hc _ s1 σ H1 [y] [u] Q I1.up (.cons r1 .nil) q1
    refine wpAny_bind (wpAny_pure ?_)
    refine wpAny_bind (wpAny_mono c (fun v s2 z => ?_) fun v s2 z => (hx v s2 z).elim)
    obtain ⟨y2, H2, I2, r2, q2⟩ := z
    exact wpAny_bind (wpAny_holding (wpAny_point (wpAny_pure ⟨y2, H2, .of I2 gd, r2, q2⟩)))
end
end Lk
/-! Kl8 -/
namespace Lk
open PySem PySem.Spec PyProof.Rows L2 GenW
section
variable {X : Cx} {tg e : Expr} {td : TE}
theorem pig_range1 {a : Expr} {ta : TA} {p pos : Pos} (hg : Gl X "range") (hm : X.mg "range" = none) (ha : PA X [a] ta) (hs : starEach [a] X.env = [(false, eval a X.env)] := by rfl) : PIG X tg (.Call (.Name "range" p) [a] [] pos) (iRng1 ta) := by
  refine ⟨fun pins s σ H R I h => Call_ (ld_blt I hg hm boot_range (PyProof.Rows.callWith_type1 (thn (ha.run pos pins s σ H _ I h) fun us s1 z => ?_) hs rfl))⟩
  obtain ⟨vs, H1, I1, r1, j, rfl, q1, q2, q⟩ := z
  obtain ⟨u, rfl, t, rfl⟩ := vals1 r1
  refine call_range_1 ?_
  refine wpAny_pyIter_range (IsRange.new ..) (small_one (by omega) (by omega) q1 q2) ?_
  have J1 : Inv X pins σ H1 { s1 with heap := s1.heap.push { cls := .type "range", data := .fields #[.int 0 s1.toks, .int j t, .int 1 (s1.toks + 1)] }, toks := s1.toks + 1 + 1 } := I1.kept (t' := s1.toks + 1 + 1) fun b o e => Heap.get?_push_of_some _ e
  refine ⟨_, [(s1.heap.push { cls := .type "range", data := .fields #[.int 0 s1.toks, .int j t, .int 1 (s1.toks + 1)] }).objs.size], _, _, H1, rfl, J1.kept (t' := s1.toks + 1 + 1) fun b o e => Heap.get?_push_of_some _ e, turn_range _ 0 j.toNat, ?_, fun b hb => ?_, q, fun i h tn b hb => ?_⟩
  · have r1 : (0 : Int) + ((0 : Nat) : Int) * 1 = 0 := by simp
    have r2 : ((j.toNat : Nat) : Int) - ((0 : Nat) : Int) = Builtin.Range.rangeSize 0 j 1 := by rw [rangeSize_one]; split <;> omega
    show IsRangeIter _ _ ((0 : Int) + ((0 : Nat) : Int) * 1) (((j.toNat : Nat) : Int) - ((0 : Nat) : Int)) 1
    rw [r1, r2]
    exact Heap.get?_push_size _ rfl
  · rw [List.mem_singleton.mp hb]
    exact J1.fpOk (Nat.le_refl _) (J1.hok.fresh (Nat.le_refl _))
  · rw [List.mem_singleton.mp hb]
    exact not_gen tn rfl
theorem pig_keysK (Kf : PySem.W.Frag) (hK : X.K = Kf) (he : PE X e td) : PIG X tg e (iKeys td) := by
  refine ⟨fun pins s σ H R I h => thn (he.run pins s σ H _ I h) fun u s1 z => ?_⟩
  obtain ⟨x, H1, I1, rx, d, o, rfl, q⟩ := z
  obtain rfl : u = Value.ref d := rx
  have fresh := I1.hok.fresh (Nat.le_refl s1.heap.objs.size)
  have fp : ∀ b ∈ [s1.heap.objs.size], FpOk X pins H1 b := fun b hb => by
    rw [List.mem_singleton.mp hb]
    exact I1.fpOk (Nat.le_refl _) fresh
  rcases q with ⟨kvs, hd, q⟩ | ⟨kvs, hd, q⟩
  · obtain ⟨hs, hgd, hx, es, ep, vs, hdt, hsz, kv, hm⟩ := I1.frzK hd
    refine iter_keys hs hgd hx hdt ⟨s1.heap.objs.size, [s1.heap.objs.size], _, _, H1, rfl, I1.kept (t' := s1.toks) fun b o e => Heap.get?_push_of_some _ e, turn_keys _ hdt, ⟨_, Heap.get?_push_size _ rfl, rfl, ?_⟩, fp, q, fun i h tn b hb => ?_⟩
    · rw [hsz] <;> rfl
    · rw [List.mem_singleton.mp hb]
      obtain ⟨o, ho, hc, hd⟩ := id tn
      exact not_gen ho (by unfold Obj.genNumber?; rw [hc, hd]; simp)
  · obtain ⟨hs, hgd, hx, es, ep, hdt, hsz, ent⟩ := I1.frzT hd
    refine iter_keys hs hgd hx hdt ⟨s1.heap.objs.size, [s1.heap.objs.size], _, _, H1, rfl, I1.kept (t' := s1.toks) fun b o e => Heap.get?_push_of_some _ e, turn_keysT _ hdt, ⟨_, Heap.get?_push_size _ rfl, rfl, ?_⟩, fp, q, fun i h tn b hb => ?_⟩
    · rw [hsz] <;> rfl
    · rw [List.mem_singleton.mp hb]
      obtain ⟨o, ho, hc, hd⟩ := id tn
      exact not_gen ho (by unfold Obj.genNumber?; rw [hc, hd]; simp)
end
section
variable {X : Cx} {st : Stmt} {rest : List Stmt} {t u : TS} {e : Expr} {te : TE} {pos : Pos} {tg iter : Expr} {body : List Stmt}
theorem lss_one (h : LSt X st t) : LSts X [st] t := by
  refine ⟨fun pins s σ H d D I q => ?_⟩
  rw [execs_cons]
  refine lw_bind (lw_mono (h.run pins s σ H d D I q) (fun fl d1 s1 z => ?_) fun _ _ _ z => z)
  cases fl <;> exact lw_pure z
theorem lss_cut (h1 : LSt X st t) (h2 : LSts X rest u) : LSts X (st :: rest) (C8.tCut t u) := by
  refine ⟨fun pins s σ H d D I q => ?_⟩
  obtain ⟨Mid, hm, hu⟩ := q
  rw [execs_cons]
  refine lw_bind (lw_mono (h1.run pins s σ H d { D with nx := Mid } I hm) (fun fl d1 s1 z => ?_) fun _ _ _ z => z)
  cases fl with
  | next =>
    obtain ⟨σ1, H1, I1, q1⟩ := z
    exact h2.run pins s1 σ1 H1 d1 D I1 (hu σ1 H1 q1)
  | ret v => exact lw_pure z
  | brk => exact lw_pure z
  | cont => exact lw_pure z
/-- for over an iterator of the kit, the body loud -/
theorem ls_for {wi : TI} {g : L2.TG} {tb : TS} (hx : NoX X) (hc : X.calm = true) (hi : PIG X tg iter wi) (hg : PG X tg g) (hb : LSts X body tb) (hs : ∀ x, foldedSetIterable iter X.env x = pure x := by intro _; rfl) : LSt X (.For tg iter body [] pos) (tFor wi g tb) := by
  refine ⟨fun pins s σ H d D I q => lw_For hs ?_⟩
  have gd0 := I.dok.gen
  refine wpAny_mono (hi.run _ s σ H _ I.up q) (fun v s1 h1 => wpAny_mono h1 (fun itv s2 h2 => ?_) fun v s2 z => hx v s2 z) fun v s2 z => hx v s2 z
  obtain ⟨it, fp, tn, J, H2, rfl, I2, T, st2, f2, ⟨W, ⟨m0, w0⟩, turn⟩, ng⟩ := h2
  have fpk : ∀ {σ : L2.St} {H H' : Hp} {d : List Addr} {s : Shared} {i : Nat}, LI X pins σ H d s → tn i s.heap → (∀ b ∈ fp, H' b = none) → ∀ b ∈ fp, FpOk X (pins ++ foP d s.heap) H' b := fun {σ H H' d s i} I st hn b hb => by
    obtain ⟨_, h1, h2, h3, h4, h5⟩ := f2 b hb
    refine ⟨hn b hb, h1, h2, h3, h4, fun p hp e => ?_⟩
    rcases List.mem_append.mp hp with z | z
    · exact h5 p (List.mem_append_left _ z) e
    rcases List.mem_append.mp z with z | z
    · exact h5 p (List.mem_append_right _ (List.mem_append_left _ z)) e
    · exact ng i s.heap st b hb (by rw [← e]; exact (I.dok _ (foP_of z).1).2)
  have loop : ∀ (m i : Nat) (σ : L2.St) (H : Hp) (d : List Addr) (s : Shared), LI X pins σ H d s → tn i s.heap → (∀ b ∈ fp, H b = none) → W i m σ H → LC X.prog X.w X.A (.forLoop tg (.ref it) body [] X.env) (fun r d3 s3 => ∃ fl, r = .ok fl ∧ SPL X pins D fl d3 s3) d s := by
    intro m
    induction m using Nat.strongRecOn with
    | ind m ih =>
      intro i σ H d s I st fr w
      refine lc_turn (lw_of ?_)
      rcases turn i m σ H w with ⟨stop, qn⟩ | ⟨go, N, hN, step⟩
      · refine wpAny_mono (T.done X rfl rfl rfl hc i _ s σ H (fun _ _ => False) I.up (fpk I st fr) st stop) (fun r s4 z => ?_) fun _ _ z => z.elim
        obtain ⟨rfl, I4⟩ := z
        exact ⟨.next, rfl, σ, H, .of I4 I.dok.gen, qn⟩
      · refine wpAny_mono (T.item X rfl rfl rfl hc i _ s σ H (fun _ _ => False) I.up (fpk I st fr) st go) (fun r s4 z => ?_) fun _ _ z => z.elim
        obtain ⟨u, rfl, h4⟩ := z
        refine wpAny_mono h4 (fun _ s5 z => ?_) fun _ _ z => z.elim
        obtain ⟨x, H5, I5, r5, y5, st5, fr5⟩ := z
        have I5' := I5.pinned (fpk I st fr5) (T.obj _ _ st5)
        refine wpAny_mono (hg.run _ s5 σ H5 x u _ I5' r5 (step x H5 y5)) (fun _ s6 z => ?_) fun v s6 z => (hx v s6 z).elim
        obtain ⟨σ6, H6, I6, q6⟩ := z
        have I6' : LI X (pins ++ pinsAt fp s5.heap) σ6 H6 d s6 := .of (h0 := s.heap) (I6.pins_of fun p hp => by
          rcases List.mem_append.mp hp with z | z
          · rcases List.mem_append.mp z with z | z
            · exact I6.pin p (List.mem_append_right _ (List.mem_append_left _ (List.mem_append_left _ z)))
            · exact I6.pin p (List.mem_append_right _ (List.mem_append_right _ z))
          · exact I6.pin p (List.mem_append_right _ (List.mem_append_left _ (List.mem_append_right _ z)))) I.dok.gen
        refine lw_mono (hb.run _ s6 σ6 H6 d { D with nx := N, ct := N, bk := D.nx } I6' q6) (fun fl d7 s7 z => ?_) fun _ _ _ z => z
        have again : ∀ {σ7 : L2.St} {H7 : Hp}, LI X (pins ++ pinsAt fp s5.heap) σ7 H7 d7 s7 → N σ7 H7 → LC X.prog X.w X.A (.forLoop tg (.ref it) body [] X.env) (fun r d3 s3 => ∃ fl, r = .ok fl ∧ SPL X pins D fl d3 s3) d7 s7 := fun {σ7 H7} I7 n7 => by
          obtain ⟨m2, hm, w7⟩ := hN σ7 H7 n7
          have q : ∀ b ∈ fp, ∀ o, s5.heap.get? b = some o → s7.heap.get? b = some o ∧ H7 b = none := fun b hb o e =>
            let z := I7.inv.pin (b, o) (List.mem_append_right _ (List.mem_append_right _ (mem_pinsAt hb e)))
            ⟨z.1, z.2.1⟩
          refine ih m2 hm (i + 1) σ7 H7 d7 s7 I7.sub (T.keep _ _ _ st5 fun b hb o e => (q b hb o e).1) (fun b hb => ?_) w7
          obtain ⟨o, e, _⟩ := T.obj _ _ st5 b hb
          exact (q b hb o e).2
        cases fl with
        | next => obtain ⟨σ7, H7, I7, n7⟩ := z; exact again I7 n7
        | cont => obtain ⟨σ7, H7, I7, n7⟩ := z; exact again I7 n7
        | brk => obtain ⟨σ7, H7, I7, n7⟩ := z; exact ⟨.next, rfl, σ7, H7, I7.sub, n7⟩
        | ret v => obtain ⟨x7, σ7, H7, I7, r7, n7⟩ := z; exact ⟨.ret v, rfl, x7, σ7, H7, I7.sub, r7, n7⟩
  exact loop m0 0 σ H2 d s2 (.of I2 gd0) st2 (fun b hb => (f2 b hb).1) w0
/-- for x in g: return e -/
theorem ls_forret {k0 : Nat} {x : Str} {xp rp : Pos} {call : Expr} {α : Type} {It : α → Hp → V → Prop} {Rl : Hp → Hp → Prop} {tc : L2.St → Hp → (List α → Hp → Prop) → Prop} {tgt : L2.TG} (hx : NoX X) (hr : Room k0 X.A) (hc : MkG X X.A.in1 call It Rl tc) (hg : PG X (.Name x xp) tgt) (he : PE X e te)
    (hs : ∀ x, foldedSetIterable call X.env x = pure x := by intro _; rfl) : LSt X (.For (.Name x xp) call [.Return (some e) rp] [] pos) (fun D σ H => tc σ H fun li H1 => ∃ z r, li = z :: r ∧ ∀ y H2, Rl H1 H2 → It z H2 y → tgt y σ H2 fun σ2 H3 => tSeq (tRet te) tNext D σ2 H3) := by
  refine ⟨fun pins s σ H d D I q => lw_For hs ?_⟩
  have gd0 := I.dok.gen
  refine wpAny_mono (hc.run _ s σ H _ I.up q) (fun v s1 z => ?_) fun _ _ z => z
  obtain ⟨ga, oa, L, g, H1, Hs, ss, gs, li, rfl, I1, p1, p2, p3, p4, p5, p6, ⟨nm, qn, o1, o2, o3⟩, hgs, al, R, ho, z, r, rfl, hq⟩ := z
  have I1a := I1.pin (ga, oa) (List.mem_append_right _ (List.mem_append_right _ (List.mem_singleton.mpr rfl)))
  refine wpAny_iterGen ⟨oa, nm, qn, I1a.1, o1, o2, o3⟩ ?_
  have J1 : LI X (pins ++ [(ga, oa)]) σ H1 d s1 := .of (h0 := s.heap) (I1.pins_of fun p hp => by
    rcases List.mem_append.mp hp with z | z
    · rcases List.mem_append.mp z with z | z
      · exact I1.pin p (List.mem_append_right _ (List.mem_append_left _ (List.mem_append_left _ z)))
      · exact I1.pin p (List.mem_append_right _ (List.mem_append_right _ z))
    · exact I1.pin p (List.mem_append_right _ (List.mem_append_left _ (List.mem_append_right _ z)))) gd0
  have pr : Pr X (pins ++ [(ga, oa)]) L [ga] := by
    refine ⟨p1, p2, p3, fun p hp => ?_, fun b hb => ⟨oa, ?_⟩⟩
    · rcases List.mem_append.mp hp with z | z
      · exact .inl (p4 p (List.mem_append_left _ z))
      rcases List.mem_append.mp z with z | z
      · exact .inl (p4 p (List.mem_append_right _ (List.mem_append_left _ z)))
      · exact .inr (by rw [List.mem_singleton.mp z]; exact List.mem_singleton.mpr rfl)
    · rw [List.mem_singleton.mp hb]
      exact List.mem_append_right _ (List.mem_append_right _ (List.mem_singleton.mpr rfl))
  refine lc_turn (pair_next J1 pr hr.hd hr.depth ⟨oa, nm, qn, List.mem_append_right _ (List.mem_append_right _ (List.mem_singleton.mpr rfl)), o1, o2, o3⟩ hgs al R ho (fun e0 => by cases e0) fun z2 r2 e0 v y H2 d2 s2 s3 gs2 I2 hz2 rl rv hIt hgs2 al2 R2 ho2 => ?_)
  cases e0
  have e2 : s2.heap.get? ga = some oa := (I2.inv.pin (ga, oa) (List.mem_append_right _ (List.mem_append_right _ (List.mem_singleton.mpr rfl)))).1
  refine go_of e2 o1 o2 (by decide) ?_
  refine wpAny_mono (hg.run _ s2 σ H2 y v _ I2.up rv (hq y H2 rl hIt)) (fun _ s4 z => ?_) fun v s4 z => hx v s4 z
  obtain ⟨σ4, H4, I4, q4⟩ := z
  have J4 : LI X (pins ++ [(ga, oa)]) σ4 H4 d2 s4 := .of I4 I2.dok.gen
  refine lw_mono ((lss_pss hx (pss_one (ps_ret he))).run _ s4 σ4 H4 d2 { D with ct := fun _ _ => False, bk := fun _ _ => False, nx := fun _ _ => False } J4 q4) (fun fl d5 s5 z => ?_) fun _ _ _ z => z
  cases fl with
  | next => obtain ⟨_, _, _, z⟩ := z; exact z.elim
  | cont => obtain ⟨_, _, _, z⟩ := z; exact z.elim
  | brk => obtain ⟨_, _, _, z⟩ := z; exact z.elim
  | ret v => obtain ⟨x7, σ7, H7, I7, r7, n7⟩ := z; exact ⟨.ret v, rfl, x7, σ7, H7, I7.sub, r7, n7⟩
end
end Lk
/-! Kl9 -/
namespace Lk
open PySem PySem.Spec PyProof.Rows L2
open GenW
theorem sc_first : FnScope ["office", "matcher", "pairs"] ["office"] (defScope sFirstMatch) := ⟨rfl, rfl, rfl, by decide +kernel, rfl, by decide +kernel, by decide +kernel⟩
abbrev nm_first : List Str := ["office", "matcher", "pairs"]
section
variable {X : Cx} {st : Stmt}
theorem ls_ex {ι : Type} {t : ι → TS} (h : ∀ i, LSt X st (t i)) : LSt X st (fun D σ H => ∃ i, t i D σ H) := ⟨fun pins s σ H d D I q => let ⟨i, q⟩ := q; (h i).run pins s σ H d D I q⟩
end
theorem gt_ex {G : Gf} {st : Stmt} {ι : Type} {t : ι → Lk.TG G} (h : ∀ i, GSt G st (t i)) : GSt G st (fun D l H0 σ H => ∃ i, t i D l H0 σ H) := ⟨fun ip c fs K J gd lv D l H0 s0 σ H d s a k ex hz I q => let ⟨i, q⟩ := q; (h i).run ip c fs K J gd lv D l H0 s0 σ H d s a k ex hz I q⟩
theorem pairs_dict {K : PySem.W.Frag} {H : Hp} : ∀ L : List (Addr × (Str × Str)), (∀ q ∈ L, H q.1 = some (.tup [.str q.2.1, .str q.2.2])) → Paired (fun p kv => SqT K H p [kV kv.1, kv.2]) (L.map (·.1)) ((L.map (·.2)).map fun p => ((Sum.inr p.1 : Key), V.str p.2))
  | [], _ => .nil
  | q :: L, h => .cons (SqT.of (h q List.mem_cons_self)) (pairs_dict L fun x hx => h x (List.mem_cons_of_mem _ hx))
section
variable {P : Program} {w : World} {K : PySem.W.Frag} {mg : Str → Option Value} {base : Heap} {f : Addr}
theorem ok_first {fd fw : FuncData} {f2 : Addr} (F : FunD K "first_match" "first_match" (defArgs sFirstMatch) (defBody sFirstMatch) (defScope sFirstMatch) [] [] f fd) (Tx : Txt K mg) (cM : C8.Mak P w K mg base 7 "Matcher" (cMat K) (spMatInit P w K) [])
    (cC : C8.Met P w K mg base 7 (cMat K) "most" (spMost P w K) []) (Fw : FunD K "walked" "Matcher.walked" (defArgs sMatWalked) (defBody sMatWalked) (defScope sMatWalked) [] [] f2 fw) (c : Cls K (cMat K)) (me : Meth K (cMat K) "walked" f2) (cH : C8.Met P w K mg base 7 (cMat K) "has" (spHas P w K) []) :
    LFn P w K mg base 22 f fd ["office"] (fun vs H Q => spFirstMatch K vs H Q C8.E0) := by
  refine lfn_of F sc_first (fun vs H Q h => ?_) (fun cdv A outer s H vs Q hr h => ?_)
  · obtain ⟨R, o, T, C, rfl, _⟩ := h; rfl
  · obtain ⟨R, o, T, C, rfl, ho, q⟩ := h
    have hx : NoX (cxOf C8.CX0 P w K mg base nm_first "first_match" (defScope sFirstMatch) f cdv A outer s H C8.E0).nox := fun _ _ z => z
    have pn : PlainNames (defScope sFirstMatch) := by decide +kernel
    have nc := plain_noc (qual := "first_match") (L := s.heap.objs.size) (f := f) (cd := cdv) pn
    have bd : Binds K fw ["self", "place", "taken", "pairs"] [] := Fw.bindsN (fun _ _ _ _ _ _ us hl => match us, hl with | [_, _, _, _], _ => rfl)
    refine ⟨_, lss_cons (ls_ps hx (ps_set sc_first.nd (i := 1) rfl (Or.inl rfl) (C8.pe_mk cM hr (by decide) (by rfl) (pa_cons (pv 0) pa_nil))))
      (lss_cons (ls_ex fun i : Addr × Addr × Op × List Str => ls_forret hx hr (mkg_meth (pv 1) c me (gdef_walked (m := i.1) (d := i.2.1) (o := i.2.2.1) (T := i.2.2.2) Fw c me Tx cH 5) (hr.mono (by decide)) ((Room.in1 (k := 20) hr).mono (by decide)) rfl bd (pa_cons pe_int (pa_cons (pe_tup pa_nil) (pa_cons (C8.pe_mt0 cC hr (by decide) (pv 1)) pa_nil))) nc (fun _ _ z => z))
        (pg_name (i := 2) sc_first.nd rfl (Or.inl rfl)) (pe_callTy (call_dictP rfl) (by rfl) Tx.dict boot_dict (pa_cons (pv 2) pa_nil)))
      (lss_one (ls_ps hx ps_never))), ?_⟩
    refine ⟨_, rfl, mk_read ho fun m d H1 s1 k1 hd => ?_⟩
    obtain ⟨dx, op, m1, _⟩ := k1.ex
    have h5 := k1.ok.olen
    refine ⟨(m, d, opsOf R T C, T), ?_⟩
    refine ⟨_, rfl, m, dx, _, rfl, m1, rfl, by show 0 ≤ sizeLine; decide, fun qq hq => ?_⟩
    have s2 := Same.upd' (o := .tup []) s1 hq
    have k2 := k1.same (Same.upd (o := .tup []) hq)
    refine ⟨_, rfl, m, dx, _, rfl, upd_keep m1 hq, rfl, m, d, _, T, rfl, k2, fun H2 x2 k3 => ?_⟩
    refine ⟨0, Ld.nu (opsOf R T C) [], [], qq, rfl, k3, Nat.zero_le _, by omega, k2.keep x2 upd_same (by intro φ z; cases z), List.nil_sublist _, (Ld.W_ne _ _ _).mpr (Nat.le_refl _), ?_⟩
    have s3 := SameX.back s2 hd x2
    have ne := (Ld.W_ne (opsOf R T C) [] (Ld.nu (opsOf R T C) [])).mpr (Nat.le_refl _)
    rw [List.drop_zero]
    cases hl : Ld.W (opsOf R T C) [] (Ld.nu (opsOf R T C) []) with
    | nil => exact absurd hl ne
    | cons z r =>
      have hz : z ∈ Ld.wO C T (fitR R) (nuR R T C) := by
        show z ∈ Ld.W (opsOf R T C) [] (Ld.nu (opsOf R T C) [])
        rw [hl]; exact List.mem_cons_self
      refine ⟨z, r, rfl, ?_⟩
      rintro y H3 ⟨b1, b2⟩ ⟨pz, rfl, hpz⟩
      obtain ⟨Lz, z1, z2, z3⟩ := hpz.ex
      refine ⟨_, rfl, pz, Lz.map (·.1), _, rfl, SqL.of (by rw [List.map_map]; exact z1), pairs_dict Lz z3, fun dd hdd => ?_⟩
      have hnd : ((z.map (·.1)).map (Sum.inr : Str → Key)).Nodup := List.Pairwise.map _ (fun a b n e => n (Sum.inr.inj e)) (Ld.wO_keys (nodup_cL.sublist ho.lab.c) hz).1
      rw [List.map_map] at hnd
      rw [z2, merge_new _ [] (by rw [List.nil_append, List.map_map]; exact hnd), List.nil_append]
      exact q dd _ z (Same.upd' (SameX.back s3 hd b1) hdd) hz upd_same
end
end Lk
/-! Kl10 -/
namespace Lk
open PySem PySem.Spec PyProof.Rows L2
open GenW
abbrev nm_matches : List Str := ["office", "matcher", "most", "pairs"]
theorem sc_matches : GScope nm_matches ["office"] (defScope sMatches) := ⟨rfl, rfl, rfl, by decide +kernel, rfl, by decide +kernel, by decide +kernel⟩
theorem pn_matches : PlainNames (defScope sMatches) := by decide +kernel
/-- what was there when it was made stays -/
def RlS (Hb H0 H1 : Hp) : Prop := ∀ b u, Hb b = some u → H0 b = some u → H1 b = some u
def ItA (x : List (Str × Str)) (H : Hp) (v : V) : Prop := True
/-- the frame of a generator, others' things besides -/
abbrev gfX (P : Program) (w : World) (K : PySem.W.Frag) (mg : Str → Option Value) (base : Heap) (N : List Str) (qual : Str) (st : Stmt) (f : Addr) {α : Type} (It : α → Hp → V → Prop) (Rl : Hp → Hp → Prop) (cdv : Value) (Aw : Around) (outer : List Env) (L : Nat) (fo : List Addr) (g : Nat) : Gf :=
  ⟨P, w, K, mg, base, N, qual, defScope st, f, cdv, Aw, outer, L, fo, g, Rl, α, It⟩
theorem pq_dictK {X : Cx} {pos p : Pos} {x : Str} {a : Expr} {ta : TE} (Kf : PySem.W.Frag) (hK : X.K = Kf) (ha : PEq X a ta) (hg : Gl X x) (hm : X.mg x = none) (hv : bootBuiltins x = some (.type "dict")) (hcalm : X.calm = true) (hn : x ≠ "__name__" := by decide) (hdb : (x == ("__debug__" : Str)) = false := by decide)
    (he : starEach [a] X.env = (false, eval a X.env) :: starEach [] X.env := by rfl) (hpl : (backTo pos (starEach [] X.env)).any (·.1) = false := by rfl) :
    PEq X (.Call (.Name x p) [a] [] pos) (fun σ H Q => ta σ H fun y H1 => ∃ (l : Addr) (ps : List Addr) (kvs : List (Key × V)), y = .ref l ∧ SqL Kf H1 l (ps.map V.ref) ∧ Paired (fun p kv => SqT Kf H1 p [kV kv.1, kv.2]) ps kvs ∧ ∀ p, H1 p = none → Q (.ref p) (upd H1 p (.dK (mergeK [] kvs)))) := by
  subst hK; exact pq_dict ha hg hm hv hcalm hn hdb he hpl
section
variable {P : Program} {w : World} {K : PySem.W.Frag} {mg : Str → Option Value} {base : Heap} {f : Addr}
theorem body_matches {fw : FuncData} {f2 : Addr} {R : Rnd} {o : Addr} {T C : List Str} {Hb : Hp} (Tx : Txt K mg) (cM : C8.Mak P w K mg base 7 "Matcher" (cMat K) (spMatInit P w K) []) (cC : C8.Met P w K mg base 7 (cMat K) "most" (spMost P w K) [])
    (cN : C8.Met P w K mg base 6 (cMat K) "counts" (spCounts P w K 5) []) (Fw : FunD K "walked" "Matcher.walked" (defArgs sMatWalked) (defBody sMatWalked) (defScope sMatWalked) [] [] f2 fw) (c : Cls K (cMat K)) (me : Meth K (cMat K) "walked" f2) (cH : C8.Met P w K mg base 7 (cMat K) "has" (spHas P w K) [])
    (ho : OffAt K Hb R o T C) (cdv : Value) (Aw : Around) (outer : List Env) (L : Nat) (fo : List Addr) (g : Nat) (Fx : (gfX P w K mg base nm_matches "matches" sMatches f ItA (RlS Hb) cdv Aw outer L fo g).Fx)
    (hr : Room 19 (Aw.deeper (envOfC "matches" (defScope sMatches) L f cdv))) :
    ∃ t, GSts (gfX P w K mg base nm_matches "matches" sMatches f ItA (RlS Hb) cdv Aw outer L fo g) (defBody sMatches) t ∧
      ∀ H0, (∀ b u, Hb b = some u → H0 b = some u) → t { nx := fun l H0 _ H2 => l = [] ∧ RlS Hb H0 H2, rt := fun l H0 v H2 => l = [] ∧ v = .non ∧ RlS Hb H0 H2 } (Ld.W (opsOf R T C) [] (Ld.nu (opsOf R T C) [])) H0 (start nm_matches [.ref o]) H0 := by
  have nc := plain_noc (qual := "matches") (L := L) (f := f) (cd := cdv) pn_matches
  have bd : Binds K fw ["self", "place", "taken", "pairs"] [] := Fw.bindsN (fun _ _ _ _ _ _ us hl => match us, hl with | [_, _, _, _], _ => rfl)
  have hr1 : Room 18 (Aw.deeper (envOfC "matches" (defScope sMatches) L f cdv)) := hr.mono (by decide)
  have hr3 : Room 18 (Aw.deeper (envOfC "matches" (defScope sMatches) L f cdv)).in1 := (Room.in1 (k := 18) hr).mono (by decide)
  refine ⟨_, gts_cons (gt_ps fun s0 H0 => ps_set sc_matches.nd (i := 1) rfl (Or.inl rfl) (C8.pe_mk cM hr (by decide) (by rfl) (pa_cons (pv 0) pa_nil)))
    (gts_cons (gt_ps fun s0 H0 => ps_set sc_matches.nd (i := 2) rfl (Or.inl rfl) (C8.pe_mt0 cC hr (by decide) (pv 1)))
    (gts_cons (gt_if (fun s0 H0 => pt_cmpR op_gt (pe_ix (ix_tupK K rfl) (C8.pe_mt cN hr (by decide) (pv 1) (pa_cons pe_int (pa_cons (pe_tup pa_nil) pa_nil))) (pv 2) (fun _ _ => rfl)) (C8.pe_gc (by rfl) Tx.gMaxYielded) (nomark _)) gts_no gts_nil)
    (gts_cons (gt_ex fun i : Addr × Addr × Op × List Str => gt_forgen Fx hr (fun s0 H0 => mkg_meth (pv 1) c me (gdef_walked (m := i.1) (d := i.2.1) (o := i.2.2.1) (T := i.2.2.2) Fw c me Tx cH 5) hr1 hr3 rfl bd (pa_cons pe_int (pa_cons (pe_tup pa_nil) (pa_cons (pv 2) pa_nil))) nc (fun _ _ z => z))
      (fun s0 H0 => pgk_name (i := 3) sc_matches.nd rfl rfl nc) (fun s0 H0 => (pq_dictK K rfl (pq_var (i := 3) rfl rfl) (by rfl) Tx.dict boot_dict rfl).k) rfl rfl) gts_nil))), ?_⟩
  intro H0 hsub
  have ho := ho.same hsub
  refine ⟨_, rfl, mk_read ho fun m d H1 s1 k1 hd => ?_⟩
  have hdb : Hb d = none := by
    cases e : Hb d with
    | none => rfl
    | some u => rw [hsub _ _ e] at hd; cases hd
  have rr : ∀ {Ha Hc : Hp}, RlS Hb H0 Ha → SameX d Ha Hc → RlS Hb H0 Hc := fun x y b u e1 e2 => y b u (fun z => by rw [z, hdb] at e1; cases e1) (x b u e1 e2)
  obtain ⟨dx, op, m1, _⟩ := k1.ex
  have h5 := k1.ok.olen
  have r1 : RlS Hb H0 H1 := fun b u _ e => s1 b u e
  have lab := ho.lab
  refine ⟨_, rfl, m, dx, _, rfl, m1, rfl, m, d, _, T, rfl, k1, fun H2 x2 k2 => ?_⟩
  have m2 := k1.keep x2 m1 (by intro φ z; cases z)
  have r2 := rr r1 x2
  refine ⟨_, rfl, m, dx, _, rfl, m2, rfl, by show 0 ≤ sizeLine; decide, fun q hq => ?_⟩
  have r3 : RlS Hb H0 (upd H2 q (.tup [])) := fun b u e1 e2 => upd_keep (r2 b u e1 e2) hq
  refine ⟨m, d, opsOf R T C, T, 0, [], q, rfl, k2.same (Same.upd hq), by omega, by omega, upd_same, List.nil_sublist _, fun p H3 s3 k3 hp => ?_⟩
  have hp : H3 p = some (.tup ((cn (opsOf R T C) []).map V.int)) := hp
  have r4 := rr r3 s3
  have m3 := (k2.same (Same.upd hq)).keep s3 (upd_keep m2 hq) (by intro φ z; cases z)
  have hnu : Ld.nu (opsOf R T C) [] ≤ (opsOf R T C).length := by rw [Ld.O_length]; exact Ld.nuO_le
  have hW : (Ld.W (opsOf R T C) [] (Ld.nu (opsOf R T C) [])).length ≤ 1546 := Nat.le_trans (Ld.wO_bound (nodup_tL.sublist lab.t) _) (Ld.Fn_le lab.clen lab.tlen)
  refine ⟨_, rfl, p, _, _, _, rfl, rfl, SqT.of hp, atI_nat (by rw [List.getElem?_map, cn_get (by omega)]; rfl), _, _, rfl, rfl, _, rfl, ?_⟩
  rw [decide_eq_false (p := ((5000 : Int) < ((Ld.W (opsOf R T C) [] (Ld.nu (opsOf R T C) [])).length : Int))) (by omega)]
  refine iteF ?_
  refine ⟨(m, d, opsOf R T C, T), ?_⟩
  refine ⟨_, rfl, m, dx, _, rfl, m3, rfl, by show 0 ≤ sizeLine; decide, fun qq hqq => ?_⟩
  have r5 : RlS Hb H0 (upd H3 qq (.tup [])) := fun b u e1 e2 => upd_keep (r4 b u e1 e2) hqq
  refine ⟨_, rfl, 0, Ld.nu (opsOf R T C) [], [], qq, rfl, k3.same (Same.upd hqq), Nat.zero_le _, by omega, upd_same, List.nil_sublist _, (Ld.W_ne _ _ _).mpr (Nat.le_refl _), ?_⟩
  rw [List.drop_zero]
  refine ⟨fun li l H0 σ H => li = l ∧ (∀ z ∈ li, z ∈ Ld.wO C T (fitR R) (nuR R T C)) ∧ RlS Hb H0 H ∧ ∃ x3, σ = [some (.ref o), some (.ref m), some (.int (Ld.nu (opsOf R T C) [])), x3], ⟨rfl, fun _ h => h, r5, _, rfl⟩, ?_, ?_⟩
  · rintro l H0 σ H ⟨rfl, _, b1, x3, rfl⟩ H6 b3
    exact ⟨rfl, fun b u e1 e2 => b3.1 b u (fun z => by rw [z, hdb] at e1; cases e1) (b1 b u e1 e2)⟩
  · rintro z r l H0 σ H ⟨rfl, hz, b1, x3, rfl⟩ y H6 b3 ⟨pz, rfl, hpz⟩
    obtain ⟨Lz, z1, z2, z3⟩ := hpz.ex
    have b4 : RlS Hb H0 H6 := fun b u e1 e2 => b3.1 b u (fun z => by rw [z, hdb] at e1; cases e1) (b1 b u e1 e2)
    refine ⟨_, rfl, pz, Lz.map (·.1), _, rfl, SqL.of (by rw [List.map_map]; exact z1), pairs_dict Lz z3, fun dd hdd => ?_⟩
    refine ⟨z, r, rfl, trivial, fun b u e1 e2 => upd_keep (b4 b u e1 e2) hdd, fun H8 h8 => ⟨rfl, fun x hx => hz x (List.mem_cons_of_mem _ hx), fun b u _ e => e, _, rfl⟩⟩
end
end Lk
/-! Kl11 -/
namespace Lk
open PySem PySem.Spec PyProof.Rows L2
open GenW
section
variable {P : Program} {w : World} {K : PySem.W.Frag} {mg : Str → Option Value} {base : Heap} {x qual : Str} {st : Stmt} {f : Addr} {N ps : List Str} {k : Nat} {α : Type} {It : α → Hp → V → Prop}
/-- a generator that has been made for one that lays one thing more -/
def BornS (P : Program) (w : World) (base : Heap) (Aw : Around) (outer : List Env) (It : α → Hp → V → Prop) (H : Hp) (s : Shared) (li : List α) (u : Value) (s1 : Shared) : Prop :=
  ∃ (a : Addr) (oa : Obj) (gs : GenState) (ss : Shared) (nm qn : Value), u = .ref a ∧ s.heap.objs.size < (a : Nat) ∧ s1.heap.get? a = some oa ∧ oa.cls = .type "generator" ∧ oa.data = .fields #[.int s.gens.size 0, nm, qn] ∧ (∀ n t, oa.slots[0]? = some (some (Value.int n t)) → ¬ n > 0) ∧
    (∀ b o, s.heap.get? b = some o → s1.heap.get? b = some o) ∧ s1.gens = s.gens.push gs ∧ gs.bare = true ∧ s1.os = s.os ∧ HOk P w H s1.heap ∧ s1.heap.objs.size = (a : Nat) + 1 ∧
    (∀ S : Nat, (a : Nat) < S → Alive P w base Aw outer s.heap.objs.size [a, S] s.gens.size (RlS H) It li H ss gs) ∧ Rst s.heap.objs.size [a] s.gens.size H ss H s1 ∧ ss.os = s.os
theorem call_gx {fd : FuncData} {A Aw : Around} {outer : List Env} {s : Shared} {H : Hp} {args : Args} {us : List Value} {vs : List V} {li : List α} (F : FunD K x qual (defArgs st) (defBody st) (defScope st) [] [] f fd) (S : GScope N ps (defScope st)) (pn : PlainNames (defScope st))
    (hr : Room (k + 1) A) (hrw : Room (k + 1) Aw) (hfr : Aw.frames = some outer) (e0 : Env0 P w K mg base A outer s H) (hb : BindsTo s fd args (ps.zip us)) (hl : vs.length = ps.length) (r : Vals vs us)
    (body : ∀ (cdv : Value) (L : Nat) (fo : List Addr) (g : Nat), (gfX P w K mg base N qual st f It (RlS H) cdv Aw outer L fo g).Fx → Room k (Aw.deeper (envOfC qual (defScope st) L f cdv)) →
      ∃ t, GSts (gfX P w K mg base N qual st f It (RlS H) cdv Aw outer L fo g) (defBody st) t ∧ ∀ H0, (∀ b u, H b = some u → H0 b = some u) → t { nx := fun l H0 _ H2 => l = [] ∧ RlS H H0 H2, rt := fun l H0 v H2 => l = [] ∧ v = .non ∧ RlS H H0 H2 } li H0 (start N vs) H0) :
    codeAny (model P w) A (.call (.ref f) args) (fun r s1 => ∃ u, r = .ok (.ret u) ∧ BornS P w base Aw outer It H s li u s1) s := by
  obtain ⟨oc, od, dV, kV, doc, pm, an, cdv, ct, osl, rfl, lk, hcd, _, _⟩ := F.ex
  refine gmake lk hcd S hr e0 hb hl r fun s1 go tk I1 os1 gen1 lt1 kp1 ob1 gg1 nc1 => ?_
  obtain ⟨o, nm, qn, q1, q2, q3, q4⟩ := ob1
  rw [gg1] at q1
  cases q1
  have kp2 : ∀ b o, s1.heap.get? b = some o → (s1.heap.push go).get? b = some o := fun b o e => Heap.get?_push_of_some _ e
  refine ⟨_, rfl, s1.heap.objs.size, go, _, s1, nm, qn, rfl, lt1, gg1, q2, q3, q4, fun b o e => kp2 b o (kp1 b o e), rfl, rfl, os1, I1.hok.kept kp2, by simp [Heap.push], fun S2 hS2 => ?_, ⟨fun _ _ e => e, fun b o _ _ e => kp2 b o e, fun _ _ _ _ n _ => n, fun j y hj e => ?_⟩, os1⟩
  · have up : ∀ b ∈ [s1.heap.objs.size, S2], s.heap.objs.size < (b : Nat) := fun b hb => by
      rcases List.mem_cons.mp hb with z | z
      · rw [z]; exact lt1
      · rw [List.mem_singleton.mp z]; exact Nat.lt_trans lt1 hS2
    have Fx : (gfX P w K mg base N qual st f It (RlS H) cdv Aw outer s.heap.objs.size [s1.heap.objs.size, S2] s.gens.size).Fx :=
      ⟨e0.mod, S.kind, e0.bsz, hrw.hd, hfr, fun b hb => let ⟨_, o, ho, _⟩ := e0.funs.mem hb; Heap.lt_size ho, up, plain_noc pn, plain_nok pn⟩
    obtain ⟨t, hG, ht⟩ := body cdv s.heap.objs.size [s1.heap.objs.size, S2] s.gens.size Fx (hrw.deeper _)
    have I2 := first_inv (fo := [s1.heap.objs.size, S2]) Fx I1 fun b hb => by
      have : s1.heap.objs.size ≤ (b : Nat) := by
        rcases List.mem_cons.mp hb with z | z
        · rw [z]; exact Nat.le_refl _
        · rw [List.mem_singleton.mp z]; exact Nat.le_of_lt hS2
      cases e : s1.heap.get? b with
      | none => rfl
      | some o => exact absurd (Heap.lt_size e) (Nat.not_lt.mpr this)
    exact gen_body (G := gfX P w K mg base N qual st f It (RlS H) cdv Aw outer s.heap.objs.size [s1.heap.objs.size, S2] s.gens.size) Fx hG I2 ht
  · rw [gen1] at e
    have : j < s.gens.size := (Array.getElem?_eq_some_iff.mp e).1
    exact absurd (Nat.lt_trans hj this) (Nat.lt_irrefl _)
end
/-- a call that makes a generator, for one that lays one thing more -/
structure MkS (X : Cx) (Aw : Around) (call : Expr) {α : Type} (It : α → Hp → V → Prop) (tc : L2.St → Hp → (List α → Hp → Prop) → Prop) : Prop where
  run : ∀ (pins : List (Addr × Obj)) (s : Shared) (σ : L2.St) (H : Hp) (R : List α → Hp → Prop), Inv X pins σ H s → tc σ H R → wpAny (model X.prog X.w) X.A (eval call X.env)
    (fun u s1 => ∃ (a : Addr) (oa : Obj) (L g : Nat) (H1 : Hp) (ss : Shared) (gs : GenState) (l : List α), u = .ref a ∧ Inv X (pins ++ [(a, oa)]) σ H1 s1 ∧ X.s_0.heap.objs.size ≤ L ∧ (X.env.locals : Nat) < L ∧ (∀ x c, X.env.cells.lookup x = some c → (c : Nat) < L) ∧ (∀ p ∈ X.pn ++ pins, (p.1 : Nat) < L) ∧ L < (a : Nat) ∧ s1.heap.objs.size = (a : Nat) + 1 ∧
      (∃ nm qn, oa.cls = .type "generator" ∧ oa.data = .fields #[.int g 0, nm, qn] ∧ ∀ n t, oa.slots[0]? = some (some (Value.int n t)) → ¬ n > 0) ∧ s1.gens[g]? = some gs ∧ (∀ S : Nat, (a : Nat) < S → Alive X.prog X.w X.base Aw X.stack L [a, S] g (RlS H1) It l H1 ss gs) ∧ Rst L [a] g H1 ss H1 s1 ∧ ss.os = X.s_0.os ∧ R l H1) (fun _ _ => False) s
section
variable {X : Cx} {qual x : Str} {st : Stmt} {f : Addr} {N : List Str} {k : Nat} {α : Type} {It : α → Hp → V → Prop} {p pos : Pos} {e : Expr} {te : TE} {Aw : Around} {y : Str}
theorem mks_call {fd : FuncData} {sp : V → Hp → (List α → Hp → Prop) → Prop} (F : FunD X.K x qual (defArgs st) (defBody st) (defScope st) [] [] f fd) (S : GScope N [y] (defScope st)) (pn : PlainNames (defScope st)) (bd : BindsBy x qual st [y])
    (hr : Room (k + 1) X.A) (hrw : Room (k + 1) Aw) (hf : Aw.frames = X.A.frames) (hg : Gl X x) (hm : X.mg x = some (.ref f)) (he : PE X e te) (hxe : ∀ v s, ¬ X.xe v s)
    (body : ∀ v H R, sp v H R → ∃ li, R li H ∧ ∀ (cdv : Value) (outer : List Env) (L : Nat) (fo : List Addr) (g : Nat), (gfX X.prog X.w X.K X.mg X.base N qual st f It (RlS H) cdv Aw outer L fo g).Fx → Room k (Aw.deeper (envOfC qual (defScope st) L f cdv)) →
      ∃ t, GSts (gfX X.prog X.w X.K X.mg X.base N qual st f It (RlS H) cdv Aw outer L fo g) (defBody st) t ∧ ∀ H0, (∀ b u, H b = some u → H0 b = some u) → t { nx := fun l H0 _ H2 => l = [] ∧ RlS H H0 H2, rt := fun l H0 v H2 => l = [] ∧ v = .non ∧ RlS H H0 H2 } li H0 (start N [v]) H0)
    (hdb : (x == ("__debug__" : Str)) = false := by decide) (hst : starEach [e] X.env = (false, eval e X.env) :: starEach [] X.env := by rfl) (hpl : (backTo pos (starEach [] X.env)).any (·.1) = false := by rfl) :
    MkS X Aw (.Call (.Name x p) [e] [] pos) It (fun σ H R => te σ H fun v H1 => sp v H1 R) := by
  refine ⟨fun pins s σ H R I h => ?_⟩
  refine wpAny_Call_Name_kw (ld_glob I hg hm ?_ hdb)
  refine PySem.W.callWith_K (h₀ := X.base) I.ok.mod.kin F.kp (wpAny_mono ((pa_cons he pa_nil (hs := hst)).run pos pins s σ H (fun vs H1 => ∃ v, vs = [v] ∧ sp v H1 R) I ?_) (fun us s1 z => ?_) fun v s' z => absurd z (hxe v s')) hst hpl
  · refine cast ?_ h
    congr 1
    funext v H1
    simp only [tNil, eq_iff_iff]
    constructor
    · intro q; exact ⟨v, rfl, q⟩
    · rintro ⟨v', e, q⟩; cases e; exact q
  obtain ⟨vs, H1, I1, r, v, rfl, q⟩ := z
  refine ⟨I1.kIn, ?_⟩
  obtain ⟨li, hR, hbody⟩ := body v H1 R q
  refine wpAny_call (codeAny_mono (call_gx (us := us) (vs := [v]) (li := li) F S pn hr hrw (hf.trans I1.ok.frames) I1.env0 ?_ rfl r (fun cdv L fo g => hbody cdv X.stack L fo g)) fun q s2 z => ?_)
  · have := (F.bindsN bd) s1 us I1.kIn (by rw [List.append_nil, ← r.length]; rfl)
    rw [List.append_nil] at this
    exact this
  · obtain ⟨u, rfl, a, oa, gs, ss, nm, qn, rfl, h1, h2, h3, h4, h5, kp, hg, hgb, hos, hok, hsz1, al, R1, ho⟩ := z
    have J : Inv X pins σ H1 s2 := by
      have J1 := I1.kept (h' := s2.heap) (t' := s2.toks) kp
      exact ⟨J1.ok, hos.trans I1.os, by rw [hg]; exact I1.bare.push hgb, J1.base, J1.loc, J1.cell, J1.free, J1.freeC, J1.pin, J1.hok, J1.len⟩
    have hsz : s1.heap.objs.size ≤ (a : Nat) := Nat.le_of_lt h1
    refine ⟨a, oa, s1.heap.objs.size, s1.gens.size, H1, ss, gs, li, rfl, J.pins_of fun p hp => ?_, I1.sz, I1.lt, fun y c e => (let ⟨_, z⟩ := I1.cell y c e; let ⟨_, z1, _⟩ := z; Heap.lt_size z1), fun p hp => Heap.lt_size (I1.pin p hp).1, h1, hsz1, ⟨nm, qn, h3, h4, h5⟩, by rw [hg]; simp, al, R1, ho.trans I1.os, hR⟩
    rcases List.mem_append.mp hp with z | z
    · exact J.pin p (List.mem_append_right _ z)
    · rw [List.mem_singleton.mp z]
      exact ⟨h2, I1.hok.fresh hsz, Nat.ne_of_gt (Nat.lt_of_lt_of_le I1.lt hsz), I1.nofs hsz, fun v z => by rw [h4] at z; cases z⟩
end
end Lk
/-! Kl12 -/
namespace Lk
open PySem PySem.Spec PyProof.Rows L2 GenW
section
variable {P : Program} {w : World} {A : Around} {E : Value → List Addr → Shared → Prop} {d : List Addr} {s : Shared}
theorem lw_call_entryF {T : String} {name : Str} {id : String} {b : Builtin} {self : Value} {rest : List Value} {Q : Value → List Addr → Shared → Prop} (h : Slot T name id) (hT : s.TypeIs self T) (hb : entryFor table id = some b)
    (hc : LW P w A.in1 (b ⟨self :: rest, []⟩) (FinQ P w A fun r d1 s1 => ∃ v, r = .ok (.ret v) ∧ Q v d1 s1) (fun _ _ _ => False) d s) (ha : argsOk id ⟨self :: rest, []⟩) : LW P w A (call (.builtin id) (self :: rest)) Q (fun _ _ _ => False) d s := by
  refine lw_runValue (lc_mono (RR := fun r d1 s1 => ∃ v, r = .ok (.ret v) ∧ Q v d1 s1) (lc_call_builtin h.plain hb (h.check _ _ _ _ _ _ _ _ hT ha (lw_mono hc (fun fin d1 s1 q => q) fun _ _ _ q => q.elim))) fun r d1 s1 q => ?_)
  obtain ⟨v, rfl, q⟩ := q
  exact q
theorem finq_mono {RR RR' : Result → List Addr → Shared → Prop} {fin : PySem.Fin} (h : FinQ P w A RR fin d s) (hR : ∀ r d1 s1, RR r d1 s1 → RR' r d1 s1) : FinQ P w A RR' fin d s := by
  cases fin with
  | done f => exact hR _ _ _ h
  | again c => exact ⟨h.1, lc_mono h.2 hR⟩
theorem lc_builtinW {id : String} {args : Args} {b : Builtin} {RR : Result → List Addr → Shared → Prop} (hu : A.under (.builtin id args) = A.in1) (hb : entryFor table id = some b) (h : LW P w A.in1 (b args) (FinQ P w A RR) (fun x => RR (.error x)) d s) : LC P w A (.builtin id args) RR d s := by
  refine lc_tree ?_
  rw [hu]
  show LW _ _ _ (match entryFor table id with | some b => b args | none => unsupported ((withoutEnding? id "#data").getD id)) _ _ d s
  rw [hb]
  exact h
/-- list(u): a new list, then what fills it -/
theorem lw_list {u : Value} {Q : Value → List Addr → Shared → Prop}
    (h : LW P w A.in1.in1 (Builtin.«list.__init__» ⟨[.ref s.heap.objs.size, u], []⟩) (FinQ P w A.in1 fun r d1 s1 => ∃ v, r = .ok (.ret v) ∧ v = .none ∧ Q (.ref s.heap.objs.size) d1 s1) (fun _ _ _ => False) d { s with heap := s.heap.push { cls := .type "list", data := .seq #[] } }) :
    LW P w A (call (.type "list") [u]) Q (fun _ _ _ => False) d s := by
  refine lw_runValue (lc_tree ?_)
  show LW _ _ _ (callAny (.type "list") ⟨[u], []⟩) _ _ _ _
  refine lw_pure ⟨Code.quiet_builtin _ (by decide +kernel), lc_builtinW (Around.under_plain (weight_type_call_type "list" [u] []) rfl) F.entry_type_call ?_⟩
  have h1 := F.called_list.notType
  have h2 := F.called_list.canCreate
  unfold Builtin.«type.__call__»
  simp only [h1, Bool.false_eq_true, if_false, h2]
  refine lw_bindw (wpAny_of_eq (F.typeCall_list_1 u) ?_)
  obtain ⟨c, tl, hmro⟩ := F.called_list.mro
  refine lw_bindw (wpAny_of_eq hmro ?_)
  simp only [List.isEmpty_cons, Bool.false_eq_true, if_false]
  refine lw_bindw (wpAny_of_eq F.called_list.made ?_)
  dsimp only
  refine lw_bindw (wpAny_pure ?_)
  refine lw_bindw (wpAny_holding (wpAny_call (codeAny_mono (code_list_new u (Q₁ := fun obj s₁ => obj = .ref s.heap.objs.size ∧ s₁ = { s with heap := s.heap.push { cls := .type "list", data := .seq #[] } }) (E := fun _ _ => False) ⟨rfl, rfl⟩) fun r s1 hr => ?_)))
  cases r with
  | error e => exact hr.elim
  | ok fl =>
    cases fl with
    | ret obj =>
      obtain ⟨rfl, rfl⟩ := hr
      have hS : (s.heap.push { cls := .type "list", data := .seq #[] }).get? s.heap.objs.size = some { cls := .type "list", data := .seq #[] } := Heap.get?_push_size _ rfl
      have hi : isInstance (.ref s.heap.objs.size) (.type "list") = (typeOf (.ref s.heap.objs.size) >>= fun t => isSubtype t (.type "list")) := rfl
      dsimp only
      rw [hi]
      refine lw_bindw (wpAny_bind (wpAny_typeOf_ref hS (wpAny_of_eq F.called_list.sub ?_)))
      simp only [Bool.not_true, Bool.false_eq_true, if_false]
      refine lw_bind (lw_holding (lw_special (T := "list") ⟨_, hS, rfl⟩ F.called_list.init (lw_call_entryF F.called_list.init ⟨_, hS, rfl⟩ F.entry_list_init (lw_mono h (fun fin d1 s1 q => finq_mono q fun r d2 s2 z => ?_) fun _ _ _ q => q) (F.args_list_init_2 _ _))))
      obtain ⟨v, rfl, rfl, q⟩ := z
      refine ⟨.none, rfl, ?_⟩
      dsimp only
      rw [if_neg (by decide)]
      exact lw_pure q
    | _ => exact hr.elim
end
def Cx.to (X : Cx) (A : Around) : Cx := { X with A := A }
theorem Inv.to {X : Cx} {A : Around} {pins : List (Addr × Obj)} {σ : L2.St} {H : Hp} {s : Shared} (I : Inv X pins σ H s) (hf : A.frames = X.A.frames) (hh : X.calm = true → A.handled = none) : Inv (Cx.to X A) pins σ H s :=
  ⟨⟨I.ok.mod, I.ok.kind, I.ok.glob, I.ok.blt, I.ok.above, I.ok.inj, I.ok.has, I.ok.cab, hh, hf.trans I.ok.frames, I.ok.stk, I.ok.exf, I.ok.bs, I.ok.bsz, I.ok.noex, I.ok.exfs, I.ok.funs, I.ok.frf⟩, I.os, I.bare, I.base, I.loc, I.cell, I.free, I.freeC, I.pin, I.hok, I.len⟩
theorem Inv.fro {X : Cx} {A : Around} {pins : List (Addr × Obj)} {σ : L2.St} {H : Hp} {s : Shared} (I : Inv (Cx.to X A) pins σ H s) (ok : X.Ok) : Inv X pins σ H s :=
  ⟨ok, I.os, I.bare, I.base, I.loc, I.cell, I.free, I.freeC, I.pin, I.hok, I.len⟩
/-- a pinned object turns -/
theorem LI.turn {X : Cx} {pins : List (Addr × Obj)} {σ : L2.St} {H : Hp} {d : List Addr} {s s' : Shared} {a : Addr} {o o' : Obj} (I : LI X (pins ++ [(a, o)]) σ H d s) (hs : X.s_0.heap.objs.size ≤ a) (hc : ∀ x c, X.env.cells.lookup x = some c → c ≠ a) (hp : ∀ p ∈ X.pn ++ pins, p.1 ≠ a)
    (e1 : s'.heap.get? a = some o') (e2 : ∀ b, b ≠ a → s'.heap.get? b = s.heap.get? b) (c1 : ∀ v, o'.data ≠ .cell v) (c2 : o.genNumber? = none) (g : s'.gens = s.gens) (os : s'.os = s.os) : LI X (pins ++ [(a, o')]) σ H d s' := by
  obtain ⟨p1, p2, p3, p4, p5⟩ := I.inv.pin (a, o) (List.mem_append_right _ (List.mem_append_right _ (List.mem_singleton.mpr rfl)))
  have J : Inv X pins σ H s := I.inv.pins_of fun p hp => I.inv.pin p (List.mem_append_right _ (List.mem_append_left _ hp))
  have J0 : Inv X pins σ H { s with heap := s'.heap } := J.turned (it := a) (t' := s.toks) (fun b o hb e => (e2 b hb).trans e) p2 p3 (.inr hs) hc hp
  have J1 : Inv X pins σ H s' := ⟨J0.ok, os.trans J0.os, by rw [g]; exact J0.bare, J0.base, J0.loc, J0.cell, J0.free, J0.freeC, J0.pin, J0.hok, J0.len⟩
  refine ⟨J1.pins_of fun p hp => ?_, fun b hb => ?_⟩
  · rcases List.mem_append.mp hp with z | z
    · exact J1.pin p (List.mem_append_right _ z)
    · rw [List.mem_singleton.mp z]
      exact ⟨e1, p2, p3, p4, c1⟩
  · obtain ⟨n, ob, e, q⟩ := I.dok b hb
    have hba : b ≠ a := fun z => not_gen p1 c2 (z ▸ ⟨ob, e, q⟩)
    exact ⟨n, ob, (e2 b hba).trans e, q⟩
section
variable {X : Cx} {pins : List (Addr × Obj)} {σ : L2.St} {A : Around} {a S L g : Nat} {oa : Obj} {Hb : Hp} {α : Type} {It : α → Hp → V → Prop}
/-- the list is filled -/
theorem lc_drain (hh : A.in1.handled = none) (hd : A.in1.depth < recursionLimit) (pr : Pr X pins L []) (ha : L < a) (hS : a < S) (hg : ∃ nm qn, oa.cls = .type "generator" ∧ oa.data = .fields #[.int g 0, nm, qn] ∧ ∀ n t, oa.slots[0]? = some (some (Value.int n t)) → ¬ n > 0) :
    ∀ (l : List α) (acc : Array Value) (c : Nat) (ys : List V) (H : Hp) (d : List Addr) (s : Shared) (gs : GenState) (Hs : Hp) (ss : Shared), LI (Cx.to X A.in1) ((pins ++ [(a, oa)]) ++ [(S, lstObj acc c)]) σ H d s → Vals ys acc.toList → acc.size + l.length ≤ sizeLine → s.gens[g]? = some gs →
      Alive X.prog X.w X.base A.in1.in1 X.stack L [a, S] g (RlS Hb) It l Hs ss gs → Rst L [a, S] g Hs ss H s → ss.os = X.s_0.os →
      LC X.prog X.w A (.builtin "list.extend.loop" ⟨[.ref S, .ref a, .none], []⟩) (fun r d1 s1 => r = .ok (.ret .none) ∧ ∃ H1 acc1 c1 ys1, LI (Cx.to X A.in1) ((pins ++ [(a, oa)]) ++ [(S, lstObj acc1 c1)]) σ H1 d1 s1 ∧ Vals ys1 acc1.toList ∧ ys1.length = ys.length + l.length ∧ acc1.size ≤ sizeLine ∧ RlS Hb H H1) d s := by
  obtain ⟨nm, qn, o1, o2, o3⟩ := hg
  have prS : ∀ acc c, Pr (Cx.to X A.in1) ((pins ++ [(a, oa)]) ++ [(S, lstObj acc c)]) L [a, S] := fun acc c => by
    refine ⟨pr.s0, pr.loc, pr.cell, fun p hp => ?_, fun b hb => ?_⟩
    · rcases List.mem_append.mp hp with z | z
      · rcases pr.pin p (List.mem_append_left _ z) with q | q
        · exact .inl q
        · cases q
      rcases List.mem_append.mp z with z | z
      · rcases List.mem_append.mp z with z | z
        · rcases pr.pin p (List.mem_append_right _ z) with q | q
          · exact .inl q
          · cases q
        · exact .inr (by rw [List.mem_singleton.mp z]; exact List.mem_cons_self)
      · exact .inr (by rw [List.mem_singleton.mp z]; exact List.mem_cons_of_mem _ List.mem_cons_self)
    · rcases List.mem_cons.mp hb with z | z
      · exact ⟨oa, by rw [z]; exact List.mem_append_right _ (List.mem_append_left _ (List.mem_append_right _ (List.mem_singleton.mpr rfl)))⟩
      · exact ⟨lstObj acc c, by rw [List.mem_singleton.mp z]; exact List.mem_append_right _ (List.mem_append_right _ (List.mem_singleton.mpr rfl))⟩
  have gp : ∀ acc c, GPin (Cx.to X A.in1) ((pins ++ [(a, oa)]) ++ [(S, lstObj acc c)]) a g := fun acc c =>
    ⟨oa, nm, qn, List.mem_append_right _ (List.mem_append_left _ (List.mem_append_right _ (List.mem_singleton.mpr rfl))), o1, o2, o3⟩
  intro l
  induction l with
  | nil =>
    intro acc c ys H d s gs Hs ss I hv hz hgs al R ho
    refine lc_builtin F.plain_extend_loop F.entry_extend_loop ?_
    show LW _ _ A.in1 (pyNext (.ref a) >>= _) _ _ d s
    refine lw_bind (pair_next (X := Cx.to X A.in1) I (prS acc c) hh hd (gp acc c) hgs al R ho (fun _ H1 d1 s1 I2 hz2 rl => ?_) fun y r e0 => by cases e0)
    exact lw_pure ⟨rfl, H1, acc, c, ys, I2, hv, rfl, by omega, rl⟩
  | cons x r ih =>
    intro acc c ys H d s gs Hs ss I hv hz hgs al R ho
    refine lc_builtin F.plain_extend_loop F.entry_extend_loop ?_
    show LW _ _ A.in1 (pyNext (.ref a) >>= _) _ _ d s
    refine lw_bind (pair_next (X := Cx.to X A.in1) I (prS acc c) hh hd (gp acc c) hgs al R ho (fun e0 => by cases e0) fun z2 r2 e0 v y H1 d1 s1 s2 gs2 I2 hz2 rl rv hIt hgs2 al2 R2 ho2 => ?_)
    cases e0
    rw [List.length_cons] at hz
    have hS1 := (I2.inv.pin (S, lstObj acc c) (List.mem_append_right _ (List.mem_append_right _ (List.mem_singleton.mpr rfl)))).1
    show LW _ _ A.in1 (updateSeq S (·.push v) >>= _) _ _ d1 s1
    refine lw_bindw (wpAny_updateSeq hS1 rfl ?_ (by omega) (by show (acc.push v).size ≤ sizeLine + 1; rw [Array.size_push]; omega))
    have keep3 : ∀ b, b ≠ S → (s1.heap.update S (Obj.mapSeq (·.push v))).get? b = s1.heap.get? b := fun b hbS => Heap.get?_update_other _ _ (Ne.symm hbS)
    have own3 := Heap.get?_update_self (Obj.mapSeq (·.push v)) hS1 rfl
    have J : LI (Cx.to X A.in1) ((pins ++ [(a, oa)]) ++ [(S, lstObj (acc.push v) _)]) σ H1 d1 { s1 with heap := s1.heap.update S (Obj.mapSeq (·.push v)) } := I2.turn (Nat.le_trans pr.s0 (Nat.le_of_lt (Nat.lt_trans ha hS))) (fun x c e z => Nat.lt_irrefl _ (Nat.lt_trans (Nat.lt_of_lt_of_le (z ▸ pr.cell x c e) (Nat.le_of_lt ha)) hS))
      (fun p hp z => ?_) own3 keep3 (fun v e => by cases e) rfl rfl rfl
    · refine lw_pure ⟨plainId_quiet F.plain_extend_loop _, lc_mono (ih (acc.push v) _ (ys ++ [y]) H1 d1 _ gs2 H1 s2 J (by rw [Array.toList_push]; exact hv.append (.cons rv .nil)) (by rw [Array.size_push]; omega) hgs2 al2 (R2.step (fun _ _ e => e) (fun b o _ hb e => (keep3 b fun z => hb (by rw [z]; exact List.mem_cons_of_mem _ List.mem_cons_self)).trans e) (fun _ _ _ _ _ n => n) fun j x _ e => e) ho2) fun r' d3 s3 z => ?_⟩
      obtain ⟨e, H3, acc1, c1, ys1, I3, v3, l3, z3, r3⟩ := z
      exact ⟨e, H3, acc1, c1, ys1, I3, v3, by rw [l3, List.length_append, List.length_cons, List.length_cons, List.length_nil]; omega, z3, fun b u e1 e2 => r3 b u e1 (rl b u e1 e2)⟩
    · have : (p.1 : Nat) < S := by
        rcases List.mem_append.mp hp with q | q
        · rcases pr.pin p (List.mem_append_left _ q) with q | q
          · exact Nat.lt_trans q (Nat.lt_trans ha hS)
          · cases q
        rcases List.mem_append.mp q with q | q
        · rcases pr.pin p (List.mem_append_right _ q) with q | q
          · exact Nat.lt_trans q (Nat.lt_trans ha hS)
          · cases q
        · rw [List.mem_singleton.mp q]; exact hS
      exact Nat.lt_irrefl _ (z ▸ this)
end
end Lk
/-! Kl13 -/
namespace Lk
open PySem PySem.Spec PyProof.Rows L2 GenW
theorem LI.lay {X : Cx} {pins : List (Addr × Obj)} {σ : L2.St} {H : Hp} {d : List Addr} {s : Shared} {S : Addr} {acc : Array Value} {c : Nat} {out : List V} (I : LI X (pins ++ [(S, lstObj acc c)]) σ H d s) (hS : X.s_0.heap.objs.size ≤ S) (hc : ∀ x c, X.env.cells.lookup x = some c → c ≠ S) (hp : ∀ p ∈ X.pn ++ pins, p.1 ≠ S)
    (r : Vals out acc.toList) (hl : out.length ≤ sizeLine) : LI X pins σ (upd H S (.lst out)) d s := by
  obtain ⟨p1, p2, p3, p4, p5⟩ := I.inv.pin (S, lstObj acc c) (List.mem_append_right _ (List.mem_append_right _ (List.mem_singleton.mpr rfl)))
  have I0 := I.inv
  have old : ∀ b o, X.s_0.heap.get? b = some o → b ≠ S := fun b o e => Nat.ne_of_lt (Nat.lt_of_lt_of_le (Heap.lt_size e) hS)
  have kp : ∀ b u, H b = some u → upd H S (.lst out) b = some u := fun b u e => by rw [upd_ne (ne_of_none e p2)]; exact e
  refine ⟨⟨I0.ok, I0.os, I0.bare, ⟨I0.base.keep, I0.base.slot, fun b o e n hx => ?_, I0.base.there, fun b xs e => kp _ _ (I0.base.tups b xs e), fun b o y e => kp _ _ (I0.base.frzs b o y e), fun b ps e => ?_⟩, I0.loc, I0.cell, ?_, fun x c e => ?_, fun p hq => ?_, fun b u q => ?_, I0.len⟩, fun b hb => ?_⟩
  · rw [upd_ne (old b o e)]; exact I0.base.free b o e n hx
  · obtain ⟨more, q⟩ := I0.base.tbls b ps e
    exact ⟨more, kp _ _ q⟩
  · rw [upd_ne (Ne.symm p3)]; exact I0.free
  · rw [upd_ne (hc x c e)]; exact I0.freeC x c e
  · obtain ⟨q1, q2, q3, q4, q5⟩ := I0.pin p (by
      rcases List.mem_append.mp hq with z | z
      · exact List.mem_append_left _ z
      · exact List.mem_append_right _ (List.mem_append_left _ z))
    exact ⟨q1, by rw [upd_ne (hp p hq)]; exact q2, q3, q4, q5⟩
  · by_cases hb : b = S
    · subst hb
      rw [upd_same] at q
      cases q
      exact ⟨hl, acc.toList, c, r, by rw [p1]⟩
    · rw [upd_ne hb] at q
      exact (I0.hok b u q).stay (fun _ _ _ z => z) (fun d z => kp _ _ z) fun d xs z => kp _ _ z
  · obtain ⟨n, ob, e, q⟩ := I.dok b hb
    have hba : b ≠ S := fun z => not_gen p1 rfl (z ▸ ⟨ob, e, q⟩)
    exact ⟨by rw [upd_ne hba]; exact n, ob, e, q⟩
section
variable {X : Cx} {p pos : Pos} {call : Expr} {nm : Str} {α : Type} {It : α → Hp → V → Prop} {tc : L2.St → Hp → (List α → Hp → Prop) → Prop}
theorem lpe_listS {k : Nat} (hr : Room (k + 3) X.A) (hx : NoX X) (hcalm : X.calm = true) (hc : MkS X X.A.in1.in1.in1 call It tc) (hg : Gl X nm) (hmg : X.mg nm = none) (hv : bootBuiltins nm = some (.type "list")) (hn : nm ≠ "__name__" := by decide) (hdb : (nm == ("__debug__" : Str)) = false := by decide)
    (he : starEach [call] X.env = [(false, eval call X.env)] := by rfl) : LPE X (.Call (.Name nm p) [call] [] pos) (fun σ H Q => tc σ H fun l H1 => l.length ≤ sizeLine ∧ ∀ S H2 out, Same H1 H2 → out.length = l.length → H2 S = some (.lst out) → Q (.ref S) H2) := by
  refine ⟨fun pins s σ H d Q I q => ?_⟩
  have gd0 := I.dok.gen
  rw [arm_eval_Call_Name']
  refine lw_bindw (ld_blt I.inv hg hmg hv ?_ hn hdb)
  show LW _ _ _ (callWith pos (.type "list") [] (backTo pos (starEach [call] X.env)) []) _ _ d s
  rw [he]
  unfold callWith
  refine lw_bind (lw_holding (lw_mono (Q := fun (x : Args) d1 s1 => d1 = d ∧ ∃ (a : Addr) (oa : Obj) (L g : Nat) (H1 : Hp) (ss : Shared) (gs : GenState) (l : List α), x = ⟨[.ref a], []⟩ ∧ LI X (pins ++ [(a, oa)]) σ H1 d s1 ∧ Pr X pins L [] ∧ L < (a : Nat) ∧ s1.heap.objs.size = (a : Nat) + 1 ∧
      (∃ nm qn, oa.cls = .type "generator" ∧ oa.data = .fields #[.int g 0, nm, qn] ∧ ∀ n t, oa.slots[0]? = some (some (Value.int n t)) → ¬ n > 0) ∧ s1.gens[g]? = some gs ∧ (∀ S : Nat, (a : Nat) < S → Alive X.prog X.w X.base X.A.in1.in1.in1 X.stack L [a, S] g (RlS H1) It l H1 ss gs) ∧ Rst L [a] g H1 ss H1 s1 ∧ ss.os = X.s_0.os ∧
      l.length ≤ sizeLine ∧ ∀ S H2 out, Same H1 H2 → out.length = l.length → H2 S = some (.lst out) → Q (.ref S) H2) (E := fun _ _ _ => False) (lw_evalArgs ?_) (fun x d1 s1 z => lw_bind (lw_standAt ?_)) fun _ _ _ z => z))
  · show LW _ _ _ (spliced [(false, eval call X.env)]) _ _ d s
    rw [spliced]
    refine lw_bindw (wpAny_mono (hc.run _ s σ H _ I.up q) (fun u s1 z => ?_) fun _ _ z => z)
    obtain ⟨a, oa, L, g, H1, ss, gs, l, rfl, I1, p1, p2, p3, p4, p5, p6, p7, p8, al, R, ho, hl, q1⟩ := z
    simp only [Bool.false_eq_true, if_false]
    refine lw_bind (lw_pure (lw_bind (lw_holding (lw_mono (Q := fun vs d2 s2 => vs = [] ∧ d2 = d ∧ s2 = s1) (E := fun _ _ _ => False) (lw_of (Calls.spliced_nil ⟨rfl, rfl, rfl⟩)) (fun vs d2 s2 h => ?_) fun _ _ _ z => z))))
    obtain ⟨rfl, rfl, rfl⟩ := h
    refine lw_pure ⟨rfl, a, oa, L, g, H1, ss, gs, l, rfl, .of (h0 := s.heap) (I1.pins_of fun p hp => ?_) gd0, ⟨p1, p2, p3, fun p hp => .inl (p4 p ?_), fun b hb => by cases hb⟩, p5, p6, p7, p8, al, R, ho, hl, q1⟩
    · rcases List.mem_append.mp hp with z | z
      · rcases List.mem_append.mp z with z | z
        · exact I1.pin p (List.mem_append_right _ (List.mem_append_left _ (List.mem_append_left _ z)))
        · exact I1.pin p (List.mem_append_right _ (List.mem_append_right _ z))
      · exact I1.pin p (List.mem_append_right _ (List.mem_append_left _ (List.mem_append_right _ z)))
    · rcases List.mem_append.mp hp with z | z
      · exact List.mem_append_left _ z
      · exact List.mem_append_right _ (List.mem_append_left _ z)
  obtain ⟨rfl, a, oa, L, g, H1, ss, gs, l, rfl, I1, pr, haL, hsz, hob, hgs, al, R, ho, hl, q1⟩ := z
  refine lw_bindw (wpAny_pure ?_)
  obtain ⟨nm', qn, o1, o2, o3⟩ := id hob
  have I1a := I1.inv.pin (a, oa) (List.mem_append_right _ (List.mem_append_right _ (List.mem_singleton.mpr rfl)))
  have hgo : GenOb s1.heap a g := ⟨oa, nm', qn, I1a.1, o1, o2, o3⟩
  have hSa : s1.heap.objs.size ≠ a := by rw [hsz]; exact Nat.ne_of_gt (Nat.lt_succ_self _)
  have haS : (a : Nat) < s1.heap.objs.size := by rw [hsz]; exact Nat.lt_succ_self _
  have hLS : L < s1.heap.objs.size := Nat.lt_trans haL haS
  refine lw_bind (lw_list ?_)
  have hS : (s1.heap.push { cls := .type "list", data := .seq #[] }).get? s1.heap.objs.size = some { cls := .type "list", data := .seq #[] } := Heap.get?_push_size _ rfl
  refine lw_of ?_
  show wpAny _ X.A.in1.in1 (do let old ← Builtin.List.listItems (.ref s1.heap.objs.size); Builtin.List.listUpdate (.ref s1.heap.objs.size) (fun _ => #[]); letGo old.toList.reverse; Builtin.List.listExtendWith (.ref s1.heap.objs.size) (.ref a) .none) _ _ _
  refine wpAny_bind ?_
  unfold Builtin.List.listItems
  refine wpAny_bind (wpAny_seqItems hS rfl (wpAny_pure ?_))
  show wpAny _ X.A.in1.in1 (updateSeq s1.heap.objs.size (fun _ => #[]) >>= fun _ => letGo (#[] : Array Value).toList.reverse >>= fun _ => Builtin.List.listExtendWith (.ref s1.heap.objs.size) (.ref a) .none) _ _ _
  refine wpAny_bind (wpAny_updateSeq hS rfl ?_)
  have hS2 := Heap.get?_update_self (Obj.mapSeq (fun _ => (#[] : Array Value))) hS rfl
  refine wpAny_bind (wpAny_letGo ?_)
  unfold Builtin.List.listExtendWith
  have up : ∀ (h : Heap) (f : Obj → Obj), (∀ b o, s1.heap.get? b = some o → h.get? b = some o) → ∀ b o, s1.heap.get? b = some o → (h.update s1.heap.objs.size f).get? b = some o := fun h f q b o e =>
    (Heap.get?_update_other _ _ (Ne.symm (Nat.ne_of_lt (Heap.lt_size e)))).trans (q b o e)
  have k1 : ∀ b o, s1.heap.get? b = some o → (s1.heap.push { cls := .type "list", data := .seq #[] }).get? b = some o := fun b o e => Heap.get?_push_of_some _ e
  have k2 := up _ (Obj.mapSeq (fun _ => (#[] : Array Value))) k1
  have gty : ∀ {h : Heap}, (∀ b o, s1.heap.get? b = some o → h.get? b = some o) → GenOb h a g := fun {h} q => hgo.keeps fun o e => q a o e
  refine wpAny_bind (wpAny_typeOf (GenOb.ty (s := { s1 with heap := _ }) (gty k2)) ?_)
  have h1 : Builtin.List.listSameRef (.ref s1.heap.objs.size) (.ref a) = false := by simp [Builtin.List.listSameRef, hSa]
  have h2 : (Value.type "generator" == Value.type "list") = false := by decide
  have h3 : (Value.type "generator" == Value.type "tuple") = false := by decide
  simp only [h1, h2, h3, Bool.or_false, Bool.false_eq_true, if_false]
  refine wpAny_bind (wpAny_iterGen (s := { s1 with heap := _ }) (gty k2) ?_)
  refine wpAny_bind (wpAny_holding ?_)
  unfold Builtin.List.listLengthHint
  refine wpAny_bind (wpAny_specialOf (GenOb.ty (s := { s1 with heap := _ }) (gty k2)) F.gen_no_len ?_)
  show wpAny _ X.A.in1.in1 (specialOf (Value.ref a) (Str.ofString "__length_hint__") >>= _) _ _ _
  refine wpAny_bind (wpAny_specialOf (GenOb.ty (s := { s1 with heap := _ }) (gty k2)) F.gen_no_hint ?_)
  refine wpAny_pure ?_
  show wpAny _ X.A.in1.in1 (rule "list.extend.makes-room" >>= fun _ => Builtin.List.listTouch (.ref s1.heap.objs.size) >>= fun _ =>
    again (.builtin "list.extend.loop" ⟨[.ref s1.heap.objs.size, .ref a, .none], []⟩)) _ _ _
  refine wpAny_bind (wpAny_rule ?_)
  refine wpAny_bind ?_
  show wpAny _ X.A.in1.in1 (updateSeq s1.heap.objs.size (·.push .none) >>= fun _ => updateSeq s1.heap.objs.size (·.pop)) _ _ _
  refine wpAny_bind (wpAny_updateSeq hS2 rfl ?_)
  have hS3 := Heap.get?_update_self (Obj.mapSeq (·.push Value.none)) hS2 rfl
  refine wpAny_updateSeq (hz := by seq_fits) hS3 rfl ?_
  have hS4 := Heap.get?_update_self (Obj.mapSeq (·.pop)) hS3 rfl
  have k4 := up _ (Obj.mapSeq (·.pop)) (up _ (Obj.mapSeq (·.push Value.none)) k2)
  refine wpAny_pure ⟨plainId_quiet F.plain_extend_loop _, ?_⟩
  generalize hh4 : (((s1.heap.push { cls := .type "list", data := .seq #[] }).update s1.heap.objs.size (Obj.mapSeq fun _ => (#[] : Array Value))).update s1.heap.objs.size (Obj.mapSeq (·.push Value.none))).update s1.heap.objs.size (Obj.mapSeq (·.pop)) = h4 at hS4 k4 ⊢
  obtain ⟨c4, hS5⟩ : ∃ c, h4.get? s1.heap.objs.size = some (lstObj #[] c) := ⟨_, hS4⟩
  have J1 : Inv X (pins ++ [(a, oa)]) σ H1 { s1 with heap := h4 } := I1.inv.kept (t' := s1.toks) k4
  have fr : H1 s1.heap.objs.size = none := I1.inv.hok.fresh (Nat.le_refl _)
  have J2 : LI (Cx.to X X.A.in1.in1) ((pins ++ [(a, oa)]) ++ [(s1.heap.objs.size, lstObj #[] c4)]) σ H1 d1 { s1 with heap := h4 } := by
    refine ⟨Inv.to (J1.pins_of fun p hp => ?_) rfl fun _ => hr.hd, fun b hb => ?_⟩
    · rcases List.mem_append.mp hp with z | z
      · exact J1.pin p (List.mem_append_right _ z)
      · rw [List.mem_singleton.mp z]
        exact ⟨hS5, fr, Nat.ne_of_gt (Nat.lt_trans pr.loc hLS), I1.inv.nofs (Nat.le_refl _), fun v e => by cases e⟩
    · obtain ⟨n, o, e, q⟩ := I1.dok b hb
      exact ⟨n, o, k4 b o e, q⟩
  refine lc_mono (lc_drain (A := X.A.in1) hr.hd ?_ pr haL haS hob l #[] c4 [] H1 d1 { s1 with heap := h4 } gs H1 ss J2 .nil (by simpa using hl) hgs (al _ haS) ⟨R.sub, fun b o x1 x2 e => k4 b o (R.raw b o x1 (fun z => x2 (by rw [List.mem_singleton.mp z]; exact List.mem_cons_self)) e), fun b o x1 x2 n e => R.fre b o x1 (fun z => x2 (by rw [List.mem_singleton.mp z]; exact List.mem_cons_self)) n e, R.gens⟩ ho) fun r d3 s3 z => ?_
  · have := hr.dp
    show X.A.depth < _
    omega
  obtain ⟨rfl, H3, acc1, c1, ys1, I3, v3, l3, z3, r3⟩ := z
  refine ⟨.none, rfl, rfl, ?_⟩
  have I4 : LI X ((pins ++ [(a, oa)]) ++ [(s1.heap.objs.size, lstObj acc1 c1)]) σ H3 d3 s3 := ⟨Lk.Inv.fro I3.inv I1.inv.ok, I3.dok⟩
  have pS : H3 s1.heap.objs.size = none := (I4.inv.pin (s1.heap.objs.size, lstObj acc1 c1) (List.mem_append_right _ (List.mem_append_right _ (List.mem_singleton.mpr rfl)))).2.1
  have pS2 : ∀ y ∈ X.pn ++ (pins ++ [(a, oa)]), y.1 ≠ s1.heap.objs.size := fun y hy z => by
    have hp2 : (y.1 : Nat) < s1.heap.objs.size := by
      rcases List.mem_append.mp hy with q | q
      · rcases pr.pin y (List.mem_append_left _ q) with q | q
        · exact Nat.lt_trans q hLS
        · cases q
      rcases List.mem_append.mp q with q | q
      · rcases pr.pin y (List.mem_append_right _ q) with q | q
        · exact Nat.lt_trans q hLS
        · cases q
      · rw [List.mem_singleton.mp q]; exact haS
    rw [z] at hp2
    exact Nat.lt_irrefl _ hp2
  have I5 : LI X (pins ++ [(a, oa)]) σ (upd H3 s1.heap.objs.size (.lst ys1)) d3 s3 := I4.lay (Nat.le_trans pr.s0 (Nat.le_of_lt hLS)) (fun x c e z => Nat.lt_irrefl _ (Nat.lt_trans (z ▸ pr.cell x c e) hLS)) pS2 v3 (by rw [l3, List.length_nil, Nat.zero_add]; exact hl)
  have q2 := q1 s1.heap.objs.size (upd H3 s1.heap.objs.size (.lst ys1)) ys1 (fun b u e => upd_keep (r3 b u e e) pS) (by rw [l3]; simp) upd_same
  exact lw_bindw (wpAny_holding (wpAny_point (lw_pure ⟨.ref s1.heap.objs.size, _, I5.sub, rfl, q2⟩)))
end
end Lk
/-! Kl14 -/
namespace Lk
open PySem PySem.Spec PyProof.Rows L2 GenW
section
variable {P : Program} {w : World} {A : Around} {d : List Addr} {s : Shared}
/-- one turn -/
theorem lc_compLoop {elt target iter c : Expr} {scope : Scope} {pos : Pos} {it acc : Value} {env : Env} {RR : Result → List Addr → Shared → Prop}
    (h : LW P w A (pyNext it) (fun r d1 s1 => match r with
      | none => RR (.ok .next) d1 s1
      | some v => wpAny (model P w) A (letOwnedTupleGo target it v) (fun _ s2 => wpAny (model P w) A (assign target env v) (fun _ s3 => LW P w A (isTrue c env (eval c env)) (fun ok d4 s4 =>
          if ok = true then wpAny (model P w) A (eval elt env) (fun x s5 => wpAny (model P w) A (call (.builtin "list.append") [acc, x]) (fun _ s6 => LC P w A (.compLoop (.ListComp elt [⟨target, iter, [c], 0⟩] scope pos) 0 it acc env) RR d4 s6) (fun _ _ => False) s5) (fun _ _ => False) s4
          else LC P w A (.compLoop (.ListComp elt [⟨target, iter, [c], 0⟩] scope pos) 0 it acc env) RR d4 s4) (fun _ _ _ => False) d1 s3) (fun _ _ => False) s2) (fun _ _ => False) s1) (fun _ _ _ => False) d s) :
    LC P w A (.compLoop (.ListComp elt [⟨target, iter, [c], 0⟩] scope pos) 0 it acc env) RR d s := by
  have hA : A.under (.compLoop (.ListComp elt [⟨target, iter, [c], 0⟩] scope pos) 0 it acc env) = A := Around.under_of_weight rfl rfl
  refine lc_tree ?_
  rw [hA]
  show LW _ _ A ((compTurn (.ListComp elt [⟨target, iter, [c], 0⟩] scope pos) 0 it acc env).onRaise (fun x => do noteFrame x env; theTreesLotGoes x)) _ _ d s
  refine lw_onRaise (lw_mono (E := fun _ _ _ => False) ?_ (fun _ _ _ q => q) fun _ _ _ q => q.elim)
  rw [compTurn_list]
  refine lw_bind (lw_standAt (lw_bind (lw_mono h (fun r d1 s1 h1 => ?_) fun _ _ _ q => q)))
  cases r with
  | none => exact lw_pure h1
  | some v =>
    refine lw_bindw (wpAny_mono h1 (fun _ s2 h2 => ?_) fun _ _ q => q)
    refine lw_bindw (wpAny_mono h2 (fun _ s3 h3 => ?_) fun _ _ q => q)
    refine lw_bind ?_
    simp only [List.forIn_cons, List.forIn_nil, if_true]
    refine lw_bind (lw_bind (lw_mono h3 (fun ok d4 s4 h4 => lw_pure (lw_pure ?_)) fun _ _ _ q => q))
    cases ok with
    | false => exact lw_pure ⟨rfl, h4⟩
    | true => exact lw_bindw (wpAny_bind (wpAny_mono h4 (fun x s5 h5 => wpAny_bind (wpAny_mono h5 (fun _ s6 h6 => wpAny_pure (lw_pure ⟨rfl, h6⟩)) fun _ _ q => q)) fun _ _ q => q))
theorem lc_compStart {elt target iter : Expr} {ifs : List Expr} {scope : Scope} {pos : Pos} {it acc : Value} {env : Env} {RR : Result → List Addr → Shared → Prop}
    (h0 : LC P w A (.compLoop (.ListComp elt [⟨target, iter, ifs, 0⟩] scope pos) 0 it acc env) RR d s)
    (h : wpAny (model P w) A (pyIter it) (fun it' s' => LC P w A (.compLoop (.ListComp elt [⟨target, iter, ifs, 0⟩] scope pos) 0 it' acc env) RR d s') (fun _ _ => False) s) :
    LC P w A (.compStart (.ListComp elt [⟨target, iter, ifs, 0⟩] scope pos) 0 it acc env) RR d s := by
  have hA : A.under (.compStart (.ListComp elt [⟨target, iter, ifs, 0⟩] scope pos) 0 it acc env) = A := Around.under_of_weight rfl rfl
  refine lc_tree ?_
  rw [hA]
  show LW _ _ _ ((compStart (.ListComp elt [⟨target, iter, ifs, 0⟩] scope pos) 0 it acc env).onRaise (fun x => do noteFrame x env; standAt theWindowsPlace)) _ _ d s
  refine lw_onRaise (lw_mono (E := fun _ _ _ => False) (lw_of ?_) (fun _ _ _ q => q) fun _ _ _ q => q.elim)
  unfold compStart
  show wpAny _ _ (ask >>= _) _ _ s
  refine wpAny_bind (wpAny_askSetting (wpAny_ite ?_))
  split
  · first
      | exact wpAny_bind (wpAny_pure (wpAny_pure (And.intro rfl h0)))
      | exact wpAny_pure (And.intro rfl h0)
  · first
      | exact wpAny_bind (wpAny_rule (wpAny_bind (wpAny_standAt (wpAny_bind (wpAny_mono h (fun it' s' h' => wpAny_pure (And.intro rfl h')) fun _ _ x => x)))))
      | (refine wpAny_bind (wpAny_rule ?_); show wpAny _ _ (standAt iter.pos >>= _) _ _ s; exact wpAny_bind (wpAny_standAt (wpAny_bind (wpAny_mono h (fun it' s' h' => wpAny_pure (And.intro rfl h')) fun _ _ x => x))))
theorem lw_comprehension {e : Expr} {scope : Scope} {env : Env} {pos : Pos} {newAcc first : Sem Value} {g : Comprehension} {gs : List Comprehension} {cl : List (Str × Addr)} {Q : Value → List Addr → Shared → Prop}
    (hcl : clausesOf e = g :: gs) (hs : ∀ x, foldedSetIterable g.iter env x = pure x) (hclos : closureFor scope env = pure cl)
    (hkind : scope.kind = .function) (hnames : ∀ x ∈ scope.names, x.2 = .local → scope.names.lookup x.1 = some .local)
    (h : wpAny (model P w) A first (fun x s₁ => wpAny (model P w) A (pyIter x) (fun it s₂ => wpAny (model P w) A newAcc (fun acc s₃ =>
      wpAny (model P w) A (newFunctionEnv scope env.globals cl [] env.qual none .none (some env)) (fun cenv s₄ =>
        LC P w A (.compStart e 0 it acc { cenv with scope := relabel scope env }) (fun r d5 s5 => ∃ f, r = .ok f ∧ ∃ m, s5.heap.Ns cenv.locals m ∧ ∀ h', Heap.SameBut cenv.locals s5.heap h' → Q acc d5 { s5 with heap := h' }) d s₄) (fun _ _ => False) s₃) (fun _ _ => False) s₂) (fun _ _ => False) s₁) (fun _ _ => False) s) :
    LW P w A (comprehension e scope env pos newAcc false first none) Q (fun _ _ _ => False) d s := by
  unfold comprehension
  rw [hclos, hcl]
  refine lw_bindw (wpAny_mono h (fun x s₁ h₁ => ?_) fun _ _ h' => h')
  refine lw_bind (lw_standAt ?_)
  refine lw_bindw (wpAny_of_eq (hs x) ?_)
  refine lw_bindw (wpAny_holding (wpAny_mono h₁ (fun it s₂ h₂ => ?_) fun _ _ h' => h'))
  dsimp only [Option.isSome_none]
  rw [if_neg Bool.false_ne_true]
  try refine lw_bind (lw_pure ?_)
  refine lw_bindw (wpAny_mono h₂ (fun acc s₃ h₃ => ?_) fun _ _ h' => h')
  refine lw_bind (lw_pure ?_)
  refine lw_bindw (wpAny_mono h₃ (fun cenv s₄ h₄ => ?_) fun _ _ h' => h')
  have hv : ∀ x ∈ (scope.names.filter fun x => (x.2 == .local || x.2 == .cell) && x.1 != (".0" : Str)).reverse, x.2 = .local →
      Env.kindOf { cenv with scope := relabel scope env } x.1 = some .local := fun x hx hl => lookup_relabel_local (hnames x (List.mem_filter.mp (List.mem_reverse.mp hx)).1 hl)
  refine lw_holding (lw_bind (lw_attempt (lw_holding ?_)))
  unfold PySem.run
  refine lw_call (by simp) (lc_mono h₄ fun r d5 s5 hr => ?_)
  obtain ⟨f, rfl, m, hn, hr⟩ := hr
  refine lw_pure ?_
  dsimp only
  exact lw_bindw (wpAny_holding (wpAny_comp_letGo (cenv := { cenv with scope := relabel scope env }) hkind _ s5 m hv hn fun h' m' _ hs' => lw_pure (hr h' hs')))
end
end Lk
/-! Kl15 -/
namespace Lk
open PySem PySem.Spec PyProof.Rows L2 GenW
section
variable {X : Cx}
theorem lpe_lc {elt tg iter c : Expr} {scope : Scope} {own : List (Str × Nat)} {pos : Pos} {wi : TI} {g : L2.TG} {tt : TT} {te : TE} (hx : NoX X) (hc : X.calm = true) (hN : X.N.Nodup) (hi : PIG X tg iter wi) (ok : BlkOk X.N X.env.scope scope own)
    (hg : ∀ (s : Shared) (H : Hp) (C : Addr) (cl : List (Str × Addr)) (fp : List Addr), PG (X.blk s H scope (compEnvC scope cl C X.env) fp) tg g) (ht : ∀ (s : Shared) (H : Hp) (C : Addr) (cl : List (Str × Addr)) (fp : List Addr), LPT (X.blk s H scope (compEnvC scope cl C X.env) fp) c tt)
    (he : ∀ (s : Shared) (H : Hp) (C : Addr) (cl : List (Str × Addr)) (fp : List Addr), PE (X.blk s H scope (compEnvC scope cl C X.env) fp) elt te) (hs : ∀ x, foldedSetIterable iter X.env x = pure x := by intro _; rfl) :
    LPE X (.ListComp elt [⟨tg, iter, [c], 0⟩] scope pos) (tLc wi g tt te (own.map (·.2))) := by
  refine ⟨fun pins s σ H d Q I h => ?_⟩
  have gd0 := I.dok.gen
  rw [eval_ListComp]
  have hfree : ∀ y ∈ scope.names, y.2 = .free → ∃ c, X.env.cells.lookup y.1 = some c := fun y hy e => by
    rcases ok.free y hy e with k | k
    · exact I.inv.ok.has _ (.inl k)
    · exact I.inv.ok.has _ (.inr k)
  show LW _ _ _ (comprehension (.ListComp elt [⟨tg, iter, [c], 0⟩] scope pos) scope X.env (firstIterPos [⟨tg, iter, [c], 0⟩] pos) (newList []) false (eval iter X.env) none) _ _ d s
  refine lw_comprehension rfl hs (closure_ok hfree) ok.kind (fun y hy e => by rw [ok.uniq y hy, e])
    (wpAny_mono (hi.run _ s σ H _ I.up h) (fun xv s1 hx1 => wpAny_mono hx1 (fun itv s2 h2 => ?_) fun v s2 z => hx v s2 z) fun v s2 z => hx v s2 z)
  obtain ⟨it, fp, tn, J, H2, e, I2, T, st2, f2, q, ng⟩ := h2
  subst e
  refine wpAny_newObj_type (newEnv_comp ?_) (by show 0 ≤ sizeLine; decide)
  generalize hD : s2.heap.objs.size = D
  have J2 : LI X pins σ H2 d s2 := .of I2 gd0
  have hDn : H2 D = none := I2.hok.fresh (Nat.le_of_eq hD)
  obtain ⟨W, ⟨m0, w0⟩, turn⟩ := q D hDn
  generalize hs3 : ({ s2 with heap := s2.heap.push { cls := .type "list", data := .seq ([] : List Value).toArray } } : Shared) = s3
  have I3 : Inv X pins σ (upd H2 D (.lst [])) s3 := by
    rw [← hs3]
    refine J2.inv.laid (t' := s2.toks) (fun b o e => Heap.get?_push_of_some _ e) (Nat.le_of_eq hD) ⟨Nat.zero_le _, [], 0, .nil, ?_⟩
    rw [← hD]
    exact Heap.get?_push_size _ rfl
  have h3 : s3.heap = s2.heap.push { cls := .type "list", data := .seq ([] : List Value).toArray } := by rw [← hs3]
  have sz : ∀ b ∈ fp, b < s2.heap.objs.size := fun b hb => by
    obtain ⟨o, e, _⟩ := T.obj _ _ st2 b hb
    exact Heap.lt_size e
  have f2' : ∀ b ∈ fp, FpOk X pins H2 b := fun b hb => by
    obtain ⟨h0, h1, h2, h3, h4, h5⟩ := f2 b hb
    refine ⟨h0, h1, h2, h3, h4, fun p hp => h5 p ?_⟩
    rcases List.mem_append.mp hp with z | z
    · exact List.mem_append_left _ z
    · exact List.mem_append_right _ (List.mem_append_left _ z)
  have f3 : ∀ b ∈ fp, FpOk X pins (upd H2 D (.lst [])) b ∧ b < s3.heap.objs.size := fun b hb => by
    have hlt := sz b hb
    refine ⟨⟨?_, (f2' b hb).2⟩, by rw [h3, Heap.size_push]; exact Nat.lt_succ_of_lt hlt⟩
    rw [upd_ne (by rw [← hD]; exact Nat.ne_of_lt hlt)]
    exact (f2' b hb).1
  have st3 : tn 0 s3.heap := T.keep _ _ _ st2 fun b _ o e => by rw [h3]; exact Heap.get?_push_of_some _ e
  have I4 := block_start I3 ok hN f3
  have pg := hg s3 (upd H2 D (.lst [])) s3.heap.objs.size (cellsFrom (s3.heap.objs.size + 1) scope.names (cloFrom X.env.cells scope.names [])) fp
  have pt := ht s3 (upd H2 D (.lst [])) s3.heap.objs.size (cellsFrom (s3.heap.objs.size + 1) scope.names (cloFrom X.env.cells scope.names [])) fp
  have pe := he s3 (upd H2 D (.lst [])) s3.heap.objs.size (cellsFrom (s3.heap.objs.size + 1) scope.names (cloFrom X.env.cells scope.names [])) fp
  have dok3 : DOk d (upd H2 D (.lst [])) s3.heap := fun b hb => by
    obtain ⟨n, o, e, gq⟩ := J2.dok b hb
    refine ⟨by rw [upd_ne (by rw [← hD]; exact Nat.ne_of_lt (Heap.lt_size e))]; exact n, o, ?_, gq⟩
    rw [h3]
    exact Heap.get?_push_of_some _ e
  show LC _ _ _ (.compStart (.ListComp elt [⟨tg, iter, [c], 0⟩] scope pos) 0 (.ref it) (.ref D) (compEnvC scope (cellsFrom (s3.heap.objs.size + 1) scope.names (cloFrom X.env.cells scope.names [])) s3.heap.objs.size X.env)) (fun r d5 s5 => ∃ f, r = .ok f ∧ ∃ m, s5.heap.Ns s3.heap.objs.size m ∧ ∀ h', Heap.SameBut s3.heap.objs.size s5.heap h' → ∃ x H1, LI X pins σ H1 d5 { s5 with heap := h' } ∧ RelV x (.ref D) ∧ Q x H1) d { s3 with heap := pushCells (s3.heap.push { cls := .type "dict", data := .dict #[] }) scope.names }
  have nfp : ∀ b ∈ fp, (upd H2 D (.lst [])) b = none := fun b hb => (f3 b hb).1.1
  generalize hce : compEnvC scope (cellsFrom (s3.heap.objs.size + 1) scope.names (cloFrom X.env.cells scope.names [])) s3.heap.objs.size X.env = ce at I4 pg pt pe ⊢
  have cL : ce.locals = s3.heap.objs.size := by subst hce; rfl
  generalize hH3 : upd H2 D (.lst []) = H3 at I3 I4 pg pt pe w0 nfp f3 dok3
  generalize hs4 : ({ s3 with heap := pushCells (s3.heap.push { cls := .type "dict", data := .dict #[] }) scope.names } : Shared) = s4 at I4 ⊢
  have kp4 : ∀ b o, s3.heap.get? b = some o → s4.heap.get? b = some o := fun b o e => by rw [← hs4]; exact pushCells_keeps _ _ _ _ (Heap.get?_push_of_some _ e)
  have st4 : tn 0 s4.heap := T.keep _ _ _ st3 fun b _ o e => kp4 b o e
  have J4 : LI (X.blk s3 H3 scope ce fp) [] (wipe σ (own.map (·.2))) H3 d s4 := ⟨I4, fun b hb => let ⟨n, o, e, gq⟩ := dok3 b hb; ⟨n, o, kp4 b o e, gq⟩⟩
  have stat : ∀ {σ' : L2.St} {H H' : Hp} {d' : List Addr} {s' : Shared} {i : Nat}, LI (X.blk s3 H3 scope ce fp) [] σ' H d' s' → tn i s'.heap → (∀ b ∈ fp, H' b = none) → ∀ b ∈ fp, FpOk (X.blk s3 H3 scope ce fp) ([] ++ foP d' s'.heap) H' b := fun {σ' H H' d' s' i} I' st hn b hb =>
    ⟨hn b hb, (I'.inv.ok.exf b hb).1, I'.inv.ok.exfs b hb, .inl hb, fun x c e => (I'.inv.ok.exf b hb).2 x c e, fun p hp e => by
      have hp : p ∈ foP d' s'.heap := by simpa using hp
      exact ng i s'.heap st b hb (by rw [← e]; exact (I'.dok _ (foP_of hp).1).2)⟩
  have loop : ∀ (n i : Nat) (H5 : Hp) (d5 : List Addr) (s5 : Shared), LI (X.blk s3 H3 scope ce fp) [] (wipe σ (own.map (·.2))) H5 d5 s5 → tn i s5.heap → (∀ b ∈ fp, H5 b = none) → W i n H5 →
      LC X.prog X.w X.A (.compLoop (.ListComp elt [⟨tg, iter, [c], 0⟩] scope pos) 0 (.ref it) (.ref D) ce) (fun r d5 s5 => ∃ f, r = .ok f ∧ ∃ m, s5.heap.Ns s3.heap.objs.size m ∧ ∀ h', Heap.SameBut s3.heap.objs.size s5.heap h' → ∃ x H1, LI X pins σ H1 d5 { s5 with heap := h' } ∧ RelV x (.ref D) ∧ Q x H1) d5 s5 := by
    intro n
    induction n using Nat.strongRecOn with
    | ind n ih =>
    intro i H5 d5 s5 I5 st5 n5 w5
    refine lc_compLoop (lw_of ?_)
    rcases turn i n H5 w5 with ⟨stop, qq⟩ | ⟨go, Nx, hNx, step⟩
    · have td := T.done (X.blk s3 H3 scope ce fp) rfl rfl rfl hc i _ s5 _ H5 (fun _ _ => False) I5.up (stat I5 st5 n5) st5 stop
      refine wpAny_mono td (fun r s6 ⟨hr, I6⟩ => ?_) fun _ _ z => z
      subst hr
      have J6 : LI (X.blk s3 H3 scope ce fp) [] (wipe σ (own.map (·.2))) H5 d5 s6 := .of I6 I5.dok.gen
      have I7 : Inv X pins σ H5 s6 := I3.call' (ch := fp) J6.inv.os J6.inv.base J6.inv.hok J6.inv.bare fun b hb => ⟨(f3 b hb).1.2.2.2.1, (f3 b hb).1.2.1, (f3 b hb).1.2.2.2.2.1, (f3 b hb).1.2.2.2.2.2⟩
      have nC : H5 s3.heap.objs.size = none := by
        have z : H5 ce.locals = none := J6.inv.free
        rw [cL] at z
        exact z
      obtain ⟨m, hn, _⟩ := J6.inv.loc
      have hn : s6.heap.Ns ce.locals m := hn
      rw [cL] at hn
      obtain ⟨f0, f1, f2, f3, f4, f5⟩ := I3.fpOk (Nat.le_refl _) nC
      refine ⟨.next, rfl, m, hn, fun h' sb => ⟨.ref D, H5, ⟨I7.turned (t' := s6.toks) (fun b o hb e => (sb.2 b hb).trans e) f0 f1 f3 f4 f5, fun b hb => ?_⟩, rfl, qq⟩⟩
      obtain ⟨n1, o, e, gq⟩ := J6.dok b hb
      obtain ⟨oL, es, ep, hoL, hd, _⟩ := hn
      have hbC : b ≠ s3.heap.objs.size := fun z => by
        rw [z, hoL] at e
        cases e
        obtain ⟨vs, hv⟩ := gen_fields gq
        rw [hd] at hv
        cases hv
      exact ⟨n1, o, (sb.2 b hbC).trans e, gq⟩
    · have ti := T.item (X.blk s3 H3 scope ce fp) rfl rfl rfl hc i _ s5 _ H5 (fun _ _ => False) I5.up (stat I5 st5 n5) st5 go
      refine wpAny_mono ti (fun r s6 ⟨u, hr, h6⟩ => ?_) fun _ _ z => z
      subst hr
      refine wpAny_mono h6 (fun _ s7 ⟨x, H7, I7, r7, y7, st7, n7⟩ => ?_) fun _ _ z => z
      have I7' := I7.pinned (stat I5 st5 n7) (T.obj _ _ st7)
      refine wpAny_mono (pg.run _ s7 _ H7 x u _ I7' r7 (step x H7 y7)) (fun _ s8 ⟨σ8, H8, I8, hw8, q8⟩ => ?_) fun _ _ z => z
      have J8 : LI (X.blk s3 H3 scope ce fp) ([] ++ pinsAt fp s7.heap) σ8 H8 d5 s8 := .of (h0 := s5.heap) (I8.pins_of fun p hp => by
        have hp : p ∈ pinsAt fp s7.heap ++ foP d5 s5.heap := hp
        refine I8.pin p (show p ∈ foP d5 s5.heap ++ pinsAt fp s7.heap from ?_)
        rcases List.mem_append.mp hp with z | z
        · exact List.mem_append_right _ z
        · exact List.mem_append_left _ z) I5.dok.gen
      refine lw_mono (pt.run _ s8 σ8 H8 d5 _ J8 q8) (fun b d9 s9 ⟨H9, I9, q9⟩ => ?_) fun _ _ _ z => z
      -- the turn's end
      have fin : ∀ {s' : Shared} {H' : Hp}, LI (X.blk s3 H3 scope ce fp) ([] ++ pinsAt fp s7.heap) σ8 H' d9 s' → Nx H' → LC X.prog X.w X.A (.compLoop (.ListComp elt [⟨tg, iter, [c], 0⟩] scope pos) 0 (.ref it) (.ref D) ce) (fun r d5 s5 => ∃ f, r = .ok f ∧ ∃ m, s5.heap.Ns s3.heap.objs.size m ∧ ∀ h', Heap.SameBut s3.heap.objs.size s5.heap h' → ∃ x H1, LI X pins σ H1 d5 { s5 with heap := h' } ∧ RelV x (.ref D) ∧ Q x H1) d9 s' := fun {s' H'} I' nx => by
        obtain ⟨m', hm, w'⟩ := hNx H' nx
        have pin' : ∀ b ∈ fp, ∀ o, s7.heap.get? b = some o → s'.heap.get? b = some o ∧ H' b = none := fun b hb o e =>
          let z := I'.inv.pin (b, o) (List.mem_append_right _ (List.mem_append_right _ (mem_pinsAt hb e)))
          ⟨z.1, z.2.1⟩
        have hl : (wipe σ (own.map (·.2))).length = σ8.length := by rw [← hw8, wipe_length]
        refine ih m' hm (i + 1) H' d9 s' ⟨(I'.inv.unpinned (pins := [])).weak hl (fun j v e => ?_), I'.dok⟩ (T.keep _ _ _ st7 fun b hb o e => (pin' b hb o e).1) (fun b hb => ?_) w'
        · rw [← hw8] at e
          exact (wipe_some e).1
        · obtain ⟨o, e, _⟩ := T.obj _ _ st7 b hb
          exact (pin' b hb o e).2
      cases b with
      | false =>
        simp only [Bool.false_eq_true, if_false] at q9 ⊢
        exact fin I9 q9
      | true =>
        simp only [if_true] at q9 ⊢
        refine wpAny_mono (pe.run _ s9 σ8 H9 _ I9.up q9) (fun z s10 ⟨yv, H10, I10, r10, acc, hD10, hz10, nx⟩ => ?_) fun _ _ z => z
        exact app_ok (X := X.blk s3 H3 scope ce fp) I10 hD10 hz10 r10 fun s11 I11 => fin (.of I11 I9.dok.gen) nx
  have l0 := loop m0 0 H3 d s4 J4 st4 nfp w0
  exact lc_compStart l0 (T.self X.A 0 _ _ _ st4 l0)
end
end Lk
/-! Kl16 -/
namespace Lk
open PySem PySem.Spec PyProof.Rows L2
open GenW
section
variable {X : Cx} {e : Expr} {te : TE}
theorem lpe_lock {t : TE} (h : LPE X e t) : LPE X e (tLockE t) := by
  refine ⟨fun pins s σ H d Q I hw => ?_⟩
  obtain ⟨a, u, ha, mu, hw⟩ := hw
  obtain ⟨od, I1⟩ := I.inv.lock ha mu
  have J1 : LI X pins σ _ d s := ⟨I1, fun b hb => by
    obtain ⟨n, g⟩ := I.dok b hb
    exact ⟨by rw [upd_ne (ne_of_none ha n).symm]; exact n, g⟩⟩
  refine lw_mono (h.run pins s σ _ d _ J1 (hw od)) (fun v d1 s1 z => ?_) fun _ _ _ z => z
  obtain ⟨x, H1, I2, r, e2, q⟩ := z
  refine ⟨x, _, ⟨I2.inv.unlock e2 (I.inv.nofrz ha mu), fun b hb => ?_⟩, r, q⟩
  obtain ⟨n, g⟩ := I2.dok b hb
  exact ⟨by rw [upd_ne (ne_of_none e2 n).symm]; exact n, g⟩
/-- list(matches(e)) -/
theorem lpe_lstm {p1 p2 q1 q2 : Pos} {fm f2 : Addr} {fdm fw : FuncData} (F : FunD X.K "matches" "matches" (defArgs sMatches) (defBody sMatches) (defScope sMatches) [] [] fm fdm) (hm : X.mg "matches" = some (.ref fm)) (Tx : Txt X.K X.mg)
    (cM : C8.Mak X.prog X.w X.K X.mg X.base 7 "Matcher" (cMat X.K) (spMatInit X.prog X.w X.K) []) (cC : C8.Met X.prog X.w X.K X.mg X.base 7 (cMat X.K) "most" (spMost X.prog X.w X.K) [])
    (cN : C8.Met X.prog X.w X.K X.mg X.base 6 (cMat X.K) "counts" (spCounts X.prog X.w X.K 5) []) (Fw : FunD X.K "walked" "Matcher.walked" (defArgs sMatWalked) (defBody sMatWalked) (defScope sMatWalked) [] [] f2 fw) (c : Cls X.K (cMat X.K)) (me : Meth X.K (cMat X.K) "walked" f2) (cH : C8.Met X.prog X.w X.K X.mg X.base 7 (cMat X.K) "has" (spHas X.prog X.w X.K) [])
    (hr : Room 24 X.A) (hx : NoX X) (hcalm : X.calm = true) (hg1 : Gl X "list") (hg2 : Gl X "matches") (he : PE X e te)
    (h1 : starEach [e] X.env = (false, eval e X.env) :: starEach [] X.env) (h2 : (backTo q2 (starEach [] X.env)).any (·.1) = false) (h3 : starEach [Expr.Call (.Name "matches" p2) [e] [] q2] X.env = (false, eval (.Call (.Name "matches" p2) [e] [] q2) X.env) :: starEach [] X.env) :
    LPE X (.Call (.Name "list" p1) [.Call (.Name "matches" p2) [e] [] q2] [] q1) (tMatches X.K te) := by
  have hr3 : Room 20 X.A.in1.in1.in1 := (Room.in1 (k := 20) ((room_in2 (k := 23) hr).mono (by decide)))
  have mk : MkS X X.A.in1.in1.in1 (.Call (.Name "matches" p2) [e] [] q2) ItA (fun σ H R => te σ H fun v H1 => (fun v H R => ∃ Rr o T C, v = V.ref o ∧ OffAt X.K H Rr o T C ∧ R (Ld.W (opsOf Rr T C) [] (Ld.nu (opsOf Rr T C) [])) H) v H1 R) := by
    refine mks_call (k := 19) (N := nm_matches) (sp := fun v H R => ∃ Rr o T C, v = V.ref o ∧ OffAt X.K H Rr o T C ∧ R (Ld.W (opsOf Rr T C) [] (Ld.nu (opsOf Rr T C) [])) H) F sc_matches pn_matches (fun _ _ _ _ _ _ us hl => match us, hl with | [_], _ => rfl) (hr.mono (by decide)) hr3 rfl hg2 hm he hx (fun v H R h => ?_) (by decide) h1 h2
    obtain ⟨Rr, o, T, C, rfl, ho, hR⟩ := h
    exact ⟨_, hR, fun cdv outer L fo g Fx hrr => body_matches Tx cM cC cN Fw c me cH ho cdv _ outer L fo g Fx hrr⟩
  have main := lpe_listS (k := 21) (p := p1) (pos := q1) (nm := "list") hr hx hcalm mk hg1 Tx.list boot_list (by decide) (by decide) (by rw [h3]; rfl)
  refine ⟨fun pins s σ H d Q I q => main.run pins s σ H d Q I (cast ?_ q)⟩
  show te σ H _ = te σ H _
  congr 1
  funext x H1
  refine propext ⟨fun ⟨R, o, T, C, e1, ho, h⟩ => ⟨R, o, T, C, e1, ho, ?_, fun S H2 out hs hl hS => h S H2 out hs hS ?_⟩, fun ⟨R, o, T, C, e1, ho, hz, h⟩ => ⟨R, o, T, C, e1, ho, fun D H' out hs hD hl => h D H' out hs ?_ hD⟩⟩
  · have lab := ho.lab
    have hW : (Ld.W (opsOf R T C) [] (Ld.nu (opsOf R T C) [])).length ≤ 1546 := Nat.le_trans (Ld.wO_bound (nodup_tL.sublist lab.t) _) (Ld.Fn_le lab.clen lab.tlen)
    rw [sizeLine_eq]; omega
  · exact hl
  · exact hl
end
end Lk
/-! Kl17 -/
namespace Lk
open PySem PySem.Spec PyProof.Rows L2
open GenW
section
variable {P : Program} {w : World} {K : PySem.W.Frag} {mg : Str → Option Value} {base : Heap} {f : Addr}
/-- the calls that the law makes, but the loud ones -/
structure Calls0 (P : Program) (w : World) (K : PySem.W.Frag) (mg : Str → Option Value) (base : Heap) : Prop where
  mix : C8.Cal P w K mg base 1 "_law_mix" (spMix K) []
  drawn : C8.Cal P w K mg base 4 "_law_drawn" spDrawn []
  office : C8.Cal P w K mg base 7 "_law_office" (spLawOffice K) []
  most : C8.Cal P w K mg base 9 "most_pairs" (spMostPairs K) []
  sure : C8.Cal P w K mg base 11 "sure_pairs" (spSurePairs K) []
  shown : C8.Cal P w K mg base 8 "shown_group" (spShownGroup K) []
  short : C8.Cal P w K mg base 8 "short_group" (spShortGroup K) []
  count : C8.Cal P w K mg base 9 "match_count" (spMatchCount K) []
  cand : C8.Cal P w K mg base 7 "candidates" (spCandidates K) []
  right : C8.Cal P w K mg base 12 "_law_pair_right" (spPairRight K) []
  riv : C8.Cal P w K mg base 7 "rivals" (spRivals K) []
  lon : C8.Cal P w K mg base 8 "lonely" (spLonely K) []
  without : C8.Met P w K mg base 7 (cOff K) "without" (spWithout K) []
  served : C8.Cal P w K mg base 10 "served" (spService K) []
theorem ok_lawL {fd fd1 fdm fw : FuncData} {f1 fm f2 : Addr} (F : FunD K "law" "law" (defArgs sLaw) (defBody sLaw) (defScope sLaw) [] [] f fd) (Tx : Txt K mg) (c : Calls0 P w K mg base)
    (F1 : LFn P w K mg base 22 f1 fd1 ["office"] (fun vs H Q => spFirstMatch K vs H Q C8.E0)) (hm1 : mg "first_match" = some (.ref f1)) (hk1 : PySem.W.keepIn K (.ref f1) = true) (hb1 : Binds K fd1 ["office"] [])
    (F2 : FunD K "matches" "matches" (defArgs sMatches) (defBody sMatches) (defScope sMatches) [] [] fm fdm) (hm2 : mg "matches" = some (.ref fm))
    (cM : C8.Mak P w K mg base 7 "Matcher" (cMat K) (spMatInit P w K) []) (cC : C8.Met P w K mg base 7 (cMat K) "most" (spMost P w K) []) (cN : C8.Met P w K mg base 6 (cMat K) "counts" (spCounts P w K 5) [])
    (Fw : FunD K "walked" "Matcher.walked" (defArgs sMatWalked) (defBody sMatWalked) (defScope sMatWalked) [] [] f2 fw) (c2 : Cls K (cMat K)) (me : Meth K (cMat K) "walked" f2) (cH : C8.Met P w K mg base 7 (cMat K) "has" (spHas P w K) []) :
    LFn P w K mg base 25 f fd ["_law_script"] (fun vs H Q => spLaw K vs H Q C8.E0) := by
  refine lfn_of F sc_law (fun vs H Q h => ?_) (fun cdv A outer s H vs Q hr h => ?_)
  · obtain ⟨a, ns, rfl, _⟩ := h; rfl
  · obtain ⟨a, ns, rfl, ha, hl, q⟩ := h
    have hx : NoX (cxOf C8.CX0 P w K mg base nm_law "law" (defScope sLaw) f cdv A outer s H C8.E0).nox := fun _ _ z => z
    refine ⟨_, lss_cons (ls_ps hx (ps_set sc_law.nd (i := 1) rfl (Or.inl rfl) (C8.pe_c c.mix hr (by decide) (by rfl) (pa_cons (pv 0) (pa_cons pe_int pa_nil)))))
      (lss_cons (ls_for hx rfl (pig_range1 (by rfl) Tx.range (pa_cons pe_int pa_nil)) (pg_name (i := 2) sc_law.nd rfl (Or.inl rfl))
        (lss_cons (ls_ps hx (ps_set sc_law.nd (i := 3) rfl (Or.inl rfl) (C8.pe_c c.drawn hr (by decide) (by rfl) (pa_cons (pv 1) (pa_cons pe_int (pa_cons pe_int pa_nil))))))
        (lss_cons (ls_ps hx (ps_asg (pe_tup (pa_cons (C8.pe_c c.office hr (by decide) (by rfl) (pa_cons (pv 3) pa_nil)) (pa_cons (pe_lst (pa_cons (pe_lst pa_nil) pa_nil)) pa_nil))) (pg_n2 K (i := 4) (j := 5) rfl rfl sc_law.nd rfl rfl (by first | exact Or.inl rfl | exact Or.inr rfl) (by first | exact Or.inl rfl | exact Or.inr rfl) (by first | exact Or.inr rfl | exact Or.inl rfl) (by first | exact Or.inr rfl | exact Or.inl rfl))))
        (lss_cons (ls_ps hx (ps_asg (pe_tup (pa_cons (C8.pe_c c.most hr (by decide) (by rfl) (pa_cons (pv 4) pa_nil)) (pa_cons (C8.pe_c c.sure hr (by decide) (by rfl) (pa_cons (pv 4) pa_nil)) pa_nil))) (pg_n2 K (i := 6) (j := 7) rfl rfl sc_law.nd rfl rfl (by first | exact Or.inl rfl | exact Or.inr rfl) (by first | exact Or.inl rfl | exact Or.inr rfl) (by first | exact Or.inr rfl | exact Or.inl rfl) (by first | exact Or.inr rfl | exact Or.inl rfl))))
        (lss_cons (ls_ps hx (ps_lock (ps_for PassesOwn.never rfl (pi_keys (pe_ix ix_tup (pv 3) pe_int (fun _ _ => rfl))) (pg_name (i := 8) sc_law.nd rfl (Or.inr rfl))
          (pss_one (ps_set sc_law.nd (i := 5) rfl (Or.inl rfl) (pe_op op_cat (pv 5) (pe_lc (own := [("_law_group", 13)]) rfl sc_law.nd (pi_list (pv 5)) (blkOk_by (N := nm_law) (sc := defScope sLaw) (by decide +kernel)) (fun _ _ _ _ _ => pg_name (i := 13) sc_law.nd rfl (Or.inl rfl)) (fun _ _ _ _ _ => pts_nil) (fun _ _ _ _ _ => pe_op op_cat (pv 13) (pe_lst (pa_cons (pv 8) pa_nil))))))))))
        (lss_cons (ls_ps hx (ps_if (pt_cmpR op_ne (pv 6) (pe_op op_sub (pe_callB call_lenD (by rfl) Tx.len boot_len (pa_cons (pe_ix ix_tup (pv 3) pe_int (fun _ _ => rfl)) pa_nil)) (pe_callB (cr_max rfl) (by rfl) Tx.max boot_max (pa_cons
            (pe_lc (own := [("_law_group", 13)]) rfl sc_law.nd (pi_list (pv 5)) (blkOk_by (N := nm_law) (sc := defScope sLaw) (by decide +kernel)) (fun _ _ _ _ _ => pg_name (i := 13) sc_law.nd rfl (Or.inl rfl)) (fun _ _ _ _ _ => pts_nil) (fun _ _ _ _ _ => C8.pe_c c.shown hr (by decide) (by rfl) (pa_cons (pv 4) (pa_cons (pv 13) pa_nil)))) pa_nil))) (nomark _)) (pss_one (ps_ret pe_bl)) pss_nil))
        (lss_cut (ls_ps hx (ps_if (PW.pt (pw_or (pt_cmpR op_ne (pe_cmpR op_isN (C8.pe_c c.short hr (by decide) (by rfl) (pa_cons (pv 4) pa_nil)) pe_non (nomark _)) (pe_cmpR op_eq (pv 6) (pe_callB call_lenD (by rfl) Tx.len boot_len (pa_cons (pe_ix ix_tup (pv 3) pe_int (fun _ _ => rfl)) pa_nil)) (nomark _)) (nomark _))
            (pw_or1 (pt_cmpR op_ne (C8.pe_c c.count hr (by decide) (by rfl) (pa_cons (pv 4) (pa_cons (pe_op op_add (pv 6) pe_int) pa_nil))) pe_int (nomark _))))) (pss_one (ps_ret pe_bl)) pss_nil))
        (lss_cons (ls_ps hx (ps_lock (ps_for PassesOwn.never rfl (pi_keys (pe_ix ix_tup (pv 3) pe_int (fun _ _ => rfl))) (pg_name (i := 8) sc_law.nd rfl (Or.inr rfl))
          (pss_cons (ps_lock (ps_for PassesOwn.never rfl (pi_keys (pe_ix ix_tup (pv 3) pe_int (fun _ _ => rfl))) (pg_name (i := 9) sc_law.nd rfl (Or.inl rfl))
            (pss_cons (ps_set sc_law.nd (i := 10) rfl (Or.inl rfl) (pe_cmpR op_in_seq (pv 9) (C8.pe_c c.cand hr (by decide) (by rfl) (pa_cons (pv 4) (pa_cons (pv 8) pa_nil))) rfl))
            (pss_cons (ps_if (pt_cmpR op_ne (pv 10) (pe_cmpR op_in_seq (pv 8) (C8.pe_c c.cand hr (by decide) (by rfl) (pa_cons (pv 4) (pa_cons (pv 9) pa_nil))) rfl) (nomark _)) (pss_one (ps_ret pe_bl)) pss_nil)
            (pss_one (ps_if (PW.pt (pw_and (pt_val (pv 10)) (pw_and1 (pt_not (pt_val (C8.pe_c c.right hr (by decide) (by rfl) (pa_cons (pv 4) (pa_cons (pv 8) (pa_cons (pv 9) (pa_cons (pv 6) pa_nil)))))))))) (pss_one (ps_ret pe_bl)) pss_nil))))))
          (pss_one (ps_if (PW.pt (pw_or (pt_cmpR op_in_seq (pv 8) (C8.pe_c c.riv hr (by decide) (by rfl) (pa_cons (pv 4) (pa_cons (pv 8) pa_nil))) rfl) (pw_or1 (pt_cmpR op_ne (pe_cmpR op_in_seq (pv 8) (C8.pe_c c.lon hr (by decide) (by rfl) (pa_cons (pv 4) pa_nil)) rfl)
            (pe_cmpR (op_eqD hr.units) (C8.pe_c c.cand hr (by decide) (by rfl) (pa_cons (pv 4) (pa_cons (pv 8) pa_nil))) (pe_lst pa_nil) (nomark _)) (nomark _))))) (pss_one (ps_ret pe_bl)) pss_nil))))))
        (lss_cons (ls_ps hx (ps_for PassesOwn.never rfl (pi_list (pe_op op_cat (pe_callTy (call_listD rfl) (by rfl) Tx.list boot_list (pa_cons (pe_ix ix_tup (pv 3) pe_int (fun _ _ => rfl)) pa_nil)) (pe_callTy (call_listD rfl) (by rfl) Tx.list boot_list (pa_cons (pe_ix ix_tup (pv 3) pe_int (fun _ _ => rfl)) pa_nil)))) (pg_name (i := 11) sc_law.nd rfl (Or.inl rfl))
          (pss_cons (ps_set sc_law.nd (i := 12) rfl (Or.inl rfl) (C8.pe_c c.most hr (by decide) (by rfl) (pa_cons (C8.pe_mt c.without hr (by decide) (pv 4) (pa_cons (pv 11) pa_nil)) pa_nil)))
          (pss_cons (ps_if (PW.pt (pw_or (pt_cmpR op_ne (pe_cmpR op_eq (C8.pe_c c.served hr (by decide) (by rfl) (pa_cons (pv 4) (pa_cons (pv 11) pa_nil))) pe_str (nomark _)) (pe_cmpR op_eq (pv 12) (pe_op op_sub (pv 6) pe_int) (nomark _)) (nomark _)) (pw_or1 (pt_cmpR op_gt (pv 12) (pv 6) (nomark _))))) (pss_one (ps_ret pe_bl)) pss_nil)
          (pss_one (ps_if (PW.pt (pw_and (pt_cmpR op_eq (C8.pe_c c.served hr (by decide) (by rfl) (pa_cons (pv 4) (pa_cons (pv 11) pa_nil))) pe_str (nomark _)) (pw_and1 (pt_cmpR op_in_seq (pv 11) (C8.pe_c c.lon hr (by decide) (by rfl) (pa_cons (pv 4) pa_nil)) rfl)))) (pss_one (ps_ret pe_bl)) pss_nil))))))
        (lss_cons (ls_if (lpt_cmp hx (op_neD hr.units) (lpe_lock (lpe_lc (own := [("_law_claim", 8)]) hx rfl sc_law.nd (pig_keysK K rfl (pv 7)) (blkOk_by (N := nm_law) (sc := defScope sLaw) (by decide +kernel)) (fun _ _ _ _ _ => pg_name (i := 8) sc_law.nd rfl (Or.inl rfl))
            (fun _ _ _ _ _ => lpt_cmp (fun _ _ z => z) op_ne (lpe_dget2 (fun _ _ z => z) (hu_of hr) (lpe_call (fun _ _ z => z) F1 (hr.mono (by decide)) (by rfl) hm1 hk1 hb1 (pa_cons (pv 4) pa_nil)) (pv 8) pe_non ⟨rfl, rfl, rfl, rfl⟩) (pe_dget (hu_of hr) (pv 7) (pv 8) (fun _ _ => rfl)) (nomark _)) (fun _ _ _ _ _ => pv 8))) (pe_lst pa_nil) (nomark _)) (lss_one (ls_ps hx (ps_ret pe_bl))) lss_nil)
        (lss_one (ls_if (lpt_cmp hx op_ne (lpe_callB1 hx call_len (by rfl) Tx.len boot_len (lpe_lstm F2 hm2 Tx cM cC cN Fw c2 me cH hr hx rfl (by rfl) (by rfl) (pv 4) rfl rfl rfl)) (C8.pe_c c.count hr (by decide) (by rfl) (pa_cons (pv 4) (pa_cons (pv 6) pa_nil))) (nomark _)) (lss_one (ls_ps hx (ps_ret pe_bl))) lss_nil))))))))))))
      (lss_one (ls_ps hx (ps_ret pe_bl)))), ?_⟩
    refine ⟨_, rfl, a, ns, rfl, ha, hl, fun h cc H1 s1 _ _ hd => ?_⟩
    refine ⟨3, rfl, by decide, by decide, ?_⟩
    refine for_it (walk_range (lo := 0) (n := (3 : Int).toNat)) (fun i σ H' => Dr H' h cc ∧ ∃ x2 x3 x4 x5 x6 x7 x8 x9 x10 x11 x12, σ = [some (.ref a), some (.ref h), x2, x3, x4, x5, x6, x7, x8, x9, x10, x11, x12, none]) ⟨hd, _, _, _, _, _, _, _, _, _, _, _, rfl⟩ (fun _ _ _ _ _ => trivial) ?_ (fun σ H' _ => q H')
    rintro i v σ H2 H3 hi ⟨d2, x2, x3, x4, x5, x6, x7, x8, x9, x10, x11, x12, rfl⟩ ⟨rfl, rfl⟩
    clear hd s1 ha hl
    refine ⟨_, rfl, h, cc, rfl, d2, fun p T C B sB dB hdr => ?_⟩
    obtain ⟨fa, fo, lo, fs, gt, gc, h1, h2, h3, h4, h5, h6, h7, h8⟩ := hdr.ex
    have hlab := hdr.lab
    have hTn : T.Nodup := nodup_tL.sublist hlab.t
    have hCn : C.Nodup := nodup_cL.sublist hlab.c
    have hTl := hlab.tlen
    have hCl := hlab.clen
    refine ⟨_, rfl, p, T, C, rfl, hdr, fun o R H4 s4 ho4 hfr => ⟨by show 0 ≤ sizeLine; decide, fun g0 hg0 => ⟨by show 1 ≤ sizeLine; decide, fun Gz hGz => ⟨by show 2 ≤ sizeLine; decide, fun tt htt => ⟨tt, _, rfl, SqT.of upd_same, rfl, _, _, rfl, _, _, rfl, rfl, ?_⟩⟩⟩⟩⟩
    have s4b : Same H4 (upd (upd (upd H4 g0 (.lst [])) Gz (.lst [.ref g0])) tt (.tup [.ref o, .ref Gz])) := Same.upd' (Same.upd' (Same.upd hg0) hGz) htt
    have nf4 : ∀ dx a b cc, H4 o = some (.ins (cOff K) dx [("own_catalog", cc), ("found", .ref a), ("lost", .ref b)]) → (a ≠ fo ∧ a ≠ lo) ∧ b ≠ fo ∧ b ≠ lo := fun dx a b cc e => by
      obtain ⟨e1, e2⟩ := hfr dx a b cc e
      exact ⟨⟨fun z => (by rw [z, h4] at e1; cases e1), fun z => (by rw [z, h5] at e1; cases e1)⟩, fun z => (by rw [z, h4] at e2; cases e2), fun z => (by rw [z, h5] at e2; cases e2)⟩
    have l4 : ListsAt (upd (upd (upd H4 g0 (.lst [])) Gz (.lst [.ref g0])) tt (.tup [.ref o, .ref Gz])) Gz [[]] := ⟨[(g0, [])], upd_keep upd_same htt, rfl, fun p hp => by rw [List.mem_singleton.mp hp]; exact upd_keep (upd_keep upd_same hGz) htt⟩
    dsimp only [gNil]
    refine gen_seq (fun Hb => Same B Hb ∧ OffAt K Hb R o T C ∧ ListsAt Hb Gz [[]] ∧ ∀ dx a b cc, Hb o = some (.ins (cOff K) dx [("own_catalog", cc), ("found", .ref a), ("lost", .ref b)]) → (a ≠ fo ∧ a ≠ lo) ∧ b ≠ fo ∧ b ≠ lo) ⟨s4.trans s4b, ho4.same s4b, l4, fun dx a b cc e => ?_⟩ ?_
    · obtain ⟨dx', f', l', e', _⟩ := ho4.ex
      have e2 := s4b _ _ e'
      rw [e2] at e
      have e3 := Option.some.inj e
      rw [e3] at e'
      exact nf4 _ _ _ _ e'
    clear nf4 l4 s4b htt hGz hg0 hfr ho4 s4 tt g0
    rintro Hb ⟨sb, hob, hlb, nfb⟩
    refine ⟨_, rfl, R, o, T, C, rfl, hob, fun H5 s5 => ⟨_, rfl, R, o, T, C, rfl, hob.same s5, fun sd H6 ks s6 hsd0 hsd hkl hkn hks => ⟨by show 2 ≤ sizeLine; decide, fun t2 ht2 => ⟨t2, _, rfl, SqT.of upd_same, rfl, _, _, rfl, _, _, rfl, rfl, ?_⟩⟩⟩⟩
    have hsdb : Hb sd = none := none_of s5 hsd0
    have s56 := s5.trans s6
    have sB2 := Same.upd' (o := .tup [.int (nuR R T C : Nat), .ref sd]) s56 ht2
    dsimp only [gNil]
    refine gen_seq (fun H' => Same Hb H' ∧ H' sd = some (.dK (ks.map fun p => ((Sum.inr p.1 : Key), V.str p.2)))) ⟨sB2, upd_keep hsd ht2⟩ ?_
    clear sB2 s56 ht2 hsd s6 hsd0 s5 t2
    rintro B2 ⟨sb2, hsd⟩
    have sBB := sb.trans sb2
    have bp := sBB _ _ h1
    have bfo := sBB _ _ h4
    have blo := sBB _ _ h5
    have ob2 := hob.same sb2
    have hvc : ∀ l ∈ C, ∃ r xs, B2 (gc l).v = some (.tup (.ref r :: xs)) := fun l hl => ⟨_, _, sBB _ _ (h7 l hl).1.v⟩
    have hvt : ∀ l ∈ T, ∃ r xs, B2 (gt l).v = some (.tup (.ref r :: xs)) := fun l hl => ⟨_, _, sBB _ _ (h6 l hl).1.v⟩
    have nf2 : ∀ dx a b cc, B2 o = some (.ins (cOff K) dx [("own_catalog", cc), ("found", .ref a), ("lost", .ref b)]) → (a ≠ fo ∧ a ≠ lo) ∧ b ≠ fo ∧ b ≠ lo := fun dx a b cc e => by
      obtain ⟨dx', f', l', e', _⟩ := hob.ex
      have e2 := sb2 _ _ e'
      rw [e2] at e
      have e3 := Option.some.inj e
      rw [e3] at e'
      exact nfb _ _ _ _ e'
    have plo : p ≠ lo := ne_of bp blo (by intro z; cases z)
    refine ⟨lo, _, blo, trivial, fun od => ⟨_, rfl, p, _, 2, _, rfl, rfl, SqT.of (by rw [upd_ne plo]; exact bp), rfl, lo, od, rfl, .inl ⟨_, upd_same, ?_⟩⟩⟩
    refine for_it walk_keys (fun ii σ H' => Same (upd B2 lo (.frz od (.dK (enKvs gc C)))) H' ∧ ∃ G x8, σ = [some (.ref a), some (.ref h), some (.int (0 + (i : Nat))), some (.ref p), some (.ref o), some (.ref G), some (.int (nuR R T C : Nat)), some (.ref sd), x8, x9, x10, x11, x12, none] ∧ ListsAt H' G ((C.take ii).foldl Ld.grow [[]]))
      ⟨Same.refl _, Gz, x8, rfl, (hlb.same sb2).lock blo⟩ (fun i σ H' _ z => z.1 _ _ upd_same) ?_ ?_
    · rintro j v σ H6 H7 hj ⟨t1, G, y8, rfl, lG⟩ ⟨rfl, k, u, hg, rfl⟩
      unfold enKvs at hg
      obtain ⟨cl, hc, e⟩ := get_map hg
      cases e
      obtain ⟨L, l1, l2, l3⟩ := lG.ex
      have hlen : L.length ≤ 32 := by
        have e1 : L.length = (Ld.groups (C.take j)).length := by
          have := congrArg List.length l2
          rw [List.length_map] at this
          exact this
        rw [e1, Ld.groups_len]
        exact Nat.le_trans (Nat.pow_le_pow_right (by decide) (show (C.take j).length ≤ 5 by rw [List.length_take]; omega)) (by decide)
      refine ⟨_, rfl, _, rfl, G, rfl, ⟨_, SqL.of l1⟩, fun D hD => ?_⟩
      refine walk_any (walk_list (xs := L.map fun p => V.ref p.1)) (fun k H' => Grow H7 D ((((C.take j).foldl Ld.grow [[]]).take k).map fun g => g ++ [cl]) H') (.zero hD) (fun k H' _ z => SqL.of (z.1 _ _ l1)) ?_ ?_
      · rintro k v H8 H9 hk gr ⟨rfl, hv⟩
        obtain ⟨y, hy, rfl⟩ := get_map hv
        have hyL := mem_of_get hy
        have hg : ((C.take j).foldl Ld.grow [[]])[k]? = some y.2 := by rw [← l2, List.getElem?_map, hy]; rfl
        have hsubl : y.2.Sublist C := (Ld.groups_mem.mp (show y.2 ∈ Ld.groups (C.take j) from mem_of_get hg)).trans (List.take_sublist _ _)
        refine ⟨rfl, tyes ⟨_, rfl, _, rfl, by show 1 ≤ sizeLine; decide, fun z hz => ⟨y.1, z, _, _, rfl, rfl, upd_keep (gr.1 _ _ (l3 y hyL)) hz, upd_same, by rw [List.length_map, sizeLine_eq]; have := hsubl.length_le; show _ + 1 ≤ _; omega, fun p3 hp3 => ?_⟩⟩⟩
        rw [List.take_add_one, hg, List.map_append]
        refine Grow.add hD (gr.later (Same.upd hz)) hp3 (by simp [kV]) ?_
        rw [List.length_map, List.length_take]
        have : ((C.take j).foldl Ld.grow [[]]).length = L.length := by rw [← l2, List.length_map]
        omega
      · intro H8 gr
        have hfull : ((C.take j).foldl Ld.grow [[]]).take (L.map fun p => V.ref p.1).length = (C.take j).foldl Ld.grow [[]] := by
          rw [List.length_map, ← l2, List.take_of_length_le (by simp)]
        rw [hfull] at gr
        obtain ⟨s8, M, m1, m2, m3⟩ := gr
        have hMl : M.length = L.length := by
          have := congrArg List.length m2
          rw [List.length_map, List.length_map, ← l2, List.length_map] at this; exact this
        refine ⟨G, D, _, _, rfl, rfl, s8 _ _ l1, m1, by rw [List.length_map, List.length_map, sizeLine_eq]; omega, fun p4 hp4 => ?_⟩
        refine ⟨Same.upd' (t1.trans s8) hp4, p4, _, rfl, L ++ M, by rw [upd_same]; simp, ?_, fun p hp => ?_⟩
        · rw [List.take_add_one, hc]
          show _ = ((C.take j) ++ [cl]).foldl Ld.grow [[]]
          rw [List.foldl_append, List.map_append, l2, m2]; rfl
        · rcases List.mem_append.mp hp with z | z
          · exact upd_keep (s8 _ _ (l3 p z)) hp4
          · exact upd_keep (m3 p z).2 hp4
    · rintro σ H6 ⟨t1, G, y8, rfl, lG⟩
      have e1 : C.take (enKvs gc C).length = C := by unfold enKvs; rw [List.length_map, List.take_length]
      rw [e1] at lG
      refine ⟨t1 _ _ upd_same, ?_⟩
      refine gen_seq (fun Hc => Same B2 Hc ∧ ListsAt Hc G (Ld.groups C)) ⟨Same.unlock blo t1, lG.unf (t1 _ _ upd_same)⟩ ?_
      clear t1 lG
      rintro B3 ⟨s3, lG⟩
      obtain ⟨L, l1, l2, l3⟩ := lG.ex
      have hLl : L.length ≤ 32 := by
        have e1 : L.length = (Ld.groups C).length := by
          have := congrArg List.length l2
          rw [List.length_map] at this
          exact this
        rw [e1, Ld.groups_len]
        exact Nat.le_trans (Nat.pow_le_pow_right (by decide) hCl) (by decide)
      have hnl : nuR R T C ≤ C.length := Ld.nuO_le
      have ekl : (enKvs gc C).length = C.length := by unfold enKvs; rw [List.length_map]
      refine ⟨_, rfl, _, rfl, p, _, 2, _, rfl, rfl, SqT.of (s3 _ _ bp), rfl, lo, _, rfl, s3 _ _ blo, _, rfl, G, rfl, ⟨_, SqL.of l1⟩, fun D hD => ?_⟩
      refine lc_it (walk_list (xs := L.map fun p => V.ref p.1)) (PvS B3 D (outM (Ld.groups C) fun g => .int (max 0 (shI R T g)))) (.zero hD outM_zero) (fun i H' _ z => SqL.of (z.1 _ _ l1)) ?_ ?_
      · rintro k v H7 H8 hk ⟨z1, z2⟩ ⟨rfl, hv⟩
        obtain ⟨y, hy, rfl⟩ := get_map hv
        have hg : (Ld.groups C)[k]? = some y.2 := by rw [← l2, List.getElem?_map, hy]; rfl
        have hsubl : y.2.Sublist C := Ld.groups_mem.mp (mem_of_get hg)
        refine ⟨rfl, tyes ⟨_, rfl, _, rfl, R, o, T, C, y.1, y.2, rfl, (ob2.same s3).same z1, z1 _ _ (l3 y (mem_of_get hy)), hCn.sublist hsubl, fun x hx => hsubl.subset hx, by have := hsubl.length_le; omega, fun H9 s9 => ?_⟩⟩
        exact PvS.add hD (z1.trans s9) (s9 _ _ z2) (outM_len (by rw [← l2, List.length_map]; omega)) (outM_step hg)
      · rintro H7 ⟨z1, z2⟩
        rw [outM_all _ (by rw [List.length_map, ← l2, List.length_map])] at z2
        have e2 : (Ld.groups C).map (fun g => V.int (max 0 (shI R T g))) = ((Ld.groups C).map fun g => max 0 (shI R T g)).map V.int := by rw [List.map_map]; rfl
        rw [e2] at z2
        refine ⟨D, _, rfl, SqL.of z2, by rw [List.length_map]; exact List.length_pos_iff.mpr (List.ne_nil_of_mem (Ld.groups_mem.mpr (List.nil_sublist C))), fun m hm hmax => ⟨_, _, rfl, rfl, rfl, _, rfl, ?_⟩⟩
        have hme : ((nuR R T C : Nat) : Int) = ((enKvs gc C).length : Int) - m := by
          rw [ekl]
          obtain ⟨g, hg, rfl⟩ := List.mem_map.mp hm
          have gs := Ld.groups_mem.mp hg
          have b1 : shI R T g ≤ (C.length : Int) - (nuR R T C : Int) := Ld.short_le hCn hTn (hCn.sublist gs) fun x hx => gs.subset hx
          obtain ⟨S, hS⟩ := Ld.short_ex (C := C) (U := T) (fit := fitR R) hCn hTn
          have b2 := hmax _ (List.mem_map_of_mem (f := fun g => max 0 (shI R T g)) (Ld.groups_mem.mpr (List.filter_sublist (p := S) (l := C))))
          have b3 : shI R T (C.filter S) = (C.length : Int) - (nuR R T C : Int) := hS
          omega
        rw [decide_eq_true (p := V.int ((Ld.nuO C T (fitR R) : Nat) : Int) = V.int (((enKvs gc C).length : Nat) - m)) (congrArg V.int hme)]
        refine iteF ?_
        have s37 := s3.trans z1
        refine ⟨fun σ' H' => Same B2 H' ∧ σ' = [some (.ref a), some (.ref h), some (.int (0 + (i : Nat))), some (.ref p), some (.ref o), some (.ref G), some (.int (nuR R T C : Nat)), some (.ref sd), y8, x9, x10, x11, x12, none], ?_, ?_⟩
        · have zero : nW R T C (nuR R T C + 1) = 0 := by
            have : ¬ Ld.wO C T (fitR R) (nuR R T C + 1) ≠ [] := fun z => Nat.not_succ_le_self _ (Ld.wO_ne.mp z)
            exact List.length_eq_zero_iff.mpr (Classical.not_not.mp this)
          refine ⟨_, rfl, R, o, T, C, rfl, ob2.same s37, fun H8 a' g s8 _ hnd hsub hpos => ?_, fun H8 s8 hall => ?_⟩
          · have hlt : nuR R T C < C.length := by
              have b1 : shI R T g ≤ (C.length : Int) - (nuR R T C : Int) := Ld.short_le hCn hTn hnd hsub
              omega
            refine ⟨rfl, _, rfl, _, rfl, p, _, 2, _, rfl, rfl, SqT.of (s8 _ _ (s37 _ _ bp)), rfl, lo, _, rfl, s8 _ _ (s37 _ _ blo), rfl, rfl, _, rfl, ?_⟩
            rw [decide_eq_false (p := V.int ((Ld.nuO C T (fitR R) : Nat) : Int) = V.int ((enKvs gc C).length : Nat)) (fun z => by rw [ekl] at z; injection z with z; have : nuR R T C = C.length := Int.ofNat.inj z; omega)]
            refine iteF ⟨_, rfl, _, rfl, _, _, rfl, rfl, R, o, T, C, nuR R T C + 1, rfl, ob2.same (s37.trans s8), by omega, fun Hz sz => ⟨rfl, _, rfl, ?_⟩⟩
            rw [decide_eq_true (p := V.int ((nW R T C (nuR R T C + 1) : Nat) : Int) = V.int 0) (by rw [zero]; rfl)]
            exact iteF ⟨(s37.trans s8).trans sz, rfl⟩
          · have heq : nuR R T C = C.length := by
              obtain ⟨S, hS⟩ := Ld.short_ex (C := C) (U := T) (fit := fitR R) hCn hTn
              have b3 : shI R T (C.filter S) = (C.length : Int) - (nuR R T C : Int) := hS
              have b4 := hall (C.filter S) ((asc_cL.sublist hlab.c).sublist List.filter_sublist) fun x hx => (List.mem_filter.mp hx).1
              omega
            refine ⟨rfl, _, rfl, _, rfl, p, _, 2, _, rfl, rfl, SqT.of (s8 _ _ (s37 _ _ bp)), rfl, lo, _, rfl, s8 _ _ (s37 _ _ blo), rfl, rfl, _, rfl, ?_⟩
            rw [decide_eq_true (p := V.int ((Ld.nuO C T (fitR R) : Nat) : Int) = V.int ((enKvs gc C).length : Nat)) (by rw [ekl]; exact congrArg (fun n : Nat => V.int n) heq)]
            refine iteF ⟨_, rfl, _, rfl, _, _, rfl, rfl, R, o, T, C, nuR R T C + 1, rfl, ob2.same (s37.trans s8), by omega, fun Hz sz => ⟨rfl, _, rfl, ?_⟩⟩
            rw [decide_eq_true (p := V.int ((nW R T C (nuR R T C + 1) : Nat) : Int) = V.int 0) (by rw [zero]; rfl)]
            exact iteF ⟨(s37.trans s8).trans sz, rfl⟩
        · clear lG l1 l2 l3 hLl z1 z2 hmax hm hme s37 hD s3
          rintro σ B3 ⟨s3, rfl⟩
          have ob3 := ob2.same s3
          have nf3 : ∀ {Hx : Hp}, Same B2 Hx → ∀ dx a b cc, Hx o = some (.ins (cOff K) dx [("own_catalog", cc), ("found", .ref a), ("lost", .ref b)]) → (a ≠ fo ∧ a ≠ lo) ∧ b ≠ fo ∧ b ≠ lo := fun sx dx a b cc e => by
            obtain ⟨dx', f', l', e', _⟩ := ob2.ex
            have e2 := sx _ _ e'
            rw [e2] at e
            have e3 := Option.some.inj e
            rw [e3] at e'
            exact nf2 _ _ _ _ e'
          have blo3 := s3 _ _ blo
          have bfo3 := s3 _ _ bfo
          have bp3 := s3 _ _ bp
          have pfo : p ≠ fo := ne_of bp bfo (by intro z; cases z)
          refine ⟨lo, _, blo3, trivial, fun od => ⟨_, rfl, p, _, 2, _, rfl, rfl, SqT.of (by rw [upd_ne plo]; exact bp3), rfl, lo, od, rfl, .inl ⟨_, upd_same, ?_⟩⟩⟩
          have obL : OffAt K (upd B3 lo (.frz od (.dK (enKvs gc C)))) R o T C := ob3.lock blo3 (fun l hl => let ⟨r, xs, e⟩ := hvc l hl; ⟨r, xs, s3 _ _ e⟩) fun dx a b cc e => ⟨(nf3 s3 dx a b cc e).1.2, (nf3 s3 dx a b cc e).2.2⟩
          refine for_it walk_keys (fun ii σ H' => Same (upd B3 lo (.frz od (.dK (enKvs gc C)))) H' ∧ ∃ z8 z9 z10, σ = [some (.ref a), some (.ref h), some (.int (0 + (i : Nat))), some (.ref p), some (.ref o), some (.ref G), some (.int (nuR R T C : Nat)), some (.ref sd), z8, z9, z10, x11, x12, none])
            ⟨Same.refl _, _, _, _, rfl⟩ (fun ii σ H' _ z => z.1 _ _ upd_same) ?_ ?_
          · rintro j v σ H6 H7 hj ⟨t1, z8, z9, z10, rfl⟩ ⟨rfl, k, u, hg, rfl⟩
            unfold enKvs at hg
            obtain ⟨cl, hc, e⟩ := get_map hg
            cases e
            have hcC := mem_of_get hc
            have hclT := hlab.cNotT hcC
            have ob7 := obL.same t1
            have fo7 : H7 fo = some (.dK (enKvs gt T)) := t1 _ _ (by rw [upd_ne h8]; exact bfo3)
            have p7 : H7 p = _ := t1 _ _ (by rw [upd_ne plo]; exact bp3)
            have v7 : ∀ l ∈ T, ∃ r xs, H7 (gt l).v = some (.tup (.ref r :: xs)) := fun l hl => by
              obtain ⟨r, xs, e⟩ := hvt l hl
              have e3 := s3 _ _ e
              exact ⟨r, xs, t1 _ _ (by rw [upd_ne (ne_of e3 blo3 (by intro z; cases z))]; exact e3)⟩
            have nf7 : ∀ dx a b cc, H7 o = some (.ins (cOff K) dx [("own_catalog", cc), ("found", .ref a), ("lost", .ref b)]) → a ≠ fo ∧ b ≠ fo := fun dx a b cc e => by
              obtain ⟨dx', f', l', e', _⟩ := ob3.ex
              have e2 := t1 _ _ (show upd B3 lo (.frz od (.dK (enKvs gc C))) o = _ by rw [upd_ne (ne_of e' blo3 (by intro z; cases z))]; exact e')
              rw [e2] at e
              have e3 := Option.some.inj e
              rw [e3] at e'
              have := nf3 s3 _ _ _ _ e'
              exact ⟨this.1.1, this.2.1⟩
            refine ⟨fo, _, fo7, trivial, fun od2 => ⟨_, rfl, p, _, 1, _, rfl, rfl, SqT.of (by rw [upd_ne pfo]; exact p7), rfl, fo, od2, rfl, .inl ⟨_, upd_same, ?_⟩⟩⟩
            have obF : OffAt K (upd H7 fo (.frz od2 (.dK (enKvs gt T)))) R o T C := ob7.lock fo7 v7 nf7
            refine for_it walk_keys (fun ii σ H' => Same (upd H7 fo (.frz od2 (.dK (enKvs gt T)))) H' ∧ ∃ z9 z10, σ = [some (.ref a), some (.ref h), some (.int (0 + (i : Nat))), some (.ref p), some (.ref o), some (.ref G), some (.int (nuR R T C : Nat)), some (.ref sd), some (.str cl), z9, z10, x11, x12, none])
              ⟨Same.refl _, _, _, rfl⟩ (fun ii σ H' _ z => z.1 _ _ upd_same) ?_ ?_
            · rintro j2 v σ H8 H9 hj2 ⟨u1, y9, y10, rfl⟩ ⟨rfl, k, u, hg, rfl⟩
              unfold enKvs at hg
              obtain ⟨t, ht, e⟩ := get_map hg
              cases e
              have htT := mem_of_get ht
              have htC := hlab.tNotC htT
              have ob9 := obF.same u1
              refine ⟨_, rfl, _, rfl, _, rfl, R, o, T, C, cl, rfl, ob9, .inr hcC, fun D1 Ha sa hD1 => ⟨D1, _, rfl, .inl (SqL.of hD1), rfl, flat_strs _, ?_⟩⟩
              have e1 : inV (V.str t) ((cands R T C cl).map V.str) = fitR R cl t := by
                rw [inV_strs]; unfold cands; rw [if_pos hcC, Bool.eq_iff_iff, decide_eq_true_iff, List.mem_filter]
                exact ⟨fun z => z.2, fun z => ⟨htT, z⟩⟩
              refine ⟨_, rfl, _, rfl, _, rfl, _, rfl, R, o, T, C, t, rfl, ob9.same sa, .inl htT, fun D2 Hb2 sb' hD2 => ⟨D2, _, rfl, .inl (SqL.of hD2), rfl, flat_strs _, rfl, _, rfl, ?_⟩⟩
              have e2 : inV (V.str cl) ((cands R T C t).map V.str) = fitR R cl t := by
                rw [inV_strs]; unfold cands; rw [if_neg htC, Bool.eq_iff_iff, decide_eq_true_iff, List.mem_filter]
                exact ⟨fun z => z.2, fun z => ⟨hcC, z⟩⟩
              have e3 : (!decide (V.bl (inV (V.str t) ((cands R T C cl).map V.str)) = V.bl (inV (V.str cl) ((cands R T C t).map V.str)))) = false := by rw [e1, e2]; simp
              show if (!decide (V.bl (inV (V.str t) ((cands R T C cl).map V.str)) = V.bl (inV (V.str cl) ((cands R T C t).map V.str)))) = true then _ else _
              rw [e3]
              have sab := sa.trans sb'
              refine iteF ⟨_, rfl, fitR R cl t, congrArg V.bl e1, ?_⟩
              by_cases hf : fitR R cl t = true
              · rw [hf]
                refine iteT ⟨_, rfl, _, rfl, _, rfl, _, rfl, R, o, T, C, cl, t, rfl, ob9.same sab, hcC, htT, hf, fun Hz sz => ⟨true, rfl, iteF ⟨u1.trans (sab.trans sz), _, _, rfl⟩⟩⟩
              · rw [show fitR R cl t = false by simpa using hf]
                exact iteF (iteF ⟨u1.trans sab, _, _, rfl⟩)
            · rintro σ H8 ⟨u1, y9, y10, rfl⟩
              refine ⟨u1 _ _ upd_same, ?_⟩
              have su := Same.unlock fo7 u1
              have ob8 := ob7.same su
              refine ⟨_, rfl, _, rfl, _, rfl, R, o, T, C, cl, rfl, ob8, hcC, fun D1 Ha ws sa hD1 hn => ⟨D1, _, rfl, .inl (SqL.of hD1), rfl, flat_strs _, _, rfl, ?_⟩⟩
              show if inV (V.str cl) (ws.map V.str) = true then _ else _
              rw [inV_strs, decide_eq_false hn]
              refine iteF ⟨_, rfl, _, rfl, R, o, T, C, rfl, ob8.same sa, fun D2 Hb2 ws2 sb' hD2 hiff => ⟨D2, _, rfl, .inl (SqL.of hD2), rfl, flat_strs _, ?_⟩⟩
              have sab := sa.trans sb'
              refine ⟨_, rfl, _, rfl, R, o, T, C, cl, rfl, ob8.same sab, .inr hcC, fun D3 Hc sc hD3 => ⟨by show 0 ≤ sizeLine; decide, fun p5 hp5 => ?_⟩⟩
              have hw : ∀ x ∈ cands R T C cl, wordOk x := by
                intro x hx
                unfold cands at hx
                rw [if_pos hcC] at hx
                exact words_tL x (hlab.t.subset (List.mem_filter.mp hx).1)
              refine ⟨.list ((cands R T C cl).map PyData.str), .list [], .lst (SqL.of (upd_keep hD3 hp5)) (dp_strs _), .lst (SqL.of upd_same) .nil, shaped_strs hw, rfl, rfl, _, rfl, ?_⟩
              have e4 : (!decide (V.bl (inV (V.str cl) (ws2.map V.str)) = V.bl (PyData.eqv (.list ((cands R T C cl).map PyData.str)) (.list [])))) = false := by
                rw [inV_strs, eqv_nilL]
                have : decide (cl ∈ ws2) = (cands R T C cl).isEmpty := by
                  rw [Bool.eq_iff_iff, decide_eq_true_iff, List.isEmpty_iff, hiff]
                  exact ⟨fun z => z.2, fun z => ⟨.inr hcC, z⟩⟩
                rw [this]; simp
              show if (!decide (V.bl (inV (V.str cl) (ws2.map V.str)) = V.bl (PyData.eqv (.list ((cands R T C cl).map PyData.str)) (.list [])))) = true then _ else _
              rw [e4]
              exact iteF ⟨t1.trans (su.trans (Same.upd' (sab.trans sc) hp5)), _, _, _, rfl⟩
          · rintro σ H6 ⟨t1, z8, z9, z10, rfl⟩
            refine ⟨t1 _ _ upd_same, ?_⟩
            refine gen_seq (fun Hc => Same B2 Hc) (s3.trans (Same.unlock blo3 t1)) ?_
            clear t1 obL blo3 bfo3 bp3 nf3 ob3 s3
            intro B4 s4
            have ob4 := ob2.same s4
            refine ⟨_, rfl, p, _, 1, _, rfl, rfl, SqT.of (s4 _ _ bp), rfl, fo, _, rfl, .inl (s4 _ _ bfo), fun q1 hq1 => ?_⟩
            have sq1 := Same.upd' (o := .lst ((enKvs gt T).map fun kv => kV kv.1)) s4 hq1
            refine ⟨_, rfl, p, _, 2, _, rfl, rfl, SqT.of (sq1 _ _ bp), rfl, lo, _, rfl, .inl (sq1 _ _ blo), fun q2 hq2 => ?_⟩
            have sq2 := Same.upd' (o := .lst ((enKvs gc C).map fun kv => kV kv.1)) sq1 hq2
            refine ⟨q1, q2, _, _, rfl, rfl, upd_keep upd_same hq2, upd_same, by unfold enKvs; simp [sizeLine_eq]; omega, fun q3 hq3 => ?_⟩
            have ek : (enKvs gt T).map (fun kv => kV kv.1) ++ (enKvs gc C).map (fun kv => kV kv.1) = (T ++ C).map V.str := by unfold enKvs; simp [kV, Function.comp_def]
            have sq3 := Same.upd' (o := .lst ((enKvs gt T).map (fun kv => kV kv.1) ++ (enKvs gc C).map (fun kv => kV kv.1))) sq2 hq3
            refine ⟨q3, rfl, ⟨_, SqL.of upd_same⟩, ?_⟩
            refine for_it (walk_list (xs := (T ++ C).map V.str)) (fun ii σ H' => Same B2 H' ∧ H' q3 = some (.lst ((T ++ C).map V.str)) ∧ ∃ z11 z12, σ = [some (.ref a), some (.ref h), some (.int (0 + (i : Nat))), some (.ref p), some (.ref o), some (.ref G), some (.int (nuR R T C : Nat)), some (.ref sd), z8, z9, z10, z11, z12, none])
              ⟨sq3, by rw [upd_same, ek], _, _, rfl⟩ (fun ii σ H' _ z => SqL.of z.2.1) ?_ ?_
            · rintro j v σ H6 H7 hj ⟨t1, tq, z11, z12, rfl⟩ ⟨rfl, hv⟩
              obtain ⟨l, hl, rfl⟩ := get_map hv
              have hm : l ∈ T ∨ l ∈ C := List.mem_append.mp (mem_of_get hl)
              have ob7 := ob2.same t1
              obtain ⟨odx, of, ol, o1, _⟩ := ob7.ex
              have hle : nuR R (Ld.rmv l T) (Ld.rmv l C) ≤ nuR R T C ∧ nuR R T C ≤ nuR R (Ld.rmv l T) (Ld.rmv l C) + 1 ∧ (cands R T C l = [] → nuR R (Ld.rmv l T) (Ld.rmv l C) = nuR R T C) := by
                rcases hm with ht | hc
                · rw [rmv_no (hlab.tNotC ht)]
                  refine ⟨Ld.nuO_t1 l, Ld.nuO_t2 l, fun z => Ld.nuO_t3 ?_⟩
                  unfold cands at z; rw [if_neg (hlab.tNotC ht)] at z; exact z
                · rw [rmv_no (hlab.cNotT hc)]
                  refine ⟨Ld.nuO_c1 l, Ld.nuO_c2 hCn l, fun z => Ld.nuO_c3 ?_⟩
                  unfold cands at z; rw [if_pos hc] at z; exact z
              obtain ⟨n1, n2, n3⟩ := hle
              refine ⟨_, rfl, o, odx, _, rfl, o1, rfl, _, rfl, R, o, T, C, l, rfl, ob7, hm, fun o2 Ha sa ho2 => ⟨R, o2, _, _, rfl, ho2, fun Hb2 sb' => ?_⟩⟩
              have sab := sa.trans sb'
              refine ⟨_, rfl, _, rfl, R, o, T, C, l, rfl, ob7.same sab, hm, fun z Hc sc hz => ⟨rfl, _, rfl, _, rfl, _, _, rfl, rfl, rfl, rfl, _, rfl, ?_⟩⟩
              have e1 : (!decide (V.bl (decide (V.str z = V.str "always")) = V.bl (decide (V.int ((nuR R (Ld.rmv l T) (Ld.rmv l C) : Nat) : Int) = V.int (((nuR R T C : Nat) : Int) - 1))))) = false := by
                by_cases hz1 : z = "always"
                · have := hz.mp hz1
                  rw [decide_eq_true (congrArg V.str hz1), decide_eq_true (show V.int ((nuR R (Ld.rmv l T) (Ld.rmv l C) : Nat) : Int) = V.int (((nuR R T C : Nat) : Int) - 1) by congr 1; omega)]; rfl
                · have h9 : ¬ nuR R (Ld.rmv l T) (Ld.rmv l C) ≠ nuR R T C := fun x => hz1 (hz.mpr x)
                  rw [decide_eq_false (fun x => hz1 (V.str.inj x)), decide_eq_false (p := V.int ((nuR R (Ld.rmv l T) (Ld.rmv l C) : Nat) : Int) = V.int (((nuR R T C : Nat) : Int) - 1)) (fun x => by have := V.int.inj x; omega)]; rfl
              show if (!decide (V.bl (decide (V.str z = V.str "always")) = V.bl (decide (V.int ((nuR R (Ld.rmv l T) (Ld.rmv l C) : Nat) : Int) = V.int (((nuR R T C : Nat) : Int) - 1))))) = true then _ else _
              rw [e1]
              refine iteF ⟨_, rfl, _, rfl, _, _, rfl, rfl, _, rfl, ?_⟩
              rw [decide_eq_false (p := ((nuR R T C : Nat) : Int) < ((nuR R (Ld.rmv l T) (Ld.rmv l C) : Nat) : Int)) (by omega)]
              refine iteF ⟨_, rfl, _, rfl, R, o, T, C, l, rfl, ob7.same (sab.trans sc), hm, fun z2 Hd sd' hz2 => ⟨rfl, _, rfl, ?_⟩⟩
              have sabd := (sab.trans sc).trans sd'
              by_cases hz1 : z2 = "always"
              · rw [decide_eq_true (congrArg V.str hz1)]
                refine iteT ⟨_, rfl, _, rfl, R, o, T, C, rfl, ob7.same sabd, fun D2 He ws2 se hD2 hiff => ⟨D2, _, rfl, .inl (SqL.of hD2), rfl, flat_strs _, _, rfl, ?_⟩⟩
                show if inV (V.str l) (ws2.map V.str) = true then _ else _
                rw [inV_strs, decide_eq_false (fun x => hz2.mp hz1 (n3 ((hiff l).mp x).2))]
                exact iteF ⟨t1.trans (sabd.trans se), sabd.trans se _ _ tq, _, _, rfl⟩
              · rw [decide_eq_false (fun x => hz1 (V.str.inj x))]
                exact iteF (iteF ⟨t1.trans sabd, sabd _ _ tq, _, _, rfl⟩)
            · rintro σ H6 ⟨t1, tq, z11, z12, rfl⟩
              refine gen_seq (fun Hc => Same B2 Hc) t1 ?_
              clear t1 tq sq3 hq3 sq2 hq2 sq1 hq1 ob4 s4 q3 q2 q1
              intro B5 s5
              have sHb5 : Same Hb B5 := sb2.trans s5
              have hsd5 := s5 _ _ hsd
              refine ⟨sd, _, hsd5, trivial, fun od2 => ⟨_, rfl, sd, od2, rfl, .inl ⟨_, upd_same, fun D hD => ?_⟩⟩⟩
              have sL : Same Hb (upd B5 sd (.frz od2 (.dK (ks.map fun p => ((Sum.inr p.1 : Key), V.str p.2))))) := Same.updN sHb5 hsdb
              have obL := hob.same sL
              refine lc_it walk_keys (PvS (upd B5 sd (.frz od2 (.dK (ks.map fun p => ((Sum.inr p.1 : Key), V.str p.2))))) D (fun _ => [])) (.zero hD rfl) (fun ii H' _ z => z.1 _ _ upd_same) ?_ ?_
              · rintro j v H6 H7 hj ⟨t1, t2⟩ ⟨rfl, k, u, hg, rfl⟩
                obtain ⟨pr, hpr, e⟩ := get_map hg
                cases e
                have hpm := mem_of_get hpr
                obtain ⟨k1, k2, k3, k4⟩ := hks pr hpm
                have vs1 : valV (ks.map fun p => ((Sum.inr p.1 : Key), V.str p.2)) (.inr pr.1) = some (.str pr.2) := val_pairs (fun p : Str × Str => p.1) (fun p => V.str p.2) ks hkn pr hpm
                refine ⟨rfl, _, rfl, R, o, T, C, rfl, obL.same t1, fun fd Ha M sa hM hfd => ?_⟩
                obtain ⟨mk1, mk2⟩ := Ld.wO_keys hCn hM
                have hp1 : nuR R (Ld.rmv pr.2 T) (Ld.rmv pr.1 C) + 1 ≤ nuR R T C := Ld.nuO_p1 hCn hTn k1 k2 k3
                have hpM : (pr.1, pr.2) ∈ M := by
                  have hnu : nuR R T C = (nuR R T C - 1) + 1 := by omega
                  have hjs := k4
                  unfold judS at hjs
                  rw [if_neg (by rw [k3]; decide)] at hjs
                  split at hjs
                  · exact absurd hjs (by decide)
                  · split at hjs
                    · rename_i he
                      refine Ld.wO_all hCn hTn k1 k2 k3 (k := nuR R T C - 1) ?_ M (by rw [← hnu]; exact hM)
                      rw [← hnu]; exact he
                    · exact absurd hjs (by decide)
                have vs2 : valV (M.map fun p => ((Sum.inr p.1 : Key), V.str p.2)) (.inr pr.1) = some (.str pr.2) := val_pairs (fun p : Str × Str => p.1) (fun p => V.str p.2) M mk1 (pr.1, pr.2) hpM
                refine ⟨fd, rfl, .inl ⟨_, .inl hfd⟩, _, rfl, _, vs2 ▸ DGet.k (k := .inr pr.1) hfd, _, rfl, _, rfl, sd, _, rfl, .inl ⟨_, .inr pr.1, .inr ⟨od2, sa _ _ (t1 _ _ upd_same)⟩, rfl, vs1.symm⟩, rfl, _, rfl, ?_⟩
                have e1 : (!decide (V.str pr.2 = V.str pr.2)) = false := by simp
                show if (!decide (V.str pr.2 = V.str pr.2)) = true then _ else _
                rw [e1]
                exact iteF (.skip (t1.trans sa) (sa _ _ t2) rfl)
              · rintro H6 ⟨t1, t2⟩
                refine ⟨t1 _ _ upd_same, ?_⟩
                have s6 := Same.unlock hsd5 t1
                have hDs : D ≠ sd := fun e => by rw [e, upd_same] at hD; cases hD
                have d6 : upd H6 sd (.dK (ks.map fun p => ((Sum.inr p.1 : Key), V.str p.2))) D = some (.lst []) := by rw [upd_ne hDs]; exact t2
                refine ⟨by show 0 ≤ sizeLine; decide, fun p2 hp2 => ?_⟩
                refine ⟨.list [], .list [], .lst (SqL.of (upd_keep d6 hp2)) .nil, .lst (SqL.of upd_same) .nil, rfl, rfl, _, rfl, iteF ?_⟩
                have s7 := (s5.trans s6).trans (Same.upd (o := .lst []) hp2)
                have ob7 := ob2.same s7
                refine ⟨_, rfl, R, o, T, C, rfl, ob7, fun D2 Ha out sa hD2 hlen => ⟨.ref D2, out.length, rfl, .inl ⟨_, SqL.of hD2, rfl⟩, ?_⟩⟩
                refine ⟨_, rfl, _, rfl, R, o, T, C, nuR R T C, rfl, ob7.same sa, by have : nuR R T C ≤ C.length := Ld.nuO_le; omega, fun Hb2 sb' => ⟨rfl, _, rfl, ?_⟩⟩
                have e1 : (!decide (V.int ((out.length : Nat) : Int) = V.int ((nW R T C (nuR R T C) : Nat) : Int))) = false := by rw [hlen]; simp
                show if (!decide (V.int ((out.length : Nat) : Int) = V.int ((nW R T C (nuR R T C) : Nat) : Int))) = true then _ else _
                rw [e1]
                exact iteF ⟨dB.same ((sBB.trans s7).trans (sa.trans sb')), _, _, _, _, _, _, _, _, _, _, _, rfl⟩
end
end Lk
/-! Kl18 -/
namespace Lk
open PySem PySem.Spec PyProof.Rows L2 GenW
/-- a thread of the caller's -/
theorem ends_of {P : Program} {w : World} {t : Sem PySem.Fin} {R : Result → Shared → Prop} {s : Shared} (hz : s.asleep) (hg : s.gens = #[])
    (h : LW P w callerA t (fun fin d s' => ∃ f, fin = .done f ∧ GenD d s'.heap ∧ ∀ r', r'.heap = s'.heap → r'.os = s'.os → R (.ok f) r') (fun _ _ _ => False) [] s) :
    ∃ n res r', schedN (denote table) P w n (.single s ⟨t, .builtin "claim.caller" {}, default, []⟩) = .halted (outcomeOf res) r' ∧ r'.heap.life = s.heap.life ∧ R res r' := by
  have q := h R (.builtin "claim.caller" {}) [] default .pure .raise id id caller_in (fun fin d1 s1 p1 z => ?_) fun _ _ _ _ z => z.elim
  · rw [wrap_self] at q
    exact q s _ ⟨rfl, rfl⟩ hz fun i k l c p fs e => by rw [hg] at e; simp at e
  · obtain ⟨f, rfl, gd, z⟩ := z
    exact ends_end (res := .ok f) gd z
section
open PySem.W PySem.Calls
theorem callFrom_L {c : ClaimW} {tree : List Value → Sem PySem.Fin} {w : World} {s : Shared} {free : Addr → Prop} {gens : Prop} {kept : Heap → Prop} (hz : s.asleep) (hgens : s.gens = #[])
    (hspec : ∀ args, c.pre args = true → WData.layableAll args = true → ∀ ord : List DictEntry → List DictEntry, (∀ l, (ord l).Perm l) →
      ∃ vs s₁, layAllW c.records (classAt s.heap) w.params ord args s = some (vs, s₁) ∧
        LW c.prog w callerA (tree vs) (fun fin d s' => ∃ f, fin = .done f ∧ GenD d s'.heap ∧ c.Ends s args vs s₁ (.ok f) s' ∧ s'.os = s.os ∧ kept s'.heap) (fun _ _ _ => False) [] s₁) :
    c.CallFrom (fun vs => ⟨tree vs, .builtin "claim.caller" {}, default, []⟩) w free gens kept s := by
  intro args hpre hlay ord hord
  obtain ⟨vs, s₁, hlaid, hcode⟩ := hspec args hpre hlay ord hord
  have hal := layAllW_rest _ _ _ hlaid
  obtain ⟨k, r, s', hsched, hlife, hcase, hos, hkp⟩ := ends_of (P := c.prog) (w := w) (t := tree vs) (s := s₁) (R := fun r s' => c.Ends s args vs s₁ r s' ∧ s'.os = s.os ∧ kept s'.heap) (Shared.asleep_of_life hal.2.2.2 hz) (hal.1.trans hgens)
    (lw_mono hcode (fun fin d s' z => (let ⟨f, e, gd, z1, z2, z3⟩ := z; ⟨f, e, gd, fun r' e1 e2 => ⟨z1.congr e1, e2.trans z2, by rw [e1]; exact z3⟩⟩)) fun _ _ _ z => z)
  refine ⟨vs, s₁, hlaid, k, _, s', hsched, ?_, (fun _ i x hx => by rw [hgens] at hx; simp at hx), hkp, by rw [hlife.trans hal.2.2.2], Shared.rest_eq hos⟩
  rcases hcase with ⟨v, rfl, d1, d2, d3, d4, d5⟩ | ⟨e, ob, cls, rfl, d1, d2, d3, d4, d5⟩
  · exact .inl ⟨v, rfl, d1, d2, d3, fun b o y _ => d4 b o y, d5⟩
  · exact .inr ⟨e, ob, cls, rfl, d1, d2, d3, d4, fun b o y _ => d5 b o y⟩
/-- what is asked of the law's call, loud -/
abbrev WalkL (q : Program) (loose : List Str) (XP : (Str → Option Value) → Heap → Prop) (YP : World → Heap → Prop) (r : RowW) (d : DefRec) (kwd : List (Str × Expr)) : Prop :=
  ∀ (w : World) (s₀ s₁ : Shared) (mg mb : Str → Option Value), Ground q loose r.records XP w s₀ mg mb s₁.heap → YP w s₁.heap → ∀ (a : Addr) (o : Obj) (pm cd doc dV kV : Value), s₁.heap.get? a = some o →
    o.data = .func { docDef d.name d.params d.body d.scope pm cd doc with defaults := dV, kwdefaults := kV } → s₁.heap.CodeRec cd d.name → Dflts mg s₁.heap d.params kwd dV kV → mg d.name = some (.ref a) → s₁.gens = #[] →
    ∀ (args : List WData) (vals : List Value) (as : List Addr), r.claim.pre args = true → WData.layableAll args = true → ReadsAllW r.records (classAt s₀.heap) s₁.heap vals args as → WellAll w.params s₁.heap vals args → (∀ a ∈ as, (a == sysModules) = false) →
      LW r.prog w callerA (PySem.call (.ref a) vals) (fun v d s' => GoodWG r.claim (classAt s₀.heap) (ExcName.means s₀.heap) args s₁ (.ok (.ret v)) s' ∧ GenD d s'.heap) (fun _ _ _ => False) [] s₁
theorem open_anyL {r : OpenRow} {q : Program} {loose : List Str} {Xt : Shared → Bool} {XP : (Str → Option Value) → Heap → Prop} {α : Type} {Yf : Shared → α} {Ya : World → α} {YP : World → Heap → Prop} {d : DefRec} {kwd : List (Str × Expr)} {N : Nat}
    (left : LeftO r.prog q loose Xt Yf Ya N) (hY : ∀ w s, Yf s = Ya w → YP w s.heap) (hYk : ∀ w h h', YP w h → (∀ b o, h.get? b = some o → h'.get? b = some o) → YP w h')
    (hX : ∀ s, Xt s = true → XP (s.heap.nsMap mainGlobals) s.heap) (hXk : ∀ mg h h', XP mg h → (∀ b o, h.get? b = some o → h'.get? b = some o) → XP mg h')
    (hdef : defOf q r.name = some (d, kwd)) (hp : r.prog.theDef r.name = some (d.params, d.body, d.scope)) (hk : kwWritten? d.params.kwonlyargs d.params.kw_defaults = some kwd) (hRf : ∀ s, Xt s = true → RecFacts r.records s.heap) (hwr : (!r.writes || r.records.isEmpty) = true)
    (k1 : r.wellSaid = true) (ok : (chainsOk q && opensWell r.prog && (frees r.toRowW && r.within.isEmpty)) = true) (hb : r.prog.bare) (hw : r.toRowW.promised)
    (call : WalkL q loose XP YP r.toRowW d kwd) : r.Holds := by
  refine ⟨k1, hw, ?_⟩
  obtain ⟨ok, k5⟩ := Bool.and_eq_true_iff.mp ok
  obtain ⟨hch, o1⟩ := Bool.and_eq_true_iff.mp ok
  obtain ⟨k5, k6⟩ := Bool.and_eq_true_iff.mp k5
  obtain ⟨hsame, hu, ha, hap, hm⟩ := frees_parts k5
  refine ⟨⟨hb, o1, by show r.toRowW.makers.map _ = []; rw [hm]; rfl⟩, hw.witness, fun w => ⟨(left.behind hX hch w).1, fun s' hs' => ?_⟩⟩
  obtain ⟨s₀, hf, hg0, s, hT, hz, hgens, hg, G00, y⟩ := (left.behind (XP := fun mg h => XP mg h ∧ RecFacts r.records h) (fun s hs => ⟨hX s hs, hRf s hs⟩) hch w).2 s' hs'
  have G0 : Ground q loose [] XP w s (s.heap.nsMap mainGlobals) (s.heap.nsMap builtinsNs) s.heap := ⟨G00.T, G00.B, G00.D, G00.TE, G00.TD, G00.W, G00.X.1, G00.cls, G00.has, G00.apart, G00.once, G00.K⟩
  have RF := G00.X.2
  have hT' := hT
  refine ⟨s₀, hf, hg0, s, hT, fun n hn => ?_, RF.1, RF.2.1, ?_⟩
  · obtain rfl : n = r.name := by split at hn <;> simp_all
    exact pinned_of_view hg G0 hdef hp hk
  have hgens : s.gens = #[] := Array.eq_empty_of_size_eq_zero (beq_iff_eq.mp hgens)
  have G : Ground q loose r.records XP w s _ _ s.heap := RF.ground G0
  refine callFrom_L (c := r.toRowW.claim) (tree := fun vs => do match ← nsGet mainNs r.name with
      | some f => do ret (← PySem.call f vs)
      | none => unsupported "claim.caller:no-such-global") hz hgens fun args hpre hlay ord hord => ?_
  obtain ⟨⟨vs, s₁⟩, hlaid⟩ := Option.isSome_iff_exists.mp (layAllW_isSome (P := w.params) (ord := ord) G.has args r.args s (pre_splitW hpre).1)
  have keeps := layAllW_keeps _ _ _ hlaid
  have hal := layAllW_rest _ _ _ hlaid
  obtain ⟨as, hrd, hin, hold⟩ := reads_layAllW hord _ _ _ hlaid hlay s₁.heap (fun _ _ e => e)
  have L : Laid r.records w s s₁ args vs as := ⟨⟨ord, hord, hlaid⟩, hrd, hin, hold, keeps, hal.1.trans hgens, hal.2.2.1⟩
  have G₁ := G.keeps hXk keeps
  obtain ⟨a, o, pm, cd, doc, dV, kV, h1, h2, h3, h4, h5⟩ := G₁.fn hdef
  have h := call w s s₁ _ _ G₁ (hYk _ _ _ (hY w s y) keeps) a o pm cd doc dV kV h2 h3 h4 h5 (defOf_name hdef ▸ h1) L.gens args vs as hpre hlay L.reads L.well (L.low G.low)
  have hi := ident_freeW hu ha hap
  have hwi : r.toRowW.claim.within = [] := List.isEmpty_iff.mp k6
  refine ⟨vs, s₁, hlaid, lw_bindw (wpAny_nsGet G₁.T.g ?_)⟩
  rw [h1]
  refine lw_bind (lw_mono h (fun v d1 s2 z => lw_pure ?_) fun _ _ _ z => z)
  obtain ⟨g, gd⟩ := z
  have z := g.laid (c := r.toRowW.claim) hsame hwi hi L
  exact ⟨_, rfl, gd, z.1, z.2.1, fun qq => ⟨namesKept_of hT' hg r.keeps keeps g.2.1.old, noTable hwr qq⟩⟩
end
end Lk
/-! Kl19 -/
namespace Lk
open PySem PySem.Spec PyProof.Rows L2 GenW
/-- what the law's call comes to -/
def LawEnd (s₁ : Shared) (r : Result) (d : List Addr) (s' : Shared) : Prop := r = .ok (.ret (.bool true)) ∧ OldK s₁.heap s'.heap ∧ s'.os = s₁.os ∧ AllBare s'.gens ∧ GenD d s'.heap
theorem law_callL {P : Program} {w : World} {K : PySem.W.Frag} {mg mb : Str → Option Value} {k : Nat} {fa a : Addr} {fd : FuncData} {x : Str} {sp : List V → Hp → VK → Prop} {s₁ : Shared} {vs : List Value} {ns : List Int}
    (KX : K.In s₁.heap) (hns : s₁.heap.Ns mainGlobals mg) (hb : s₁.heap.Ns builtinsNs mb) (hbb : ∀ x : Str, x ≠ "__name__" → mb x = bootBuiltins x) (hlim : s₁.heap.NoLimit) (hg : s₁.gens = #[])
    (ha : s₁.heap.get? a = some { cls := .type "list", data := .seq vs.toArray }) (hi : IntsAre vs ns) (hl : ns.length ≤ sizeLine) (hr : Room k callerA)
    (F : ∀ base : Heap, K.In base → base.Ns mainGlobals mg → LFn P w K mg base k fa fd [x] sp) (hbind : ∀ (s : Shared) (u : Value), BindsTo s fd ⟨[u], []⟩ [(x, u)])
    (hsp : ∀ H : Hp, SqL K H a (ns.map V.int) → sp [.ref a] H (fun v _ => v = .bl true)) : LC P w callerA (.call (.ref fa) ⟨[.ref a], []⟩) (LawEnd s₁) [] s₁ := by
  have rv := vals_ints hi
  have lenV := hi.length
  have core : ∀ H : Hp, Only H → SqL K H a (ns.map V.int) → HOk P w H s₁.heap → (∀ b, H b ≠ none → b = a) → (H a ≠ none → K.lookup a = none) → LC P w callerA (.call (.ref fa) ⟨[.ref a], []⟩) (LawEnd s₁) [] s₁ := by
    intro H hO hS hok hA hK
    have tracked : ∀ {b : Addr} {u : HO}, H b = some u → b = a := fun {b u} q => hA b (by rw [q]; simp)
    have base_of : ∀ {b : Addr} {o : Obj}, s₁.heap.get? b = some o → H b = none → (hidT s₁.heap H).get? b = some o := fun e n => hidT_get e n
    have noA : ∀ {b : Addr} {o : Obj} {es : Array DictEntry} {ep : Nat}, s₁.heap.get? b = some o → o.data = .dict es ep → H b = none := fun {b o es ep} e d => by
      cases q : H b with
      | none => rfl
      | some u =>
        obtain rfl := tracked q
        rw [ha] at e
        cases e
        exact absurd (show Data.seq vs.toArray _ = Data.dict es ep from d) (by intro z; cases z)
    have nsK : ∀ {b : Addr} {m : Str → Option Value}, s₁.heap.Ns b m → (hidT s₁.heap H).Ns b m := fun {b m} ⟨o, es, ep, e, d, r⟩ => ⟨o, es, ep, base_of e (noA e d), d, r⟩
    have hKb : K.In (hidT s₁.heap H) := fun b o e => base_of (KX b o e) (by
      cases q : H b with
      | none => rfl
      | some u =>
        obtain rfl := tracked q
        rw [hK (by rw [q]; simp)] at e
        cases e)
    have hM : Mod K mg (hidT s₁.heap H) := ⟨hKb, nsK hns, ⟨mb, nsK hb, hbb⟩, let ⟨mc, h1, h2⟩ := hlim; ⟨mc, nsK h1, h2⟩⟩
    have e0 : Env0 P w K mg (hidT s₁.heap H) callerA [] s₁ H := ⟨rfl, hM, fun b o e => of_hidT e, Nat.le_of_eq (hidT_size _ _), trivial, fun b hb => absurd (show b ∈ ([] : List Addr) from hb) (by simp), hok, .of_eq hg⟩
    refine lc_mono ((F _ hKb (nsK hns)).run callerA [] s₁ H [] ⟨[.ref a], []⟩ [.ref a] [.ref a] _ hr e0 (fun b hb => by cases hb) (hbind s₁ (.ref a)) (.cons rfl .nil) (hsp H hS)) fun r d s' z => ?_
    obtain ⟨u, rfl, v, H', os, bare, un, hok', r', q, dk⟩ := z
    have q' : v = .bl true := q
    subst q'
    obtain rfl : u = Value.bool true := r'
    refine ⟨rfl, OldK.of_keep fun b o e => ?_, os, bare, dk.gen⟩
    cases q : H b with
    | none => exact un.keep b o e q (by intro z; exact absurd (show b ∈ ([] : List Addr) from z) (by simp)) (by simp)
    | some u =>
      rcases hO b with z | ⟨ob, xs, z⟩
      · rw [q] at z; cases z
      · obtain ⟨e1, _⟩ := hok b _ z
        obtain ⟨e2, _⟩ := hok' b _ (un.frzs b ob _ z)
        rw [e] at e1
        cases e1
        exact e2
  cases hk : K.lookup a with
  | some o =>
    have e := KX a o hk
    rw [ha] at e
    cases e
    refine core (fun _ => none) (fun _ => .inl rfl) (.inr ⟨_, vs.toArray, _, hk, rfl, rfl, rfl, by rw [List.size_toArray, lenV]; exact hl, by simpa using rv⟩) (fun b u z => by have z' : (none : Option HO) = some u := z; cases z') (fun b z => absurd rfl z) fun z => absurd rfl z
  | none =>
    refine core (fun b => if b = a then some (.frz { cls := .type "list", data := .seq vs.toArray } (.lst (ns.map V.int))) else none) (fun b => ?_) (.inl (.inr ⟨{ cls := .type "list", data := .seq vs.toArray }, if_pos rfl⟩)) (fun b u z => ?_) (fun b z => ?_) fun _ => hk
    · by_cases hb : b = a
      · exact .inr ⟨_, _, if_pos hb⟩
      · exact .inl (if_neg hb)
    · by_cases hb : b = a
      · have z' := (if_pos hb).symm.trans z
        cases z'
        subst hb
        exact ⟨ha, by rw [List.length_map]; exact hl, vs, _, rv, ha⟩
      · have z' := (if_neg hb).symm.trans z
        cases z'
    · by_cases hb : b = a
      · exact hb
      · exact absurd (if_neg hb) z
section
open PySem.W PySem.Calls
theorem walk_L {l : OpenLaw} {n k : Nat} {q : Program} {loose : List Str} {XP : (Str → Option Value) → Heap → Prop} {YP : World → Heap → Prop} {d : DefRec} {x : Str}
    (hn : l.most = some n) (hn2 : n ≤ sizeLine) (hdf : d.params.defaults = []) (hr : Room k callerA)
    (F : ∀ (w : World) (mg : Str → Option Value) (fa : Addr) (h : Heap), YP w h → h.Ns mainGlobals mg → mg d.name = some (.ref fa) →
      ∃ (K : PySem.W.Frag) (fd : FuncData) (sp : List V → Hp → VK → Prop), K.In h ∧ (∀ (s : Shared) (u : Value), BindsTo s fd ⟨[u], []⟩ [(x, u)]) ∧
        (∀ (H : Hp) (a : Addr) (ns : List Int), ns.length ≤ n → SqL K H a (ns.map V.int) → sp [.ref a] H (fun v _ => v = .bl true)) ∧
        ∀ base : Heap, K.In base → base.Ns mainGlobals mg → LFn l.prog w K mg base k fa fd [x] sp) :
    WalkL q loose XP YP l.row.toRowW d [] := by
  intro w s₀ s₁ mg mb G Y fa o pm cd doc dV kV ho hd hcd hD hmg hg args vals as hpre hlay hrd hwl hlo
  obtain rfl : dV = .none := Dflts.none hD hdf
  obtain rfl : kV = .none := Dflts.noKw hD
  obtain ⟨a, vs, ns, rfl, rfl, hobj, hints, hlen⟩ := Att.script_of hn hpre hwl
  obtain ⟨K, fd, sp, KX, hb, hsp, hF⟩ := F w mg fa _ Y G.T.g hmg
  refine lw_runValue (lc_mono (law_callL KX G.T.g G.T.b G.T.builtins G.T.nolimit hg hobj hints (Nat.le_trans hlen hn2) hr hF hb fun H hS => hsp H a ns hlen hS) fun r d s' z => ?_)
  obtain ⟨rfl, h2, h3, h4, h5⟩ := z
  exact ⟨⟨.inl ⟨.bool true, .bool true, [], rfl, fun _ => rfl, .bool true, Att.post_true l _, fun _ => ⟨List.Pairwise.nil, fun _ hm => (nomatch hm)⟩⟩, h2, h3, h4⟩, h5⟩
open HandSHeadRun in
theorem head_anyL {r : OpenRow} {q : Program} {H : Hook} {ob : SharedT → H.α} {M : Nat} {loose : List PySem.Str} {d : DefRec} {kwd : List (PySem.Str × PySem.Expr)} (ho : ∀ s : SharedT, ob s = H.obs s.abs)
    (e : opening r.prog = plainProg r.prog.main.scope.names) (f : ∀ s, fenceModules? r.prog s = some s) (run : ∀ w, RunEq r q H ob M loose w)
    (hdef : defOf q r.name = some (d, kwd)) (hp : r.prog.theDef r.name = some (d.params, d.body, d.scope)) (hk : kwWritten? d.params.kwonlyargs d.params.kw_defaults = some kwd)
    (hwr : (!r.writes || r.records.isEmpty) = true) (k1 : r.wellSaid = true) (ok : (chainsOk q && opensWell r.prog && (frees r.toRowW && r.within.isEmpty)) = true) (hb : r.prog.bare) (hw : r.toRowW.promised)
    (call : WalkL q loose (XL q []) H.says r.toRowW d kwd) : r.Holds := by
  have left : LeftO r.prog q loose (fun s => xlAt q [] s && recOk r.toRowW.records s) H.obs H.val (M + 600) true :=
    left_one (M := M) e (Nat.ble_eq_true_of_le (by omega)) f (Nat.ble_eq_true_of_le (by omega)) fun w os => by
      have z := run w os
      have eo : ob = fun s => H.obs s.abs := funext ho
      rw [eo] at z
      simp only [endQ_eq, seenQ_eq]
      exact z
  exact open_anyL (r := r) (q := q) (loose := loose) (XP := XL q []) (YP := H.says) (d := d) (kwd := kwd) left H.of H.keeps (fun s z => xl_of s (Bool.and_eq_true_iff.mp z).1) XL.keeps hdef hp hk (fun s z => recFacts_of (Bool.and_eq_true_iff.mp z).2) hwr k1 ok hb hw call
end
end Lk
/-! Kz5 -/
namespace Lk
open PySem PySem.Spec PyProof.Rows L2
open He
section
variable {P : Program} {w : World} {K : PySem.W.Frag} {mg : Str → Option Value} {base : Heap} {h : Heap}
theorem ne_ok {a b : Addr} (h : (!(a == b)) = true) : a ≠ b := fun e => by subst e; rw [beq_self_eq_true] at h; cases h
theorem txt_ok (X : K.In h) (G : h.Ns mainGlobals mg) (c : Says K) : Txt K mg where
  isinstance := free_ok X G (c.d.fact 60 (f := Fa.free "isinstance") rfl)
  int := free_ok X G (c.d.fact 61 (f := Fa.free "int") rfl)
  bool := free_ok X G (c.d.fact 62 (f := Fa.free "bool") rfl)
  len := free_ok X G (c.d.fact 63 (f := Fa.free "len") rfl)
  all := free_ok X G (c.d.fact 64 (f := Fa.free "all") rfl)
  zip := free_ok X G (c.d.fact 65 (f := Fa.free "zip") rfl)
  enumerate := free_ok X G (c.d.fact 66 (f := Fa.free "enumerate") rfl)
  sorted := free_ok X G (c.d.fact 67 (f := Fa.free "sorted") rfl)
  tuple := free_ok X G (c.d.fact 68 (f := Fa.free "tuple") rfl)
  list := free_ok X G (c.d.fact 69 (f := Fa.free "list") rfl)
  dict := free_ok X G (c.d.fact 70 (f := Fa.free "dict") rfl)
  range := free_ok X G (c.d.fact 71 (f := Fa.free "range") rfl)
  max := free_ok X G (c.d.fact 72 (f := Fa.free "max") rfl)
  gLetters := (let ⟨_, e⟩ := str_ok X G (c.d.fact 82 (f := Fa.str "LETTERS" letters) rfl); ⟨_, e, _, rfl⟩)
  gMaxLetters := (let ⟨_, e⟩ := int_ok X G (c.d.fact 73 (f := Fa.int "MAX_LETTERS" 8) rfl); ⟨_, e, _, rfl⟩)
  gMaxFeatures := (let ⟨_, e⟩ := int_ok X G (c.d.fact 74 (f := Fa.int "MAX_FEATURES" 6) rfl); ⟨_, e, _, rfl⟩)
  gMaxValues := (let ⟨_, e⟩ := int_ok X G (c.d.fact 75 (f := Fa.int "MAX_VALUES" 8) rfl); ⟨_, e, _, rfl⟩)
  gMaxYielded := (let ⟨_, e⟩ := int_ok X G (c.d.fact 76 (f := Fa.int "MAX_YIELDED" 5000) rfl); ⟨_, e, _, rfl⟩)
  gMaxSize := (let ⟨_, e⟩ := int_ok X G (c.d.fact 77 (f := Fa.int "MAX_SIZE" 1000000000000000000) rfl); ⟨_, e, _, rfl⟩)
  gMaxDay := (let ⟨_, e⟩ := int_ok X G (c.d.fact 78 (f := Fa.int "MAX_DAY" 1000000000000000000) rfl); ⟨_, e, _, rfl⟩)
  gMaxSlips := (let ⟨_, e⟩ := int_ok X G (c.d.fact 79 (f := Fa.int "MAX_SLIPS" 2) rfl); ⟨_, e, _, rfl⟩)
  gMaxWorth := (let ⟨_, e⟩ := int_ok X G (c.d.fact 80 (f := Fa.int "MAX_WORTH" 1000000000) rfl); ⟨_, e, _, rfl⟩)
  gMaxLabels := (let ⟨_, e⟩ := int_ok X G (c.d.fact 81 (f := Fa.int "MAX_LABELS" 8) rfl); ⟨_, e, _, rfl⟩)
  gThings := (let ⟨_, e⟩ := str_ok X G (c.d.fact 83 (f := Fa.str "THINGS" "things") rfl); ⟨_, e, _, rfl⟩)
  gClaims := (let ⟨_, e⟩ := str_ok X G (c.d.fact 84 (f := Fa.str "CLAIMS" "claims") rfl); ⟨_, e, _, rfl⟩)
  mCat := glo_ok X G (c.d.fact 42 (f := Fa.glo "Catalog") rfl)
  mNote := glo_ok X G (c.d.fact 45 (f := Fa.glo "Note") rfl)
  mThing := glo_ok X G (c.d.fact 48 (f := Fa.glo "Thing") rfl)
  mClaim := glo_ok X G (c.d.fact 51 (f := Fa.glo "Claim") rfl)
  mOff := glo_ok X G (c.d.fact 54 (f := Fa.glo "Office") rfl)
  mMat := glo_ok X G (c.d.fact 57 (f := Fa.glo "Matcher") rfl)
  clCat := cls_ok (c.d.fact 43 (f := Fa.cls "Catalog") rfl)
  clNote := cls_ok (c.d.fact 46 (f := Fa.cls "Note") rfl)
  clThing := cls_ok (c.d.fact 49 (f := Fa.cls "Thing") rfl)
  clClaim := cls_ok (c.d.fact 52 (f := Fa.cls "Claim") rfl)
  clOff := cls_ok (c.d.fact 55 (f := Fa.cls "Office") rfl)
  clMat := cls_ok (c.d.fact 58 (f := Fa.cls "Matcher") rfl)
  naParts := noat_ok (c.d.fact 85 (f := Fa.noat "Catalog" "parts") rfl)
  naOwnCat := noat_ok (c.d.fact 86 (f := Fa.noat "Note" "own_catalog") rfl)
  naSets := noat_ok (c.d.fact 87 (f := Fa.noat "Note" "sets") rfl)
  naTNote := noat_ok (c.d.fact 88 (f := Fa.noat "Thing" "own_note") rfl)
  naTDay := noat_ok (c.d.fact 89 (f := Fa.noat "Thing" "own_day") rfl)
  naCNote := noat_ok (c.d.fact 90 (f := Fa.noat "Claim" "own_note") rfl)
  naCDay := noat_ok (c.d.fact 91 (f := Fa.noat "Claim" "own_day") rfl)
  naCSlips := noat_ok (c.d.fact 92 (f := Fa.noat "Claim" "own_slips") rfl)
  naCWorth := noat_ok (c.d.fact 93 (f := Fa.noat "Claim" "own_worth") rfl)
  naOCat := noat_ok (c.d.fact 94 (f := Fa.noat "Office" "own_catalog") rfl)
  naFound := noat_ok (c.d.fact 95 (f := Fa.noat "Office" "found") rfl)
  naLost := noat_ok (c.d.fact 96 (f := Fa.noat "Office" "lost") rfl)
  naOptions := noat_ok (c.d.fact 97 (f := Fa.noat "Matcher" "options") rfl)
  naKnown := noat_ok (c.d.fact 98 (f := Fa.noat "Matcher" "known") rfl)
  isCat := isB_ok (cls_ok (c.d.fact 43 (f := Fa.cls "Catalog") rfl)) (c.ex _ (List.mem_of_getElem? (i := 4) rfl))
  catNote := ne_ok (c.ex _ (List.mem_of_getElem? (i := 5) rfl))
  catOff := ne_ok (c.ex _ (List.mem_of_getElem? (i := 6) rfl))
  noteOff := ne_ok (c.ex _ (List.mem_of_getElem? (i := 7) rfl))
  thingOff := ne_ok (c.ex _ (List.mem_of_getElem? (i := 8) rfl))
  claimOff := ne_ok (c.ex _ (List.mem_of_getElem? (i := 9) rfl))
theorem df_ok {d : DefD} {x q : Str} {st : Stmt} {a : Addr} (c : Says K) (i : Nat) (hi : fnL[i]? = some d) (e : d = ⟨d.at_, x, q, defArgs st, defBody st, defScope st, [], []⟩) (ea : fAd K d.at_ = a) : Df K x q st a := by
  obtain ⟨fd, F⟩ := c.d.def_ i hi
  rw [ea] at F
  rw [e] at F
  exact ⟨fd, F⟩
theorem calls_okL (X : K.In h) (G : h.Ns mainGlobals mg) (c : Says K) : Calls0 P w K mg base ∧ C8.Mak P w K mg base 7 "Matcher" (cMat K) (spMatInit P w K) [] ∧ C8.Met P w K mg base 7 (cMat K) "most" (spMost P w K) [] ∧
    C8.Met P w K mg base 6 (cMat K) "counts" (spCounts P w K 5) [] ∧ C8.Met P w K mg base 7 (cMat K) "has" (spHas P w K) [] := by
  have Tx : Txt K mg := txt_ok X G c
  have h_isNumber : C8.Cal P w K mg base 1 "is_number" spIsNumber [] := ok_isNumber (df_ok c 0 (d := dIsNumber) rfl rfl rfl) (glo_ok X G (c.d.fact 0 (f := Fa.glo "is_number") rfl)) Tx
  have h_isWord : C8.Cal P w K mg base 1 "is_word" spIsWord [] := ok_isWord (df_ok c 1 (d := dIsWord) rfl rfl rfl) (glo_ok X G (c.d.fact 1 (f := Fa.glo "is_word") rfl)) Tx
  have h_isRising : C8.Cal P w K mg base 1 "is_rising" spIsRising [] := ok_isRising (df_ok c 2 (d := dIsRising) rfl rfl rfl) (glo_ok X G (c.d.fact 2 (f := Fa.glo "is_rising") rfl)) Tx
  have h_isFeature : C8.Cal P w K mg base 2 "is_feature" spIsFeature [] := ok_isFeature (df_ok c 3 (d := dIsFeature) rfl rfl rfl) (glo_ok X G (c.d.fact 3 (f := Fa.glo "is_feature") rfl)) Tx h_isWord h_isRising
  have h_catFeatures : Pro P w K mg base 1 (cCat K) "features" (spAttr (cCat K) "parts") := ok_catFeatures ((c.pr pCatFeatures (List.mem_of_getElem? (i := 0) rfl)).1 |> fun z => ⟨_, (PrD.df z (c.pr pCatFeatures (List.mem_of_getElem? (i := 0) rfl)).2).ex.choose_spec⟩) (cls_ok (c.d.fact 43 (f := Fa.cls "Catalog") rfl)) (PrD.propOf (c.pr pCatFeatures (List.mem_of_getElem? (i := 0) rfl)).1) Tx
  have h_catNames : Pro P w K mg base 1 (cCat K) "names" (spCatNames K) := ok_catNames ((c.pr pCatNames (List.mem_of_getElem? (i := 1) rfl)).1 |> fun z => ⟨_, (PrD.df z (c.pr pCatNames (List.mem_of_getElem? (i := 1) rfl)).2).ex.choose_spec⟩) (cls_ok (c.d.fact 43 (f := Fa.cls "Catalog") rfl)) (PrD.propOf (c.pr pCatNames (List.mem_of_getElem? (i := 1) rfl)).1) Tx
  have h_catContains : SpM P w K mg base 3 (cCat K) "__contains__" (spCatContains K) := ok_catContains (df_ok c 5 (d := dCatContains) rfl rfl rfl) (spB_ok (c.ex _ (List.mem_of_getElem? (i := 0) rfl))) Tx h_catNames
  have h_catEq : NeM P w K mg base 3 (cCat K) (spCatEq K) := ok_catEq (df_ok c 6 (d := dCatEq) rfl rfl rfl) (neB_ok (c.ex _ (List.mem_of_getElem? (i := 3) rfl))) Tx h_catFeatures
  have h_catInit : C8.Mak P w K mg base 3 "Catalog" (cCat K) (spCatInit K) [] := ok_catInit (df_ok c 4 (d := dCatInit) rfl rfl rfl) (mkr_ok (c.d.fact 44 (f := Fa.mkr "Catalog") rfl)) Tx h_isFeature
  have h_noteCatalog : Pro P w K mg base 1 (cNote K) "catalog" (spAttr (cNote K) "own_catalog") := ok_noteCatalog ((c.pr pNoteCatalog (List.mem_of_getElem? (i := 2) rfl)).1 |> fun z => ⟨_, (PrD.df z (c.pr pNoteCatalog (List.mem_of_getElem? (i := 2) rfl)).2).ex.choose_spec⟩) (cls_ok (c.d.fact 46 (f := Fa.cls "Note") rfl)) (PrD.propOf (c.pr pNoteCatalog (List.mem_of_getElem? (i := 2) rfl)).1) Tx
  have h_noteGet : SpM P w K mg base 1 (cNote K) "__getitem__" (spNoteGet K) := ok_noteGet (df_ok c 8 (d := dNoteGet) rfl rfl rfl) (spB_ok (c.ex _ (List.mem_of_getElem? (i := 1) rfl))) Tx
  have h_noteInit : C8.Mak P w K mg base 4 "Note" (cNote K) (spNoteInit K) [] := ok_noteInit (df_ok c 7 (d := dNoteInit) rfl rfl rfl) (mkr_ok (c.d.fact 47 (f := Fa.mkr "Note") rfl)) Tx h_catContains h_catFeatures h_isRising
  have h_thingNote : Pro P w K mg base 1 (cThing K) "note" (spAttr (cThing K) "own_note") := ok_thingNote ((c.pr pThingNote (List.mem_of_getElem? (i := 3) rfl)).1 |> fun z => ⟨_, (PrD.df z (c.pr pThingNote (List.mem_of_getElem? (i := 3) rfl)).2).ex.choose_spec⟩) (cls_ok (c.d.fact 49 (f := Fa.cls "Thing") rfl)) (PrD.propOf (c.pr pThingNote (List.mem_of_getElem? (i := 3) rfl)).1) Tx
  have h_thingDay : Pro P w K mg base 1 (cThing K) "day" (spAttr (cThing K) "own_day") := ok_thingDay ((c.pr pThingDay (List.mem_of_getElem? (i := 4) rfl)).1 |> fun z => ⟨_, (PrD.df z (c.pr pThingDay (List.mem_of_getElem? (i := 4) rfl)).2).ex.choose_spec⟩) (cls_ok (c.d.fact 49 (f := Fa.cls "Thing") rfl)) (PrD.propOf (c.pr pThingDay (List.mem_of_getElem? (i := 4) rfl)).1) Tx
  have h_claimNote : Pro P w K mg base 1 (cClaim K) "note" (spAttr (cClaim K) "own_note") := ok_claimNote ((c.pr pClaimNote (List.mem_of_getElem? (i := 5) rfl)).1 |> fun z => ⟨_, (PrD.df z (c.pr pClaimNote (List.mem_of_getElem? (i := 5) rfl)).2).ex.choose_spec⟩) (cls_ok (c.d.fact 52 (f := Fa.cls "Claim") rfl)) (PrD.propOf (c.pr pClaimNote (List.mem_of_getElem? (i := 5) rfl)).1) Tx
  have h_claimDay : Pro P w K mg base 1 (cClaim K) "day" (spAttr (cClaim K) "own_day") := ok_claimDay ((c.pr pClaimDay (List.mem_of_getElem? (i := 6) rfl)).1 |> fun z => ⟨_, (PrD.df z (c.pr pClaimDay (List.mem_of_getElem? (i := 6) rfl)).2).ex.choose_spec⟩) (cls_ok (c.d.fact 52 (f := Fa.cls "Claim") rfl)) (PrD.propOf (c.pr pClaimDay (List.mem_of_getElem? (i := 6) rfl)).1) Tx
  have h_claimSlips : Pro P w K mg base 1 (cClaim K) "slips" (spAttr (cClaim K) "own_slips") := ok_claimSlips ((c.pr pClaimSlips (List.mem_of_getElem? (i := 7) rfl)).1 |> fun z => ⟨_, (PrD.df z (c.pr pClaimSlips (List.mem_of_getElem? (i := 7) rfl)).2).ex.choose_spec⟩) (cls_ok (c.d.fact 52 (f := Fa.cls "Claim") rfl)) (PrD.propOf (c.pr pClaimSlips (List.mem_of_getElem? (i := 7) rfl)).1) Tx
  have h_common : C8.Cal P w K mg base 3 "common" (spCommon K) [] := ok_common (df_ok c 9 (d := dCommon) rfl rfl rfl) (glo_ok X G (c.d.fact 4 (f := Fa.glo "common") rfl)) Tx h_noteGet
  have h_misfits : C8.Cal P w K mg base 4 "misfits_of" (spMisfits K) [] := ok_misfits (df_ok c 13 (d := dMisfits) rfl rfl rfl) (glo_ok X G (c.d.fact 8 (f := Fa.glo "misfits_of") rfl)) Tx h_common h_thingNote h_claimNote h_noteCatalog h_catNames
  have h_isFitting : C8.Cal P w K mg base 5 "is_fitting" (spIsFitting K) [] := ok_isFitting (df_ok c 14 (d := dIsFitting) rfl rfl rfl) (glo_ok X G (c.d.fact 9 (f := Fa.glo "is_fitting") rfl)) Tx h_misfits h_thingDay h_claimDay h_claimSlips
  have h_offThings : Pro P w K mg base 1 (cOff K) "things" (spOffThings K) := ok_offThings ((c.pr pOffThings (List.mem_of_getElem? (i := 8) rfl)).1 |> fun z => ⟨_, (PrD.df z (c.pr pOffThings (List.mem_of_getElem? (i := 8) rfl)).2).ex.choose_spec⟩) (cls_ok (c.d.fact 55 (f := Fa.cls "Office") rfl)) (PrD.propOf (c.pr pOffThings (List.mem_of_getElem? (i := 8) rfl)).1) Tx
  have h_offClaims : Pro P w K mg base 1 (cOff K) "claims" (spOffClaims K) := ok_offClaims ((c.pr pOffClaims (List.mem_of_getElem? (i := 9) rfl)).1 |> fun z => ⟨_, (PrD.df z (c.pr pOffClaims (List.mem_of_getElem? (i := 9) rfl)).2).ex.choose_spec⟩) (cls_ok (c.d.fact 55 (f := Fa.cls "Office") rfl)) (PrD.propOf (c.pr pOffClaims (List.mem_of_getElem? (i := 9) rfl)).1) Tx
  have h_offContains : SpM P w K mg base 1 (cOff K) "__contains__" (spOffContains K) := ok_offContains (df_ok c 45 (d := dOffContains) rfl rfl rfl) (spB_ok (c.ex _ (List.mem_of_getElem? (i := 2) rfl))) Tx
  have h_fitThings : C8.Cal P w K mg base 6 "fitting_things" (spFitThings K) [] := ok_fitThings (df_ok c 15 (d := dFitThings) rfl rfl rfl) (glo_ok X G (c.d.fact 10 (f := Fa.glo "fitting_things") rfl)) Tx h_offThings h_offClaims h_isFitting
  have h_valClaim : C8.Cal P w K mg base 3 "validate_claim" (spValClaim K) [] := ok_valClaim (df_ok c 10 (d := dValClaim) rfl rfl rfl) (glo_ok X G (c.d.fact 5 (f := Fa.glo "validate_claim") rfl)) Tx h_offClaims
  have h_valPair : C8.Cal P w K mg base 4 "validate_pair" (spValPair K) [] := ok_valPair (df_ok c 11 (d := dValPair) rfl rfl rfl) (glo_ok X G (c.d.fact 6 (f := Fa.glo "validate_pair") rfl)) Tx h_offThings h_valClaim
  have h_valLabel : C8.Cal P w K mg base 3 "validate_label" (spValLabel K) [] := ok_valLabel (df_ok c 12 (d := dValLabel) rfl rfl rfl) (glo_ok X G (c.d.fact 7 (f := Fa.glo "validate_label") rfl)) Tx h_offContains
  have h_candidates : C8.Cal P w K mg base 7 "candidates" (spCandidates K) [] := ok_candidates (df_ok c 16 (d := dCandidates) rfl rfl rfl) (glo_ok X G (c.d.fact 11 (f := Fa.glo "candidates") rfl)) Tx h_offThings h_offClaims h_valLabel h_fitThings h_isFitting
  have h_lonely : C8.Cal P w K mg base 8 "lonely" (spLonely K) [] := ok_lonely (df_ok c 17 (d := dLonely) rfl rfl rfl) (glo_ok X G (c.d.fact 12 (f := Fa.glo "lonely") rfl)) Tx h_offThings h_offClaims h_candidates
  have h_rivals : C8.Cal P w K mg base 7 "rivals" (spRivals K) [] := ok_rivals (df_ok c 18 (d := dRivals) rfl rfl rfl) (glo_ok X G (c.d.fact 13 (f := Fa.glo "rivals") rfl)) Tx h_offClaims h_valClaim h_fitThings
  have h_choices : C8.Cal P w K mg base 1 "choices" spChoices [] := ok_choices (df_ok c 19 (d := dChoices) rfl rfl rfl) (glo_ok X G (c.d.fact 14 (f := Fa.glo "choices") rfl)) Tx
  have h_shortage : C8.Cal P w K mg base 7 "shortage" (spShortage K) [] := ok_shortage (df_ok c 20 (d := dShortage) rfl rfl rfl) (glo_ok X G (c.d.fact 15 (f := Fa.glo "shortage") rfl)) Tx h_fitThings
  have h_shortGroup : C8.Cal P w K mg base 8 "short_group" (spShortGroup K) [] := ok_shortGroup (df_ok c 21 (d := dShortGroup) rfl rfl rfl) (glo_ok X G (c.d.fact 16 (f := Fa.glo "short_group") rfl)) Tx h_offClaims h_choices h_shortage
  have h_shownGroup : C8.Cal P w K mg base 8 "shown_group" (spShownGroup K) [] := ok_shownGroup (df_ok c 22 (d := dShownGroup) rfl rfl rfl) (glo_ok X G (c.d.fact 17 (f := Fa.glo "shown_group") rfl)) Tx h_offClaims h_shortage
  have h_thingInit : C8.Mak P w K mg base 2 "Thing" (cThing K) (spThingInit K) [] := ok_thingInit (df_ok c 41 (d := dThingInit) rfl rfl rfl) (mkr_ok (c.d.fact 50 (f := Fa.mkr "Thing") rfl)) Tx h_isNumber
  have h_claimInit : C8.Mak P w K mg base 2 "Claim" (cClaim K) (spClaimInit K) [] := ok_claimInit (let ⟨fd, F⟩ := c.d.def_ 42 (d := dClaimInit) rfl; ⟨fd, F⟩) (mkr_ok (c.d.fact 53 (f := Fa.mkr "Claim") rfl)) Tx h_isNumber
  have h_ordered : C8.Cal P w K mg base 1 "ordered" spOrdered [] := ok_ordered (df_ok c 43 (d := dOrdered) rfl rfl rfl) (glo_ok X G (c.d.fact 31 (f := Fa.glo "ordered") rfl)) Tx
  have h_offInit : C8.Mak P w K mg base 5 "Office" (cOff K) (spOffInit K) [] := ok_offInit (df_ok c 44 (d := dOffInit) rfl rfl rfl) (mkr_ok (c.d.fact 56 (f := Fa.mkr "Office") rfl)) Tx h_ordered h_isWord h_thingNote h_claimNote h_noteCatalog h_catEq
  have h_without : C8.Met P w K mg base 7 (cOff K) "without" (spWithout K) [] := ok_without (df_ok c 46 (d := dOffWithout) rfl rfl rfl) (cls_ok (c.d.fact 55 (f := Fa.cls "Office") rfl)) (meth_ok (c.d.fact 103 (f := Fa.meth "Office" "without") rfl)) Tx h_offContains h_offInit
  have h_restOf : C8.Cal P w K mg base 8 "rest_of" (spRest K false) [] := ok_restOf (df_ok c 38 (d := dRestOf) rfl rfl rfl) (glo_ok X G (c.d.fact 28 (f := Fa.glo "rest_of") rfl)) Tx h_without
  have h_valFitting : C8.Cal P w K mg base 6 "validate_fitting" (spValFitting K) [] := ok_valFitting (df_ok c 37 (d := dValFitting) rfl rfl rfl) (glo_ok X G (c.d.fact 27 (f := Fa.glo "validate_fitting") rfl)) Tx h_offThings h_offClaims h_valPair h_isFitting
  have h_handed : C8.Cal P w K mg base 9 "handed" (spRest K true) [] := ok_handed (df_ok c 39 (d := dHanded) rfl rfl rfl) (glo_ok X G (c.d.fact 29 (f := Fa.glo "handed") rfl)) Tx h_valFitting h_restOf
  have h_counts : C8.Met P w K mg base 6 (cMat K) "counts" (spCounts P w K 5) [] := ok_counts (df_ok c 24 (d := dMatCounts) rfl rfl rfl) (cls_ok (c.d.fact 58 (f := Fa.cls "Matcher") rfl)) (meth_ok (c.d.fact 99 (f := Fa.meth "Matcher" "counts") rfl)) Tx
  have h_matInit : C8.Mak P w K mg base 7 "Matcher" (cMat K) (spMatInit P w K) [] := ok_matInit (df_ok c 23 (d := dMatInit) rfl rfl rfl) (mkr_ok (c.d.fact 59 (f := Fa.mkr "Matcher") rfl)) Tx h_offClaims h_fitThings
  have h_has : C8.Met P w K mg base 7 (cMat K) "has" (spHas P w K) [] := ok_has (df_ok c 25 (d := dMatHas) rfl rfl rfl) (cls_ok (c.d.fact 58 (f := Fa.cls "Matcher") rfl)) (meth_ok (c.d.fact 100 (f := Fa.meth "Matcher" "has") rfl)) Tx h_counts
  have h_most : C8.Met P w K mg base 7 (cMat K) "most" (spMost P w K) [] := ok_most (df_ok c 26 (d := dMatMost) rfl rfl rfl) (cls_ok (c.d.fact 58 (f := Fa.cls "Matcher") rfl)) (meth_ok (c.d.fact 101 (f := Fa.meth "Matcher" "most") rfl)) Tx h_counts
  have h_matchCount : C8.Cal P w K mg base 9 "match_count" (spMatchCount K) [] := ok_matchCount (df_ok c 28 (d := dMatchCount) rfl rfl rfl) (glo_ok X G (c.d.fact 18 (f := Fa.glo "match_count") rfl)) Tx h_isNumber h_matInit h_counts
  have h_mostPairs : C8.Cal P w K mg base 9 "most_pairs" (spMostPairs K) [] := ok_mostPairs (df_ok c 29 (d := dMostPairs) rfl rfl rfl) (glo_ok X G (c.d.fact 19 (f := Fa.glo "most_pairs") rfl)) Tx h_matInit h_most
  have h_judged : C8.Cal P w K mg base 10 "judged" (spJudged K) [] := ok_judged (df_ok c 32 (d := dJudged) rfl rfl rfl) (glo_ok X G (c.d.fact 22 (f := Fa.glo "judged") rfl)) Tx h_offThings h_offClaims h_isFitting h_mostPairs h_without h_matInit h_counts
  have h_judge : C8.Cal P w K mg base 11 "judge" (spJudged K) [] := ok_judge (df_ok c 33 (d := dJudge) rfl rfl rfl) (glo_ok X G (c.d.fact 23 (f := Fa.glo "judge") rfl)) h_valPair h_judged
  have h_surePairs : C8.Cal P w K mg base 11 "sure_pairs" (spSurePairs K) [] := ok_surePairs (df_ok c 34 (d := dSurePairs) rfl rfl rfl) (glo_ok X G (c.d.fact 24 (f := Fa.glo "sure_pairs") rfl)) Tx h_offClaims h_fitThings h_judged
  have h_pairLoss : C8.Cal P w K mg base 10 "pair_loss" (spPairLoss K) [] := ok_pairLoss (df_ok c 40 (d := dPairLoss) rfl rfl rfl) (glo_ok X G (c.d.fact 30 (f := Fa.glo "pair_loss") rfl)) h_handed h_mostPairs
  have h_service : C8.Cal P w K mg base 9 "service" (spService K) [] := ok_service (df_ok c 35 (d := dService) rfl rfl rfl) (glo_ok X G (c.d.fact 25 (f := Fa.glo "service") rfl)) Tx h_without h_matInit h_counts h_most
  have h_served : C8.Cal P w K mg base 10 "served" (spService K) [] := ok_served (df_ok c 36 (d := dServed) rfl rfl rfl) (glo_ok X G (c.d.fact 26 (f := Fa.glo "served") rfl)) h_valLabel h_service
  have h_lawMix : C8.Cal P w K mg base 1 "_law_mix" (spMix K) [] := ok_lawMix (df_ok c 47 (d := dLawMix) rfl rfl rfl) (glo_ok X G (c.d.fact 32 (f := Fa.glo "_law_mix") rfl)) Tx
  have h_lawNext : C8.Cal P w K mg base 1 "_law_next" spNext [] := ok_lawNext (df_ok c 48 (d := dLawNext) rfl rfl rfl) (glo_ok X G (c.d.fact 33 (f := Fa.glo "_law_next") rfl)) Tx
  have h_lawFeatures : C8.Cal P w K mg base 2 "_law_features" spFeatures [] := ok_lawFeatures (df_ok c 49 (d := dLawFeatures) rfl rfl rfl) (glo_ok X G (c.d.fact 34 (f := Fa.glo "_law_features") rfl)) Tx h_lawNext
  have h_lawSome : C8.Cal P w K mg base 2 "_law_some" spSome [] := ok_lawSome (df_ok c 50 (d := dLawSome) rfl rfl rfl) (glo_ok X G (c.d.fact 35 (f := Fa.glo "_law_some") rfl)) Tx h_lawNext
  have h_lawSets : C8.Cal P w K mg base 3 "_law_sets" spSets [] := ok_lawSets (df_ok c 51 (d := dLawSets) rfl rfl rfl) (glo_ok X G (c.d.fact 36 (f := Fa.glo "_law_sets") rfl)) Tx h_lawSome
  have h_lawDrawn : C8.Cal P w K mg base 4 "_law_drawn" spDrawn [] := ok_lawDrawn (df_ok c 52 (d := dLawDrawn) rfl rfl rfl) (glo_ok X G (c.d.fact 37 (f := Fa.glo "_law_drawn") rfl)) Tx h_lawNext h_lawFeatures h_lawSets
  have h_lawNote : C8.Cal P w K mg base 6 "_law_note" (spLawNote K) [] := ok_lawNote (df_ok c 53 (d := dLawNote) rfl rfl rfl) (glo_ok X G (c.d.fact 38 (f := Fa.glo "_law_note") rfl)) Tx h_noteInit
  have h_lawOffice : C8.Cal P w K mg base 7 "_law_office" (spLawOffice K) [] := ok_lawOffice (df_ok c 54 (d := dLawOffice) rfl rfl rfl) (glo_ok X G (c.d.fact 39 (f := Fa.glo "_law_office") rfl)) Tx h_catInit h_thingInit h_claimInit h_lawNote h_offInit
  have h_pairRight : C8.Cal P w K mg base 12 "_law_pair_right" (spPairRight K) [] := ok_pairRight (df_ok c 55 (d := dLawPairRight) rfl rfl rfl) (glo_ok X G (c.d.fact 40 (f := Fa.glo "_law_pair_right") rfl)) h_judge h_pairLoss h_candidates h_matchCount h_handed
  exact ⟨⟨h_lawMix, h_lawDrawn, h_lawOffice, h_mostPairs, h_surePairs, h_shownGroup, h_shortGroup, h_matchCount, h_candidates, h_pairRight, h_rivals, h_lonely, h_without, h_served⟩, h_matInit, h_most, h_counts, h_has⟩
end
end Lk
/-! Kz6 -/
namespace Lk
open PySem PySem.Spec PyProof.Rows L2 He
theorem law_okL {P : Program} {w : World} {K : PySem.W.Frag} {h : Heap} {mg : Str → Option Value} {f : Addr} (X : K.In h) (G : h.Ns mainGlobals mg) (hfa : mg ("law" : Str) = some (.ref f)) (c : Says K) :
    ∃ fd : FuncData, (∀ (s : Shared) (v : Value), BindsTo s fd ⟨[v], []⟩ [("_law_script", v)]) ∧ ∀ base : Heap, K.In base → base.Ns mainGlobals mg → LFn P w K mg base 25 f fd ["_law_script"] (fun vs H Q => spLaw K vs H Q C8.E0) := by
  have e := hfa.symm.trans (glo_ok X G (c.d.fact 41 (f := Fa.glo "law") rfl))
  cases e
  obtain ⟨fd, F⟩ := c.d.def_ 56 (d := dLaw) rfl
  obtain ⟨fd1, F1⟩ := df_ok c 30 (d := dFirstMatch) rfl rfl rfl
  obtain ⟨fdm, F2⟩ := df_ok c 31 (d := dMatches) rfl rfl rfl
  obtain ⟨fw, Fw⟩ := df_ok c 27 (d := dMatWalked) rfl rfl rfl
  have b := FunD.bindsA (ps := ["_law_script"]) F fun _ _ _ _ _ _ us hl => match us, hl with | [_], _ => rfl
  have c2 := cls_ok (c.d.fact 58 (f := Fa.cls "Matcher") rfl)
  have me := meth_ok (c.d.fact 102 (f := Fa.meth "Matcher" "walked") rfl)
  refine ⟨fd, fun s v => b s [v] rfl, fun base _ _ => ?_⟩
  have Tx := txt_ok X G c
  obtain ⟨c0, cM, cC, cN, cH⟩ := calls_okL (P := P) (w := w) (base := base) X G c
  exact ok_lawL F Tx c0 (ok_first F1 Tx cM cC Fw c2 me cH) (glo_ok X G (c.d.fact 20 (f := Fa.glo "first_match") rfl)) F1.kp (F1.bindsN fun _ _ _ _ _ _ us hl => match us, hl with | [_], _ => rfl) F2 (glo_ok X G (c.d.fact 21 (f := Fa.glo "matches") rfl)) cM cC cN Fw c2 me cH
end Lk
open PySem PySem.W PySem.Calls PyProof.Rows
theorem PySem.Challenge.cw_lostdesk_k18_whole_pairs_and_groups_holds : PySem.Challenge.rw_lostdesk_k18_whole_pairs_and_groups.Holds := by
  w_on; o_law
  refine Lk.head_anyL (r := OpenLaw.row PySem.Challenge.rw_lostdesk_k18_whole_pairs_and_groups) (q := view (OpenLaw.row PySem.Challenge.rw_lostdesk_k18_whole_pairs_and_groups).prog [81]) (H := Lk.hookL) (ob := Lk.obL) (M := 9000) (loose := Lk.nms) (d := HandSHeadRun.topDef (OpenLaw.row PySem.Challenge.rw_lostdesk_k18_whole_pairs_and_groups).prog 81) (kwd := []) Lk.obL_eq
    (by kernel_rfl) (fun s => by kernel_rfl) Lk.headRun (by kernel_rfl) (by kernel_rfl) (by kernel_rfl) (by rfl) (by first | assumption | decide +kernel) (by decide +kernel) ⟨rfl, rfl, rfl, rfl, rfl, by decide +kernel⟩ ?hw ?hc
  case hw => w_witness2
  case hc =>
    refine Lk.walk_L (l := PySem.Challenge.rw_lostdesk_k18_whole_pairs_and_groups) (n := 63) (k := 25) (x := "_law_script") rfl (by decide) (by kernel_rfl) ⟨rfl, by decide, by decide⟩ ?F
    intro w mg fa h Y G hmg0
    obtain ⟨K, KX, c⟩ := Y
    have hmg : mg ("law" : PySem.Str) = some (.ref fa) := by
      have e : (HandSHeadRun.topDef (OpenLaw.row PySem.Challenge.rw_lostdesk_k18_whole_pairs_and_groups).prog 81).name = ("law" : PySem.Str) := by kernel_rfl
      rw [← e]
      exact hmg0
    obtain ⟨fd, hb, hF⟩ := Lk.law_okL (P := (PySem.Challenge.rw_lostdesk_k18_whole_pairs_and_groups).prog) (w := w) KX G hmg c
    exact ⟨K, fd, _, KX, hb, fun H a ns hl hS => ⟨a, ns, rfl, hS, hl, fun _ => rfl⟩, hF⟩
