import PyProof.Rows.All
import Wide.All
import OpenK.AllK
import Wide.FinOn
import HandS.ForMost
import HandS.Codes
import HandS.Lambda
import HandS.EndTab
import HandS.IsInst
import HandS.Deep
import HandS.SortInts
import HandS.Wide
import HandS.Strs
import HandS.SetBool
import HandS.SetFor
import HandS.Walk
import HandS.CallLocal
import HandS.Replace
import HandS.Conv
import HandS.Defaults
import HandS.Flow
import HandS.Zip
import HandS.Small
import HandS.TupAny
import KE.GoesNew
import KE.GoesEnum
import KE.KDictZip
import PySem.Challenge.RW_roomstair_k12_whole_few_amounts_oppose
import KE.DataEq
set_option Elab.async false
set_option linter.all false
set_option maxRecDepth 100000
set_option linter.all false
namespace Tk
abbrev Row := List Nat
def xs {α : Type} (l : List α) (f : α → Bool) : Bool := l.foldr (fun a b => (f a).xor b) false
section
variable {α β : Type}
theorem xs_nil (f : α → Bool) : xs [] f = false := rfl
theorem xs_cons (a : α) (l : List α) (f : α → Bool) : xs (a :: l) f = (f a).xor (xs l f) := rfl
theorem xs_app (l m : List α) (f : α → Bool) : xs (l ++ m) f = (xs l f).xor (xs m f) := by
  induction l with
  | nil => simp [xs_nil]
  | cons a l ih => rw [List.cons_append, xs_cons, xs_cons, ih, Bool.xor_assoc]
theorem xs_congr {l : List α} {f g : α → Bool} (h : ∀ a ∈ l, f a = g a) : xs l f = xs l g := by
  induction l with
  | nil => rfl
  | cons a l ih => rw [xs_cons, xs_cons, h a (List.mem_cons_self ..), ih fun b hb => h b (List.mem_cons_of_mem _ hb)]
theorem xs_false (l : List α) : xs l (fun _ => false) = false := by
  induction l with
  | nil => rfl
  | cons a l ih => rw [xs_cons, ih]; rfl
theorem x4 (a b c d : Bool) : ((a.xor b).xor (c.xor d)) = ((a.xor c).xor (b.xor d)) := by
  cases a <;> cases b <;> cases c <;> cases d <;> rfl
theorem xs_xor (l : List α) (f g : α → Bool) : xs l (fun a => (f a).xor (g a)) = (xs l f).xor (xs l g) := by
  induction l with
  | nil => rfl
  | cons a l ih => rw [xs_cons, xs_cons, xs_cons, ih]; exact x4 _ _ _ _
theorem xs_swap (l : List α) (m : List β) (f : α → β → Bool) : xs l (fun a => xs m (fun b => f a b)) = xs m (fun b => xs l (fun a => f a b)) := by
  induction l with
  | nil => exact (xs_false m).symm
  | cons a l ih => 
    rw [xs_cons, ih]
    exact (xs_xor m (fun b => f a b) (fun b => xs l fun a => f a b)).symm
theorem xs_and (p : Bool) (l : List α) (f : α → Bool) : xs l (fun a => p && f a) = (p && xs l f) := by
  cases p
  · simpa using xs_false l
  · simp
theorem xs_ex {l : List α} {f : α → Bool} (h : xs l f = true) : ∃ a, a ∈ l ∧ f a = true := by
  induction l with
  | nil => cases h
  | cons a l ih =>
    cases e : f a with
    | true => exact ⟨a, List.mem_cons_self .., e⟩
    | false =>
      rw [xs_cons, e, Bool.false_xor] at h
      obtain ⟨b, h1, h2⟩ := ih h
      exact ⟨b, List.mem_cons_of_mem _ h1, h2⟩
theorem xs_symm (l : List α) (h : α → α → Bool) (hs : ∀ a b, h a b = h b a) (h0 : ∀ a, h a a = false) : xs l (fun a => xs l (fun b => h a b)) = false := by
  induction l with
  | nil => rfl
  | cons c l ih =>
    have e : xs l (fun a => xs (c :: l) (fun b => h a b)) = xs l (fun a => (h c a).xor (xs l (fun b => h a b))) := xs_congr fun a _ => by rw [xs_cons, hs a c]
    rw [xs_cons, xs_cons, e, xs_xor, ih, h0]
    cases xs l (fun a => h c a) <;> rfl
end

def both : List Nat := [43, 45]
theorem xs_both (f : Nat → Bool) : xs both f = (f 43).xor (f 45) := by simp [both, xs]
theorem xs_both_const (b : Bool) : xs both (fun _ => b) = false := by cases b <;> rfl
def av (X : Row) (r : Nat) : Bool := X[r]? == some 48

def G (al : Nat → List Nat) (d : Nat) : Nat → Row → (List Row → Bool) → Bool
  | 0, _, f => f []
  | k + 1, X, f => xs (List.range d) fun r => av X r && xs (al r) fun s => G al d k (X.set r s) fun C => f (X.set r s :: C)
def D {α : Type} (f : List α → Bool) : List α → Bool
  | [] => false
  | x :: t => (f t).xor (D (fun C => f (x :: C)) t)
theorem D_congr {α : Type} : ∀ (t : List α) {f g : List α → Bool}, (∀ u, f u = g u) → D f t = D g t
  | [], _, _, _ => rfl
  | x :: t, f, g, h => by
    show (f t).xor _ = (g t).xor _
    rw [h t, D_congr t (f := fun C => f (x :: C)) (g := fun C => g (x :: C)) fun u => h _]

theorem G_fun {al : Nat → List Nat} {d : Nat} : ∀ {k : Nat} {X : Row} {f g : List Row → Bool}, (∀ C, f C = g C) → G al d k X f = G al d k X g
  | 0, _, _, _, h => h []
  | k + 1, X, f, g, h => xs_congr fun r _ => by
      congr 1
      exact xs_congr fun s _ => G_fun fun C => h _
theorem G_xor {al : Nat → List Nat} {d : Nat} : ∀ (k : Nat) (X : Row) (f g : List Row → Bool), G al d k X (fun C => (f C).xor (g C)) = (G al d k X f).xor (G al d k X g)
  | 0, _, _, _ => rfl
  | k + 1, X, f, g => by
    show xs _ _ = (xs _ _).xor (xs _ _)
    rw [← xs_xor]
    refine xs_congr fun r _ => ?_
    rw [← Bool.and_xor_distrib_left, ← xs_xor]
    congr 1
    exact xs_congr fun s _ => G_xor k _ (fun C => f (X.set r s :: C)) (fun C => g (X.set r s :: C))

theorem av_set_ne {X : Row} {r r' s : Nat} (h : r ≠ r') : av (X.set r s) r' = av X r' := by
  unfold av; rw [List.getElem?_set_ne h]
theorem av_set_self {X : Row} {r s : Nat} (h : s ≠ 48) : av (X.set r s) r = false := by
  unfold av
  rw [List.getElem?_set]
  split
  · split
    · simp [h]
    · rfl
  · rename_i q; exact absurd rfl q
theorem av_of_set {X : Row} {r r' s : Nat} (h : s ≠ 48) (a : av (X.set r s) r' = true) : av X r' = true := by
  by_cases e : r = r'
  · subst e; rw [av_set_self h] at a; cases a
  · rwa [av_set_ne e] at a

/-- two steps in either order -/
theorem sy {al : Nat → List Nat} (h48 : ∀ r, ∀ s ∈ al r, s ≠ 48) (d k : Nat) (X : Row) (f : List Row → Bool) :
    xs (List.range d) (fun r => av X r && xs (al r) fun s => G al d (k + 1) (X.set r s) f) = false := by
  let K : Row → Bool := fun Y => G al d k Y fun C => f (Y :: C)
  let h : Nat → Nat → Bool := fun r r' => if r = r' then false else (av X r && (av X r' && xs (al r) fun s => xs (al r') fun s' => K ((X.set r s).set r' s')))
  have e : ∀ r, (av X r && xs (al r) fun s => G al d (k + 1) (X.set r s) f) = xs (List.range d) (h r) := fun r => by
    show (av X r && xs (al r) fun s => xs (List.range d) fun r' => av (X.set r s) r' && xs (al r') fun s' => K ((X.set r s).set r' s')) = _
    rw [xs_swap, ← xs_and]
    refine xs_congr fun r' _ => ?_
    show _ = if r = r' then false else _
    by_cases e : r = r'
    · rw [if_pos e]
      subst e
      have z : (xs (al r) fun s => av (X.set r s) r && xs (al r) fun s' => K ((X.set r s).set r s')) = xs (al r) fun _ => false := xs_congr fun s hs => by rw [av_set_self (h48 r s hs)]; rfl
      rw [z, xs_false, Bool.and_false]
    · rw [if_neg e]
      congr 1
      rw [← xs_and]
      exact xs_congr fun s hs => by rw [av_set_ne e]
  rw [xs_congr fun r _ => e r]
  refine xs_symm _ h (fun r r' => ?_) fun r => if_pos rfl
  show (if r = r' then false else _) = if r' = r then false else _
  by_cases e : r = r'
  · rw [if_pos e, if_pos e.symm]
  · rw [if_neg e, if_neg (Ne.symm e), ← Bool.and_assoc, ← Bool.and_assoc, Bool.and_comm (av X r)]
    congr 1
    rw [xs_swap]
    exact xs_congr fun s _ => xs_congr fun s' _ => by rw [List.set_comm _ _ e]

/-- all doors of all chains, one by one -/
theorem G_D {al : Nat → List Nat} (d k : Nat) (X : Row) (f : List Row → Bool) : G al d (k + 1) X (D f) =
    (xs (List.range d) fun r => av X r && xs (al r) fun s => G al d k (X.set r s) f).xor (xs (List.range d) fun r => av X r && xs (al r) fun s => G al d k (X.set r s) (D fun C => f (X.set r s :: C))) := by
  rw [← xs_xor]
  refine xs_congr fun r _ => ?_
  rw [← Bool.and_xor_distrib_left, ← xs_xor]
  congr 1
  exact xs_congr fun s _ => G_xor k _ f _
theorem claimA {al : Nat → List Nat} (h48 : ∀ r, ∀ s ∈ al r, s ≠ 48) (d : Nat) : ∀ (k : Nat) (X : Row) (f : List Row → Bool), (∀ r, r < d → av X r = true → al r = both) → G al d (k + 1) X (D f) = false
  | 0, X, f, h => by
    rw [G_D]
    have z : ∀ g : Nat → Nat → List Row → Bool, (xs (List.range d) fun r => av X r && xs (al r) fun s => G al d 0 (X.set r s) f) = false := fun _ => by
      refine (xs_congr (g := fun _ => false) fun r hr => ?_).trans (xs_false _)
      cases e : av X r with
      | false => rfl
      | true =>
        rw [h r (List.mem_range.mp hr) e]
        exact xs_both_const (f [])
    rw [z fun _ _ _ => false]
    refine (Bool.false_xor _).trans ((xs_congr (g := fun _ => false) fun r hr => ?_).trans (xs_false _))
    have : (xs (al r) fun s => G al d 0 (X.set r s) (D fun C => f (X.set r s :: C))) = xs (al r) fun _ => false := rfl
    rw [this, xs_false, Bool.and_false]
  | k + 1, X, f, h => by
    rw [G_D, sy h48]
    refine (Bool.false_xor _).trans ((xs_congr (g := fun _ => false) fun r hr => ?_).trans (xs_false _))
    have : (xs (al r) fun s => G al d (k + 1) (X.set r s) (D fun C => f (X.set r s :: C))) = xs (al r) fun _ => false := xs_congr fun s hs => claimA h48 d k _ _ fun r' hr' ha => h r' hr' (av_of_set (h48 r s hs) ha)
    rw [this, xs_false, Bool.and_false]
theorem claimB {al : Nat → List Nat} (h48 : ∀ r, ∀ s ∈ al r, s ≠ 48) (d p : Nat) (hp : al d = [p]) (hb : ∀ r, r < d → al r = both) : ∀ (k : Nat) (X : Row) (f : List Row → Bool), av X d = true → G al (d + 1) (k + 1) X (D f) = G al d k X f
  | 0, X, f, h => by
    rw [G_D]
    have z : (xs (List.range (d + 1)) fun r => av X r && xs (al r) fun s => G al (d + 1) 0 (X.set r s) (D fun C => f (X.set r s :: C))) = false := by
      refine (xs_congr (g := fun _ => false) fun r hr => ?_).trans (xs_false _)
      have : (xs (al r) fun s => G al (d + 1) 0 (X.set r s) (D fun C => f (X.set r s :: C))) = xs (al r) fun _ => false := rfl
      rw [this, xs_false, Bool.and_false]
    rw [z, Bool.xor_false, List.range_succ, xs_app, xs_cons, xs_nil, h, hp]
    have y : (xs (List.range d) fun r => av X r && xs (al r) fun s => G al (d + 1) 0 (X.set r s) f) = false := by
      refine (xs_congr (g := fun _ => false) fun r hr => ?_).trans (xs_false _)
      rw [hb r (List.mem_range.mp hr)]
      have : (xs both fun s => G al (d + 1) 0 (X.set r s) f) = xs both fun _ => f [] := rfl
      rw [this, xs_both_const, Bool.and_false]
    rw [y]
    show (false.xor ((true && ((f []).xor false)).xor false)) = f []
    cases f [] <;> rfl
  | k + 1, X, f, h => by
    have h2 : p ≠ 48 := h48 d p (by rw [hp]; exact List.mem_cons_self ..)
    rw [G_D, sy h48, Bool.false_xor, List.range_succ, xs_app, xs_cons, xs_nil, hp, xs_cons, xs_nil]
    rw [claimA h48 (d + 1) k (X.set d p) _ fun r hr ha => by
      by_cases e : d = r
      · subst e; rw [av_set_self h2] at ha; cases ha
      · exact hb r (by omega)]
    simp only [Bool.xor_false, Bool.and_false]
    refine xs_congr fun r hr => ?_
    congr 1
    refine xs_congr fun s hs => claimB h48 d p hp hb k _ _ ?_
    have := List.mem_range.mp hr
    rw [av_set_ne (by omega)]
    exact h

/-- what the allowed signs of free places alone decide -/
theorem G_al {al al' : Nat → List Nat} {d : Nat} (h48 : ∀ r, ∀ s ∈ al' r, s ≠ 48) : ∀ (k : Nat) (X : Row) (f : List Row → Bool), (∀ r, r < d → av X r = true → al r = al' r) → G al d k X f = G al' d k X f
  | 0, _, _, _ => rfl
  | k + 1, X, f, h => xs_congr fun r hr => by
    cases e : av X r with
    | false => rfl
    | true =>
      rw [h r (List.mem_range.mp hr) e]
      congr 1
      exact xs_congr fun s hs => G_al h48 k _ _ fun r' hr' ha => h r' hr' (av_of_set (h48 r s hs) ha)

def cnt (X : Row) : Nat → Nat
  | 0 => 0
  | d + 1 => cnt X d + (if av X d then 1 else 0)
theorem cnt_ge {X : Row} {r s : Nat} : ∀ {d : Nat}, d ≤ r → cnt (X.set r s) d = cnt X d
  | 0, _ => rfl
  | d + 1, h => by
    show cnt _ d + _ = cnt _ d + _
    rw [cnt_ge (d := d) (by omega), av_set_ne (by omega)]
theorem cnt_lt {X : Row} {r s : Nat} (h48 : s ≠ 48) (ha : av X r = true) : ∀ {d : Nat}, r < d → cnt (X.set r s) d + 1 = cnt X d
  | 0, h => by omega
  | d + 1, h => by
    show cnt _ d + _ + 1 = cnt _ d + _
    by_cases e : r = d
    · subst e
      rw [cnt_ge (Nat.le_refl _), av_set_self h48, ha]
      simp
    · have := cnt_lt h48 ha (d := d) (by omega)
      rw [av_set_ne e]
      omega
def sgb : Nat → List Nat := fun _ => both
def hal (d p : Nat) : Nat → List Nat := fun r => if r = d then [p] else both
theorem sgb48 : ∀ r, ∀ s ∈ sgb r, s ≠ 48 := fun r s h => by
  simp [sgb, both] at h; omega
theorem hal48 {d p : Nat} (hp : p ≠ 48) : ∀ r, ∀ s ∈ hal d p r, s ≠ 48 := fun r s h => by
  unfold hal at h
  split at h
  · simp at h; omega
  · exact sgb48 r s h
theorem split_half (d : Nat) : ∀ (k : Nat) (X : Row) (f : List Row → Bool), av X d = true → cnt X (d + 1) = k →
    G sgb (d + 1) k X f = (G (hal d 43) (d + 1) k X f).xor (G (hal d 45) (d + 1) k X f)
  | 0, X, f, h, hc => by
    have : cnt X d + (if av X d then 1 else 0) = 0 := hc
    rw [h] at this
    simp at this
  | k + 1, X, f, h, hc => by
    show xs _ _ = (xs _ _).xor (xs _ _)
    rw [List.range_succ, xs_app, xs_app, xs_app, xs_cons, xs_cons, xs_cons, xs_nil, xs_nil, xs_nil]
    have e1 : ∀ p, p ≠ 48 → (av X d && xs (hal d p d) fun s => G (hal d p) (d + 1) k (X.set d s) fun C => f (X.set d s :: C)) = G sgb (d + 1) k (X.set d p) fun C => f (X.set d p :: C) := fun p hp => by
      have : hal d p d = [p] := if_pos rfl
      rw [this, h, xs_cons, xs_nil]
      simp only [Bool.true_and, Bool.xor_false]
      refine G_al sgb48 k _ _ fun r hr ha => ?_
      by_cases e : r = d
      · subst e; rw [av_set_self hp] at ha; cases ha
      · exact if_neg e
    rw [e1 43 (by decide), e1 45 (by decide), h]
    simp only [Bool.true_and, Bool.xor_false]
    have e2 : ∀ p, (xs (List.range d) fun r => av X r && xs (hal d p r) fun s => G (hal d p) (d + 1) k (X.set r s) fun C => f (X.set r s :: C)) = xs (List.range d) fun r => av X r && xs both fun s => G (hal d p) (d + 1) k (X.set r s) fun C => f (X.set r s :: C) := fun p => xs_congr fun r hr => by
      have := List.mem_range.mp hr
      rw [show hal d p r = both from if_neg (by omega)]
    rw [e2, e2]
    have e3 : (xs (List.range d) fun r => av X r && xs (sgb r) fun s => G sgb (d + 1) k (X.set r s) fun C => f (X.set r s :: C)) =
      (xs (List.range d) fun r => av X r && xs both fun s => G (hal d 43) (d + 1) k (X.set r s) fun C => f (X.set r s :: C)).xor (xs (List.range d) fun r => av X r && xs both fun s => G (hal d 45) (d + 1) k (X.set r s) fun C => f (X.set r s :: C)) := by
      rw [← xs_xor]
      refine xs_congr fun r hr => ?_
      have hr := List.mem_range.mp hr
      cases ha : av X r with
      | false => rfl
      | true =>
        simp only [Bool.true_and]
        rw [← xs_xor]
        refine xs_congr fun s hs => ?_
        have hs48 := sgb48 r s hs
        refine split_half d k _ _ (by rw [av_set_ne (by omega)]; exact h) ?_
        have := cnt_lt hs48 ha (d := d + 1) (by omega)
        omega
    rw [e3, show (xs (sgb d) fun s => G sgb (d + 1) k (X.set d s) fun C => f (X.set d s :: C)) = (G sgb (d + 1) k (X.set d 43) fun C => f (X.set d 43 :: C)).xor (G sgb (d + 1) k (X.set d 45) fun C => f (X.set d 45 :: C)) from xs_both _]
    exact x4 _ _ _ _

/-- the opposite row -/
def tn (s : Nat) : Nat := if s = 43 then 45 else if s = 45 then 43 else s
theorem tn_tn (s : Nat) : tn (tn s) = s := by
  unfold tn; split
  · rename_i h; simp [h]
  · split
    · rename_i h; simp [h]
    · rename_i h1 h2; simp [h1, h2]
theorem tn48 {s : Nat} : tn s = 48 ↔ s = 48 := by
  unfold tn; split
  · omega
  · split <;> omega
def neg (X : Row) : Row := X.map tn
theorem av_neg (X : Row) (r : Nat) : av (neg X) r = av X r := by
  unfold av neg
  rw [List.getElem?_map]
  cases X[r]? with
  | none => rfl
  | some s =>
    show (some (tn s) == some 48) = (some s == some 48)
    by_cases h : s = 48
    · subst h; rfl
    · have h2 : tn s ≠ 48 := fun q => h (tn48.mp q)
      rw [beq_eq_false_iff_ne.mpr fun q => h2 (Option.some.inj q), beq_eq_false_iff_ne.mpr fun q => h (Option.some.inj q)]
theorem G_neg {al al' : Nat → List Nat} {d : Nat} (h : ∀ r, ∀ f : Nat → Bool, xs (al' r) f = xs (al r) fun s => f (tn s)) : ∀ (k : Nat) (X : Row) (f : List Row → Bool), G al' d k (neg X) f = G al d k X fun C => f (C.map neg)
  | 0, _, _ => rfl
  | k + 1, X, f => by
    refine xs_congr fun r hr => ?_
    rw [av_neg, h]
    congr 1
    refine xs_congr fun s hs => ?_
    have e : (neg X).set r (tn s) = neg (X.set r s) := by unfold neg; rw [List.map_set]
    rw [e, G_neg h k]
    exact G_fun fun C => rfl
theorem half_neg (d k : Nat) (X : Row) (f : List Row → Bool) : G (hal d 45) (d + 1) k (neg X) f = G (hal d 43) (d + 1) k X fun C => f (C.map neg) := by
  refine G_neg (fun r g => ?_) k X f
  unfold hal
  split
  · rfl
  · rw [xs_both, xs_both, Bool.xor_comm]; rfl

/-! chains -/
def Ab (X Y : Row) : Prop := X ≠ Y ∧ X.length = Y.length ∧ ∀ i : Nat, X[i]? = some 48 ∨ X[i]? = Y[i]?
def Vd (n : Nat) (X : Row) : Prop := X.length = n ∧ ∀ c ∈ X, c = 43 ∨ c = 45 ∨ c = 48
theorem Ab.trans {X Y Z : Row} (a : Ab X Y) (b : Ab Y Z) : Ab X Z := by
  obtain ⟨a1, a2, a3⟩ := a
  obtain ⟨b1, b2, b3⟩ := b
  refine ⟨fun e => ?_, a2.trans b2, fun i => ?_⟩
  · subst e
    apply a1
    refine List.ext_getElem? fun i => ?_
    rcases a3 i with q | q
    · rcases b3 i with z | z
      · rw [q, z]
      · exact z.symm
    · exact q
  · rcases a3 i with q | q
    · exact .inl q
    · rcases b3 i with z | z
      · exact .inl (q.trans z)
      · exact .inr (q.trans z)
theorem ab_set {X : Row} {r s : Nat} (ha : av X r = true) (h : s ≠ 48) : Ab X (X.set r s) := by
  have e : X[r]? = some 48 := by simpa [av] using ha
  have hr : r < X.length := (List.getElem?_eq_some_iff.mp e).1
  refine ⟨fun q => ?_, (List.length_set ..).symm, fun i => ?_⟩
  · have z := congrArg (·[r]?) q
    simp only [List.getElem?_set_self hr] at z
    rw [e] at z
    exact h (Option.some.inj z).symm
  · by_cases hi : r = i
    · subst hi; exact .inl e
    · exact .inr (List.getElem?_set_ne hi).symm
theorem vd_set {n : Nat} {X : Row} {r s : Nat} (v : Vd n X) (h : s = 43 ∨ s = 45) : Vd n (X.set r s) := by
  refine ⟨(List.length_set ..).trans v.1, fun c hc => ?_⟩
  rcases List.mem_or_eq_of_mem_set hc with q | q
  · exact v.2 c q
  · omega
/-- a chain above X -/
def Ch (n : Nat) (X : Row) (C : List Row) : Prop := (∀ Y ∈ C, Ab X Y ∧ Vd n Y) ∧ C.Pairwise Ab
theorem ch_cons {n : Nat} {X Y : Row} {C : List Row} (a : Ab X Y) (v : Vd n Y) (c : Ch n Y C) : Ch n X (Y :: C) := by
  refine ⟨fun Z hZ => ?_, List.pairwise_cons.mpr ⟨fun Z hZ => (c.1 Z hZ).1, c.2⟩⟩
  rcases List.mem_cons.mp hZ with e | e
  · subst e; exact ⟨a, v⟩
  · exact ⟨a.trans (c.1 Z e).1, (c.1 Z e).2⟩
def pm (al : Nat → List Nat) : Prop := ∀ r, ∀ s ∈ al r, s = 43 ∨ s = 45
theorem G_ch {n : Nat} {al : Nat → List Nat} {d : Nat} (hal : pm al) : ∀ (k : Nat) (X : Row) (f g : List Row → Bool), Vd n X → (∀ C, Ch n X C → f C = g C) → G al d k X f = G al d k X g
  | 0, X, f, g, _, h => h [] ⟨fun _ z => (nomatch z), List.Pairwise.nil⟩
  | k + 1, X, f, g, v, h => xs_congr fun r hr => by
    cases e : av X r with
    | false => rfl
    | true =>
      congr 1
      refine xs_congr fun s hs => ?_
      have hs := hal r s hs
      exact G_ch hal k _ _ _ (vd_set v hs) fun C c => h _ (ch_cons (ab_set e (by omega)) (vd_set v hs) c)
theorem G_ex {n : Nat} {al : Nat → List Nat} {d : Nat} (hal : pm al) : ∀ (k : Nat) (X : Row) (f : List Row → Bool), Vd n X → G al d k X f = true → ∃ C, Ch n X C ∧ C.length = k ∧ f C = true
  | 0, X, f, _, h => ⟨[], ⟨fun _ z => (nomatch z), List.Pairwise.nil⟩, rfl, h⟩
  | k + 1, X, f, v, h => by
    obtain ⟨r, _, h1⟩ := xs_ex h
    rw [Bool.and_eq_true] at h1
    obtain ⟨s, hs, h2⟩ := xs_ex h1.2
    have hs := hal r s hs
    obtain ⟨C, c, e, q⟩ := G_ex hal k _ _ (vd_set v hs) h2
    exact ⟨_, ch_cons (ab_set h1.1 (by omega)) (vd_set v hs) c, by rw [List.length_cons, e], q⟩

/-! by turns -/
def alt : Bool → List Bool → Bool
  | _, [] => true
  | b, x :: t => (x == b) && alt (!b) t
theorem alt_D : ∀ (t : List Bool) (b : Bool), D (alt b) t = (alt b t).xor (alt (!b) t)
  | [], b => rfl
  | x :: t, b => by
    have e : D (fun C => alt b (x :: C)) t = ((x == b) && D (alt (!b)) t) := by
      cases h : x == b with
      | true => 
        rw [Bool.true_and]
        exact D_congr t fun u => by show ((x == b) && _) = _; rw [h]; rfl
      | false =>
        rw [D_congr t (g := fun _ => false) fun u => by show ((x == b) && _) = _; rw [h]; rfl]
        have z : ∀ t : List Bool, D (fun _ => false) t = false := fun t => by
          induction t with
          | nil => rfl
          | cons a t ih => show (false.xor (D (fun _ => false) t)) = false; rw [ih]; rfl
        rw [z]; rfl
    show (alt b t).xor (D (fun C => alt b (x :: C)) t) = (((x == b) && alt (!b) t)).xor ((x == !b) && alt (!(!b)) t)
    rw [e, alt_D t (!b), Bool.not_not]
    have z : ∀ p q r : Bool, ((p.xor (r && (q.xor p))) = ((r && q).xor (((!r)) && p))) := by decide
    rw [z, show (x == !b) = !(x == b) by cases x <;> cases b <;> rfl]

/-! the order by amount -/
def le (x y : Int) : Bool := decide (x.natAbs < y.natAbs) || (decide (x.natAbs = y.natAbs) && decide (x ≤ y))
theorem le_iff {x y : Int} : le x y = true ↔ x.natAbs < y.natAbs ∨ (x.natAbs = y.natAbs ∧ x ≤ y) := by simp [le]
theorem le_trans (x y z : Int) (a : le x y = true) (b : le y z = true) : le x z = true := by
  rw [le_iff] at *; omega
theorem le_total (x y : Int) : (le x y || le y x) = true := by
  rw [Bool.or_eq_true, le_iff, le_iff]; omega
theorem le_anti {x y : Int} (a : le x y = true) (b : le y x = true) : x = y := by
  rw [le_iff] at *; omega
def srt (L : List Int) : List Int := L.mergeSort le
theorem srt_perm (L : List Int) : (srt L).Perm L := List.mergeSort_perm L le
theorem srt_sorted (L : List Int) : (srt L).Pairwise fun a b => le a b = true := List.pairwise_mergeSort le_trans le_total L
theorem sorted_eq : ∀ {L M : List Int}, L.Perm M → L.Pairwise (fun a b => le a b = true) → M.Pairwise (fun a b => le a b = true) → L = M
  | [], M, p, _, _ => (List.nil_perm.mp p).symm
  | a :: L, [], p, _, _ => (nomatch List.perm_nil.mp p)
  | a :: L, b :: M, p, s, t => by
    have s' := List.pairwise_cons.mp s
    have t' := List.pairwise_cons.mp t
    have e : a = b := by
      have ha : a ∈ b :: M := p.mem_iff.mp (List.mem_cons_self ..)
      have hb : b ∈ a :: L := p.mem_iff.mpr (List.mem_cons_self ..)
      rcases List.mem_cons.mp ha with q | q
      · exact q
      · rcases List.mem_cons.mp hb with z | z
        · exact z.symm
        · exact le_anti (s'.1 b z) (t'.1 a q)
    subst e
    rw [sorted_eq (List.perm_cons a |>.mp p) s'.2 t'.2]
theorem srt_eq {L M : List Int} (p : L.Perm M) : srt L = srt M := sorted_eq ((srt_perm L).trans (p.trans (srt_perm M).symm)) (srt_sorted L) (srt_sorted M)
theorem srt_self {L : List Int} (s : L.Pairwise fun a b => le a b = true) : srt L = L := sorted_eq (srt_perm L) (srt_sorted L) s

theorem D_perm {α : Type} {L M : List α} (p : L.Perm M) : ∀ {f : List α → Bool}, (∀ A B : List α, A.Perm B → f A = f B) → D f L = D f M := by
  induction p with
  | nil => intro f _; rfl
  | cons x q ih =>
    intro f h
    show (f _).xor _ = (f _).xor _
    rw [h _ _ q, ih (f := fun C => f (x :: C)) fun A B z => h _ _ (z.cons x)]
  | swap x y t =>
    intro f h
    show (f (x :: t)).xor ((f (y :: t)).xor (D (fun C => f (y :: x :: C)) t)) = (f (y :: t)).xor ((f (x :: t)).xor (D (fun C => f (x :: y :: C)) t))
    rw [D_congr t (g := fun C => f (x :: y :: C)) fun u => h _ _ (List.Perm.swap x y u), ← Bool.xor_assoc, ← Bool.xor_assoc, Bool.xor_comm (f (x :: t))]
  | trans _ _ ih1 ih2 => intro f h; exact (ih1 h).trans (ih2 h)
theorem D_sub {α : Type} : ∀ (t : List α) {f g : List α → Bool}, (∀ u, List.Sublist u t → f u = g u) → D f t = D g t
  | [], _, _, _ => rfl
  | x :: t, f, g, h => by
    show (f t).xor _ = (g t).xor _
    rw [h t (List.sublist_cons_self ..), D_sub t (f := fun C => f (x :: C)) (g := fun C => g (x :: C)) fun u hu => h _ (hu.cons_cons x)]
theorem D_map {α β : Type} (m : α → β) : ∀ (t : List α) (f : List β → Bool), D (fun C => f (C.map m)) t = D f (t.map m)
  | [], _ => rfl
  | x :: t, f => by
    show (f _).xor _ = (f _).xor _
    rw [← D_map m t fun C => f (m x :: C)]
    rfl
def sg (x : Int) : Bool := decide (0 < x)
/-- labels go by turns -/
def F (b : Bool) (L : List Int) : Bool := alt b ((srt L).map sg)
theorem F_perm (b : Bool) (A B : List Int) (p : A.Perm B) : F b A = F b B := by unfold F; rw [srt_eq p]
theorem F_D (b : Bool) (L : List Int) : D (F b) L = (F b L).xor (F (!b) L) := by
  rw [D_perm (srt_perm L).symm (F_perm b)]
  have e : D (F b) (srt L) = D (fun C => alt b (C.map sg)) (srt L) := D_sub _ fun u hu => by
    unfold F
    rw [srt_self ((srt_sorted L).sublist hu)]
  rw [e, D_map, alt_D]
  rfl
/-- no two opposite -/
def NoOpp (L : List Int) : Prop := ∀ x ∈ L, ∀ y ∈ L, x ≠ -y
theorem F_neg {b : Bool} {L : List Int} (h : NoOpp L) : F b (L.map Int.neg) = F (!b) L := by
  have e : srt (L.map Int.neg) = (srt L).map Int.neg := by
    refine sorted_eq ((srt_perm _).trans ((srt_perm L).symm.map _)) (srt_sorted _) ?_
    rw [List.pairwise_map]
    have m : ∀ x ∈ srt L, x ∈ L := fun x hx => (srt_perm L).mem_iff.mp hx
    refine List.Pairwise.imp_of_mem (fun {a c} ha hc q => ?_) (srt_sorted L)
    rw [le_iff] at q ⊢
    have := h a (m a ha) c (m c hc)
    show (-a).natAbs < (-c).natAbs ∨ (-a).natAbs = (-c).natAbs ∧ -a ≤ -c
    omega
  unfold F
  rw [e, List.map_map]
  have z : ∀ (t : List Int) (b : Bool), (∀ x ∈ t, x ≠ 0) → alt b (t.map (sg ∘ Int.neg)) = alt (!b) (t.map sg) := by
    intro t
    induction t with
    | nil => intro b _; rfl
    | cons x t ih =>
      intro b h
      have hx := h x (List.mem_cons_self ..)
      show ((sg (-x)) == b && alt (!b) _) = (sg x == !b && alt (!(!b)) _)
      rw [ih (!b) fun y hy => h y (List.mem_cons_of_mem _ hy)]
      congr 1
      unfold sg
      by_cases p : 0 < x
      · rw [decide_eq_true p, decide_eq_false (by omega)]
        cases b <;> rfl
      · rw [decide_eq_false p, decide_eq_true (by omega)]
        cases b <;> rfl
  refine z _ b fun x hx q => ?_
  have := (srt_perm L).mem_iff.mp hx
  exact h x this x this (by omega)

/-- by turns, the amounts are unlike -/
theorem alt_amounts : ∀ (M : List Int) (b : Bool), M.Pairwise (fun a c => le a c = true) → NoOpp M → alt b (M.map sg) = true → M.Pairwise fun a c => a.natAbs < c.natAbs
  | [], _, _, _, _ => List.Pairwise.nil
  | [x], _, _, _, _ => List.pairwise_singleton ..
  | x :: y :: t, b, s, n, h => by
    have s' := List.pairwise_cons.mp s
    have s2 := List.pairwise_cons.mp s'.2
    have h1 : (sg x == b && alt (!b) ((y :: t).map sg)) = true := h
    rw [Bool.and_eq_true] at h1
    have h2 : (sg y == !b && alt (!(!b)) (t.map sg)) = true := h1.2
    rw [Bool.and_eq_true] at h2
    have ih := alt_amounts (y :: t) (!b) s'.2 (fun a ha c hc => n a (List.mem_cons_of_mem _ ha) c (List.mem_cons_of_mem _ hc)) h1.2
    have xy : x.natAbs < y.natAbs := by
      have q := le_iff.mp (s'.1 y (List.mem_cons_self ..))
      rcases q with q | ⟨q, _⟩
      · exact q
      · have o := n x (List.mem_cons_self ..) y (List.mem_cons_of_mem _ (List.mem_cons_self ..))
        have e : x = y := by omega
        subst e
        have a1 := h1.1
        have a2 := h2.1
        have e1 : sg x = b := by simpa using a1
        rw [e1] at a2
        cases b <;> cases a2
    refine List.pairwise_cons.mpr ⟨fun c hc => ?_, ih⟩
    rcases List.mem_cons.mp hc with e | e
    · subst e; exact xy
    · exact Nat.lt_trans xy ((List.pairwise_cons.mp ih).1 c e)

/-- as many unlike things stand in a list as it is long at most -/
theorem len_le {M A : List Nat} (h : M.Pairwise fun a c => a < c) (s : ∀ x ∈ M, x ∈ A) : M.length ≤ A.length := by
  induction M generalizing A with
  | nil => exact Nat.zero_le _
  | cons x M ih =>
    have h' := List.pairwise_cons.mp h
    have hx := s x (List.mem_cons_self ..)
    have := ih (A := A.erase x) h'.2 fun y hy => (List.mem_erase_of_ne (Nat.ne_of_gt (h'.1 y hy))).mpr (s y (List.mem_cons_of_mem _ hy))
    have e := List.length_erase_of_mem hx
    have p : 0 < A.length := List.length_pos_of_mem hx
    rw [List.length_cons]
    omega

/-! the law -/
section
variable {n : Nat} {lam : Row → Int} 
def Rw (n : Nat) (X : Row) : Prop := Vd n X ∧ X ≠ List.replicate n 48
theorem neg_len (X : Row) : (neg X).length = X.length := List.length_map ..
theorem cnt_zero (n : Nat) : ∀ d, d ≤ n → cnt (List.replicate n 48) d = d
  | 0, _ => rfl
  | d + 1, h => by
    show cnt _ d + _ = d + 1
    have : av (List.replicate n 48) d = true := by
      unfold av
      rw [List.getElem?_replicate, if_pos (by omega)]
      rfl
    rw [cnt_zero n d (by omega), this]
    rfl
theorem fan (h0 : ∀ X, Rw n X → lam X ≠ 0) (hn : ∀ X, Rw n X → lam (neg X) = -lam X) (no : ∀ X Y, Rw n X → Rw n Y → Ab X Y → lam X ≠ -lam Y) :
    ∀ d, d ≤ n → G sgb d d (List.replicate n 48) (fun C => F true (C.map lam)) = true
  | 0, _ => by
    show F true [] = true
    simp [F, srt, alt]
  | d + 1, hd => by
    have vz : Vd n (List.replicate n 48) := ⟨List.length_replicate, fun c hc => .inr (.inr (List.mem_replicate.mp hc).2)⟩
    have az : av (List.replicate n 48) d = true := by
      unfold av
      rw [List.getElem?_replicate, if_pos (by omega)]
      rfl
    have nz : neg (List.replicate n 48) = List.replicate n 48 := by
      unfold neg
      rw [List.map_replicate]
      rfl
    have rw_of : ∀ {C : List Row}, Ch n (List.replicate n 48) C → ∀ Y ∈ C, Rw n Y := fun {C} c Y hY => ⟨(c.1 Y hY).2, fun e => (c.1 Y hY).1.1 e.symm⟩
    have nopp : ∀ {C : List Row}, Ch n (List.replicate n 48) C → NoOpp (C.map lam) := fun {C} c x hx y hy => by
      obtain ⟨X, hX, ex⟩ := List.mem_map.mp hx
      obtain ⟨Y, hY, ey⟩ := List.mem_map.mp hy
      subst ex
      subst ey
      have key : ∀ {C : List Row}, C.Pairwise Ab → X ∈ C → Y ∈ C → X = Y ∨ Ab X Y ∨ Ab Y X := fun {C} p => by
        induction C with
        | nil => intro a; cases a
        | cons Z C ih =>
          intro a b
          have p' := List.pairwise_cons.mp p
          rcases List.mem_cons.mp a with e | e
          · rcases List.mem_cons.mp b with e2 | e2
            · exact .inl (e.trans e2.symm)
            · subst e; exact .inr (.inl (p'.1 Y e2))
          · rcases List.mem_cons.mp b with e2 | e2
            · subst e2; exact .inr (.inr (p'.1 X e))
            · exact ih p'.2 e e2
      rcases key c.2 hX hY with e | e | e
      · subst e
        have := h0 X (rw_of c X hX)
        omega
      · exact no X Y (rw_of c X hX) (rw_of c Y hY) e
      · have := no Y X (rw_of c Y hY) (rw_of c X hX) e
        omega
    have pmh : pm (hal d 43) := fun r s h => by
      unfold hal at h
      split at h
      · simp at h; omega
      · simp [both] at h; omega
    have e1 := split_half d (d + 1) (List.replicate n 48) (fun C => F true (C.map lam)) az (cnt_zero n (d + 1) hd)
    have e2 := half_neg d (d + 1) (List.replicate n 48) (fun C => F true (C.map lam))
    rw [nz] at e2
    rw [e1, e2, ← G_xor]
    have e3 : G (hal d 43) (d + 1) (d + 1) (List.replicate n 48) (fun C => (F true (C.map lam)).xor (F true ((C.map neg).map lam))) = G (hal d 43) (d + 1) (d + 1) (List.replicate n 48) (D fun C => F true (C.map lam)) := by
      refine G_ch pmh _ _ _ _ vz fun C c => ?_
      have m : (C.map neg).map lam = (C.map lam).map Int.neg := by
        rw [List.map_map, List.map_map]
        exact List.map_congr_left fun Y hY => hn Y (rw_of c Y hY)
      rw [m, F_neg (nopp c), D_map lam C (F true), F_D]
    have hb : ∀ r, r < d → hal d 43 r = both := fun r hr => if_neg (by omega)
    rw [e3, claimB (hal48 (by decide)) d 43 (if_pos rfl) hb d _ _ az, G_al (al' := sgb) sgb48 d _ _ fun r hr _ => hb r hr]
    exact fan h0 hn no d (by omega)
theorem tucker {A : List Nat} (h0 : ∀ X, Rw n X → lam X ≠ 0) (hn : ∀ X, Rw n X → lam (neg X) = -lam X) (hA : ∀ X, Rw n X → (lam X).natAbs ∈ A) (few : A.length < n) :
    ∃ X Y, Rw n X ∧ Rw n Y ∧ Ab X Y ∧ lam X = -lam Y := by
  refine Classical.byContradiction fun no => ?_
  have no' : ∀ X Y, Rw n X → Rw n Y → Ab X Y → lam X ≠ -lam Y := fun X Y a b c d => no ⟨X, Y, a, b, c, d⟩
  have vz : Vd n (List.replicate n 48) := ⟨List.length_replicate, fun c hc => .inr (.inr (List.mem_replicate.mp hc).2)⟩
  obtain ⟨C, c, hl, hf⟩ := G_ex (fun r s h => by simp [sgb, both] at h; omega) n (List.replicate n 48) _ vz (fan h0 hn no' n (Nat.le_refl _))
  have rw_of : ∀ Y ∈ C, Rw n Y := fun Y hY => ⟨(c.1 Y hY).2, fun e => (c.1 Y hY).1.1 e.symm⟩
  have m : ∀ x ∈ srt (C.map lam), x ∈ C.map lam := fun x hx => (srt_perm _).mem_iff.mp hx
  have nopp : NoOpp (srt (C.map lam)) := fun x hx y hy => by
    obtain ⟨X, hX, ex⟩ := List.mem_map.mp (m x hx)
    obtain ⟨Y, hY, ey⟩ := List.mem_map.mp (m y hy)
    subst ex
    subst ey
    have key : ∀ {C : List Row}, C.Pairwise Ab → X ∈ C → Y ∈ C → X = Y ∨ Ab X Y ∨ Ab Y X := fun {C} p => by
      induction C with
      | nil => intro a; cases a
      | cons Z C ih =>
        intro a b
        have p' := List.pairwise_cons.mp p
        rcases List.mem_cons.mp a with e | e
        · rcases List.mem_cons.mp b with e2 | e2
          · exact .inl (e.trans e2.symm)
          · subst e; exact .inr (.inl (p'.1 Y e2))
        · rcases List.mem_cons.mp b with e2 | e2
          · subst e2; exact .inr (.inr (p'.1 X e))
          · exact ih p'.2 e e2
    rcases key c.2 hX hY with e | e | e
    · subst e
      have := h0 X (rw_of X hX)
      omega
    · exact no' X Y (rw_of X hX) (rw_of Y hY) e
    · have := no' Y X (rw_of Y hY) (rw_of X hX) e
      omega
  have am := alt_amounts _ true (srt_sorted (C.map lam)) nopp hf
  have q := len_le (M := (srt (C.map lam)).map Int.natAbs) (A := A) (List.pairwise_map.mpr am) fun x hx => by
    obtain ⟨y, hy, e⟩ := List.mem_map.mp hx
    obtain ⟨X, hX, ex⟩ := List.mem_map.mp (m y hy)
    subst e
    subst ex
    exact hA X (rw_of X hX)
  rw [List.length_map, (srt_perm _).length_eq, List.length_map, hl] at q
  omega
end
end Tk

set_option linter.all false
/-! the program's mirror over rows as lists of codes, and the law's mathematics -/
namespace Mi
open Tk
abbrev sg3 : List Nat := [43, 45, 48]
def spell (ws : List (List Nat)) : List Row := ws.foldl (fun found w => found.flatMap fun t => w.map fun s => t ++ [s]) [[]]
def zer (n : Nat) : Row := List.replicate n 48
def rowsL (n : Nat) : List Row := (spell (List.replicate n sg3)).filter fun r => r != zer n
def sgn (r : Row) : Row := r.filter fun s => s != 48
def bl (r : Row) : Bool := (sgn r).head? == some 43
def told (n : Nat) : List Row := (rowsL n).filter bl
/-- how many neighbours are unlike -/
def diffs : Row → Nat
  | a :: b :: t => (if a = b then 0 else 1) + diffs (b :: t)
  | _ => 0
def wav (r : Row) : Nat := 1 + diffs (sgn r)
def abv (r : Row) : List Row := (spell (r.map fun s => if s = 48 then sg3 else [s])).filter fun o => o != r
def lookL : List (Row × Int) → Row → Option Int
  | [], _ => none
  | (k, v) :: t, r => if k = r then some v else lookL t r
def kvs (n : Nat) (labs : List Int) : List (Row × Int) := (told n).zip labs
def lab (n : Nat) (labs : List Int) (r : Row) : Int := if bl r then (lookL (kvs n labs) r).getD 0 else -(lookL (kvs n labs) (neg r)).getD 0

/-! ### spelled -/
theorem spell_snoc (ws : List (List Nat)) (w : List Nat) : spell (ws ++ [w]) = (spell ws).flatMap fun t => w.map fun s => t ++ [s] := by
  unfold spell; rw [List.foldl_append]; rfl
theorem rev_ind {α : Type} {P : List α → Prop} (h0 : P []) (hs : ∀ (l : List α) (a : α), P l → P (l ++ [a])) (l : List α) : P l := by
  have key : ∀ m : List α, P m.reverse := fun m => by
    induction m with
    | nil => exact h0
    | cons a m ih => rw [List.reverse_cons]; exact hs _ _ ih
  have := key l.reverse
  rwa [List.reverse_reverse] at this
theorem mem_spell : ∀ (ws : List (List Nat)) (r : Row), r ∈ spell ws ↔ r.length = ws.length ∧ ∀ (i : Nat) (w : List Nat), ws[i]? = some w → ∃ s, r[i]? = some s ∧ s ∈ w := by
  intro ws
  refine rev_ind (P := fun ws => ∀ r : Row, r ∈ spell ws ↔ r.length = ws.length ∧ ∀ (i : Nat) (w : List Nat), ws[i]? = some w → ∃ s, r[i]? = some s ∧ s ∈ w) ?_ (fun ws w ih => ?_) ws
  · intro r
    constructor
    · intro h
      have : r = [] := by simpa [spell] using h
      subst this
      exact ⟨rfl, fun i w h => by simp at h⟩
    · rintro ⟨h, _⟩
      have : r = [] := List.length_eq_zero_iff.mp h
      subst this
      simp [spell]
  · intro r
    rw [spell_snoc, List.mem_flatMap]
    constructor
    · rintro ⟨t, ht, hr⟩
      obtain ⟨s, hs, e⟩ := List.mem_map.mp hr
      subst e
      obtain ⟨h1, h2⟩ := (ih t).mp ht
      refine ⟨by simp [h1], fun i v hv => ?_⟩
      by_cases hi : i < ws.length
      · rw [List.getElem?_append_left hi] at hv
        rw [List.getElem?_append_left (by omega)]
        exact h2 i v hv
      · have hi2 : i = ws.length := by
          have := (List.getElem?_eq_some_iff.mp hv).1
          simp at this
          omega
        subst hi2
        rw [List.getElem?_append_right (Nat.le_refl _)] at hv
        simp at hv
        subst hv
        exact ⟨s, by rw [List.getElem?_append_right (by omega)]; simp [h1], hs⟩
    · rintro ⟨h1, h2⟩
      have hne : r ≠ [] := fun e => by subst e; simp at h1
      obtain ⟨s, hs, hw⟩ := h2 ws.length w (by simp)
      have er : r = r.dropLast ++ [s] := by
        have hl : r.getLast hne = s := by
          rw [List.getLast_eq_getElem]
          have := (List.getElem?_eq_some_iff.mp hs).2
          have hl2 : r.length - 1 = ws.length := by simp at h1; omega
          simp only [hl2]
          exact this
        rw [← hl]
        exact (List.dropLast_concat_getLast hne).symm
      refine ⟨r.dropLast, (ih _).mpr ⟨by rw [List.length_dropLast, h1]; simp, fun i v hv => ?_⟩, ?_⟩
      · have hi := (List.getElem?_eq_some_iff.mp hv).1
        obtain ⟨x, hx, hm⟩ := h2 i v (by rw [List.getElem?_append_left hi]; exact hv)
        refine ⟨x, ?_, hm⟩
        rw [List.getElem?_dropLast, if_pos (by simp at h1; omega)]
        exact hx
      · exact List.mem_map.mpr ⟨s, hw, er.symm⟩
theorem mem_rows {n : Nat} {r : Row} : r ∈ rowsL n ↔ Rw n r := by
  unfold rowsL
  rw [List.mem_filter, mem_spell]
  constructor
  · rintro ⟨⟨h1, h2⟩, h3⟩
    rw [List.length_replicate] at h1
    refine ⟨⟨h1, fun c hc => ?_⟩, by simpa [zer] using h3⟩
    obtain ⟨i, hi, e⟩ := List.mem_iff_getElem.mp hc
    obtain ⟨s, hs, hm⟩ := h2 i sg3 (by rw [List.getElem?_replicate, if_pos (by omega)])
    rw [List.getElem?_eq_getElem hi, e] at hs
    cases hs
    simpa [sg3] using hm
  · rintro ⟨⟨h1, h2⟩, h3⟩
    refine ⟨⟨by rw [List.length_replicate]; exact h1, fun i w hw => ?_⟩, by simpa [zer] using h3⟩
    rw [List.getElem?_replicate] at hw
    split at hw
    · cases hw
      have hi : i < r.length := by omega
      refine ⟨r[i], List.getElem?_eq_getElem hi, ?_⟩
      have := h2 r[i] (List.getElem_mem hi)
      simpa [sg3] using this
    · cases hw
theorem mem_abv {n : Nat} {r o : Row} (hr : Vd n r) : o ∈ abv r ↔ Ab r o ∧ Vd n o := by
  unfold abv
  rw [List.mem_filter, mem_spell]
  constructor
  · rintro ⟨⟨h1, h2⟩, h3⟩
    rw [List.length_map] at h1
    have ne : o ≠ r := by simpa using h3
    have at_ : ∀ i : Nat, ∀ s, r[i]? = some s → ∃ x, o[i]? = some x ∧ x ∈ (if s = 48 then sg3 else [s]) := fun i s hs => h2 i _ (by rw [List.getElem?_map, hs]; rfl)
    refine ⟨⟨fun e => ne e.symm, h1.symm, fun i => ?_⟩, h1.trans hr.1, fun c hc => ?_⟩
    · cases e : r[i]? with
      | none =>
        right
        have := List.getElem?_eq_none_iff.mp e
        exact (List.getElem?_eq_none_iff.mpr (by omega)).symm
      | some s =>
        obtain ⟨x, hx, hm⟩ := at_ i s e
        by_cases h : s = 48
        · left; rw [h]
        · right
          rw [if_neg h] at hm
          rw [hx, List.mem_singleton.mp hm]
    · obtain ⟨i, hi, e⟩ := List.mem_iff_getElem.mp hc
      have hir : i < r.length := by omega
      obtain ⟨x, hx, hm⟩ := at_ i r[i] (List.getElem?_eq_getElem hir)
      rw [List.getElem?_eq_getElem hi, e] at hx
      cases hx
      split at hm
      · simpa [sg3] using hm
      · rw [List.mem_singleton.mp hm]
        exact hr.2 _ (List.getElem_mem hir)
  · rintro ⟨⟨h1, h2, h3⟩, h4, h5⟩
    refine ⟨⟨by rw [List.length_map]; exact h2.symm, fun i w hw => ?_⟩, by simpa using fun e : o = r => h1 e.symm⟩
    rw [List.getElem?_map] at hw
    cases e : r[i]? with
    | none => rw [e] at hw; cases hw
    | some s =>
      rw [e] at hw
      cases hw
      have hir := (List.getElem?_eq_some_iff.mp e).1
      have hio : i < o.length := by omega
      refine ⟨o[i], List.getElem?_eq_getElem hio, ?_⟩
      show o[i] ∈ (if s = 48 then sg3 else [s])
      by_cases h : s = 48
      · rw [if_pos h]
        have := h5 _ (List.getElem_mem hio)
        simpa [sg3] using this
      · rw [if_neg h]
        rcases h3 i with q | q
        · rw [e] at q
          exact absurd (Option.some.inj q) h
        · rw [e, List.getElem?_eq_getElem hio] at q
          rw [← Option.some.inj q]
          exact List.mem_singleton.mpr rfl
theorem Rw.of_ab {n : Nat} {r o : Row} (hr : Rw n r) (a : Ab r o) (v : Vd n o) : Rw n o := by
  refine ⟨v, fun e => ?_⟩
  subst e
  apply hr.2
  refine List.ext_getElem? fun i => ?_
  rcases a.2.2 i with q | q
  · rw [q, List.getElem?_replicate, if_pos]
    have := (List.getElem?_eq_some_iff.mp q).1
    have := hr.1.1
    omega
  · exact q

/-! ### signs -/
theorem sgn_neg (r : Row) : sgn (neg r) = (sgn r).map tn := by
  unfold sgn neg
  rw [List.filter_map]
  congr 1
  refine List.filter_congr fun s _ => ?_
  show (tn s != 48) = (s != 48)
  by_cases h : s = 48
  · subst h; rfl
  · have : tn s ≠ 48 := fun q => h (tn48.mp q)
    rw [bne_iff_ne.mpr this, bne_iff_ne.mpr h]
theorem neg_neg (r : Row) : neg (neg r) = r := by
  unfold neg
  rw [List.map_map]
  refine (List.map_congr_left fun s _ => ?_).trans (List.map_id r)
  exact tn_tn s
theorem sgn_ne {n : Nat} {r : Row} (h : Rw n r) : sgn r ≠ [] := fun e => by
  apply h.2
  unfold sgn at e
  rw [List.filter_eq_nil_iff] at e
  refine List.eq_replicate_iff.mpr ⟨h.1.1, fun b hb => ?_⟩
  have := e b hb
  simpa using this
theorem sgn_head {n : Nat} {r : Row} (h : Rw n r) : ∃ c t, sgn r = c :: t ∧ (c = 43 ∨ c = 45) := by
  cases e : sgn r with
  | nil => exact absurd e (sgn_ne h)
  | cons c t =>
    refine ⟨c, t, rfl, ?_⟩
    have hm : c ∈ sgn r := by rw [e]; exact List.mem_cons_self ..
    unfold sgn at hm
    rw [List.mem_filter] at hm
    have h1 := h.1.2 c hm.1
    have h2 : c ≠ 48 := by simpa using hm.2
    omega
theorem bl_neg {n : Nat} {r : Row} (h : Rw n r) : bl (neg r) = !bl r := by
  obtain ⟨c, t, e, hc⟩ := sgn_head h
  unfold bl
  rw [sgn_neg, e]
  rcases hc with q | q <;> subst q <;> rfl
theorem rw_neg {n : Nat} {r : Row} (h : Rw n r) : Rw n (neg r) := by
  refine ⟨⟨(neg_len r).trans h.1.1, fun c hc => ?_⟩, fun e => h.2 ?_⟩
  · unfold neg at hc
    obtain ⟨s, hs, q⟩ := List.mem_map.mp hc
    subst q
    have := h.1.2 s hs
    unfold tn
    rcases this with q | q | q <;> subst q <;> decide
  · have q := congrArg neg e
    rw [neg_neg] at q
    rw [q]
    unfold neg
    rw [List.map_replicate]
    rfl
theorem mem_told {n : Nat} {r : Row} : r ∈ told n ↔ Rw n r ∧ bl r = true := by
  unfold told
  rw [List.mem_filter, mem_rows]

/-! ### the labelling -/
theorem lookL_mem : ∀ {ks : List Row} {vs : List Int} {r : Row}, r ∈ ks → ks.length = vs.length → ∃ v, lookL (ks.zip vs) r = some v ∧ v ∈ vs
  | k :: ks, v :: vs, r, h, hl => by
    show ∃ x, (if k = r then some v else lookL (ks.zip vs) r) = some x ∧ x ∈ v :: vs
    by_cases e : k = r
    · exact ⟨v, if_pos e, List.mem_cons_self ..⟩
    · rw [if_neg e]
      rcases List.mem_cons.mp h with q | q
      · exact absurd q.symm e
      · obtain ⟨x, h1, h2⟩ := lookL_mem q (Nat.succ.inj hl)
        exact ⟨x, h1, List.mem_cons_of_mem _ h2⟩
  | k :: ks, [], r, h, hl => by simp at hl
theorem lookL_none : ∀ {ks : List Row} {vs : List Int} {r : Row}, r ∉ ks → lookL (ks.zip vs) r = none
  | [], _, _, _ => rfl
  | k :: ks, [], _, _ => rfl
  | k :: ks, v :: vs, r, h => by
    show (if k = r then some v else lookL (ks.zip vs) r) = none
    rw [if_neg fun e => h (by rw [e]; exact List.mem_cons_self ..)]
    exact lookL_none fun q => h (List.mem_cons_of_mem _ q)
theorem lab_told {n : Nat} {labs : List Int} {r : Row} (hl : (told n).length = labs.length) (hr : Rw n r) : (bl r = true ∧ ∃ v, lookL (kvs n labs) r = some v ∧ v ∈ labs ∧ lab n labs r = v) ∨
    (bl r = false ∧ ∃ v, lookL (kvs n labs) (neg r) = some v ∧ v ∈ labs ∧ lab n labs r = -v) := by
  cases e : bl r with
  | true =>
    obtain ⟨v, h1, h2⟩ := lookL_mem (mem_told.mpr ⟨hr, e⟩) hl
    refine .inl ⟨rfl, v, h1, h2, ?_⟩
    unfold lab
    rw [if_pos e]
    unfold kvs
    rw [h1]
    rfl
  | false =>
    have e2 : bl (neg r) = true := by rw [bl_neg hr, e]; rfl
    obtain ⟨v, h1, h2⟩ := lookL_mem (mem_told.mpr ⟨rw_neg hr, e2⟩) hl
    refine .inr ⟨rfl, v, h1, h2, ?_⟩
    unfold lab
    rw [if_neg (by rw [e]; exact Bool.false_ne_true)]
    unfold kvs
    rw [h1]
    rfl
theorem lab_neg {n : Nat} {labs : List Int} {r : Row} (hr : Rw n r) : lab n labs (neg r) = -lab n labs r := by
  unfold lab
  rw [bl_neg hr, neg_neg]
  cases bl r with
  | true => rfl
  | false =>
    show (lookL (kvs n labs) (neg r)).getD 0 = - -(lookL (kvs n labs) (neg r)).getD 0
    omega
/-- fewer amounts than places: some two rows are opposed -/
theorem few_oppose {n : Nat} {labs : List Int} {am : List Nat} (hl : (told n).length = labs.length) (h0 : ∀ v ∈ labs, v ≠ 0) (hA : ∀ v ∈ labs, v.natAbs ∈ am) (few : am.length < n) :
    ∃ r o, r ∈ rowsL n ∧ o ∈ abv r ∧ lab n labs o = -lab n labs r := by
  have k0 : ∀ X, Rw n X → lab n labs X ≠ 0 := fun X hX => by
    rcases lab_told hl hX with ⟨_, v, _, hv, e⟩ | ⟨_, v, _, hv, e⟩
    · rw [e]; exact h0 v hv
    · rw [e]; have := h0 v hv; omega
  have kA : ∀ X, Rw n X → (lab n labs X).natAbs ∈ am := fun X hX => by
    rcases lab_told hl hX with ⟨_, v, _, hv, e⟩ | ⟨_, v, _, hv, e⟩
    · rw [e]; exact hA v hv
    · rw [e, Int.natAbs_neg]; exact hA v hv
  obtain ⟨X, Y, hX, hY, a, e⟩ := tucker k0 (fun X hX => lab_neg hX) kA few
  exact ⟨X, Y, mem_rows.mpr hX, (mem_abv hX.1).mpr ⟨a, hY.1⟩, by omega⟩

/-! ### places 1 to 5, by looking -/
theorem told_len {n : Nat} (h : n ∈ [1, 2, 3, 4, 5]) : (told n).length ≤ 121 ∧ 0 < (told n).length := by
  revert n; decide +kernel
theorem told_nodup {n : Nat} (h : n ∈ [1, 2, 3, 4, 5]) : (told n).Nodup := by
  revert n; decide +kernel
theorem rows_len {n : Nat} (h : n ∈ [1, 2, 3, 4, 5]) : (rowsL n).length ≤ 242 := by
  revert n; decide +kernel
def wlab (r : Row) : Int := if bl r then wav r else -wav (neg r)
theorem wave_none {n : Nat} (h : n ∈ [1, 2, 3, 4, 5]) : ∀ r ∈ rowsL n, ∀ o ∈ abv r, wlab o ≠ -wlab r := by
  revert n; decide +kernel
theorem wave_amounts {n : Nat} (h : n ∈ [1, 2, 3, 4, 5]) : (∀ r ∈ told n, 1 ≤ wav r ∧ wav r ≤ n) ∧ ∀ k ∈ List.range n, ∃ r ∈ told n, wav r = k + 1 := by
  revert n; decide +kernel
theorem lookL_map {f : Row → Int} : ∀ {ks : List Row} {r : Row}, r ∈ ks → lookL (ks.zip (ks.map f)) r = some (f r)
  | k :: ks, r, h => by
    show (if k = r then some (f k) else lookL (ks.zip (ks.map f)) r) = some (f r)
    by_cases e : k = r
    · rw [if_pos e, e]
    · rw [if_neg e]
      rcases List.mem_cons.mp h with q | q
      · exact absurd q.symm e
      · exact lookL_map q
theorem wave_lab {n : Nat} {r : Row} (hr : Rw n r) : lab n ((told n).map fun r => (wav r : Int)) r = wlab r := by
  unfold lab wlab kvs
  cases e : bl r with
  | true =>
    rw [if_pos rfl, if_pos rfl, lookL_map (f := fun r => (wav r : Int)) (mem_told.mpr ⟨hr, e⟩), Option.getD_some]
  | false =>
    have e2 : bl (neg r) = true := by rw [bl_neg hr, e]; rfl
    rw [if_neg Bool.false_ne_true, if_neg Bool.false_ne_true, lookL_map (f := fun r => (wav r : Int)) (mem_told.mpr ⟨rw_neg hr, e2⟩), Option.getD_some]
theorem wave_table_none {n : Nat} (h : n ∈ [1, 2, 3, 4, 5]) : ∀ r ∈ rowsL n, ∀ o ∈ abv r, lab n ((told n).map fun r => (wav r : Int)) o ≠ -lab n ((told n).map fun r => (wav r : Int)) r := fun r hr o ho => by
  have hR := mem_rows.mp hr
  have hO := (mem_abv hR.1).mp ho
  rw [wave_lab hR, wave_lab (Rw.of_ab hR hO.1 hO.2)]
  exact wave_none h r hr o ho
end Mi
set_option Elab.async false
set_option linter.all false
set_option maxRecDepth 100000
set_option maxHeartbeats 2000000
/-! for a, b in zip(x, y) over two texts -/
namespace My
open PySem PySem.Spec PyProof.Rows L2
/-- two texts, sign by sign: a new pair each turn -/
def ItzS (x y : Str) : It :=
  ⟨fun i _ => i < min x.cps.size y.cps.size,
   fun i H v H' => ∃ (T : Addr) (a b : Nat), v = .ref T ∧ H T = none ∧ H' = upd H T (.tup [.str ⟨#[a]⟩, .str ⟨#[b]⟩]) ∧ x.cps[i]? = some a ∧ y.cps[i]? = some b,
   fun i _ => min x.cps.size y.cps.size ≤ i⟩
abbrev StS (x y : Str) (t u : Tok) (z TI TO i1 i2 : Addr) (i : Nat) (h : Heap) : Prop :=
  IsZip h z TI TO .none ∧ IsTupOf2 h TI (.ref i1) (.ref i2) ∧ (∃ a1 a2, IsTupOf2 h TO a1 a2) ∧ h.IsStrIter i1 (strIterType x) x t i ∧ h.IsStrIter i2 (strIterType y) y u i
theorem turn_zipS {P : Program} {w : World} {K : PySem.W.Frag} {elts : List Expr} {kk : Nat} {tpos : Pos} {x y : Str} {t u : Tok} {z TI TO i1 i2 : Addr} (S : ZipSep2 z TI TO i1 i2 [i1] [i2]) :
    Turn P w K (.Tuple elts kk tpos) (ItzS x y) [z, TI, TO, i1, i2] z (fun i h => i ≤ min x.cps.size y.cps.size ∧ StS x y t u z TI TO i1 i2 i h) where
  mem := List.mem_cons_self ..
  obj := fun i h st b hb => by
    obtain ⟨_, hz, hTI, ⟨a1, a2, hTO⟩, ⟨o1, h1, _, d1⟩, ⟨o2, h2, _, d2⟩⟩ := st
    simp only [List.mem_cons, List.not_mem_nil, or_false] at hb
    rcases hb with e | e | e | e | e
    · subst e; exact ⟨_, hz, fun v q => by cases q⟩
    · subst e; exact ⟨_, hTI, fun v q => by cases q⟩
    · subst e; exact ⟨_, hTO, fun v q => by cases q⟩
    · subst e; exact ⟨o1, h1, fun v q => by rw [d1] at q; cases q⟩
    · subst e; exact ⟨o2, h2, fun v q => by rw [d2] at q; cases q⟩
  keep := fun i h h' st k => by
    obtain ⟨hi, hz, hTI, ⟨a1, a2, hTO⟩, ⟨o1, h1, r1⟩, ⟨o2, h2, r2⟩⟩ := st
    exact ⟨hi, k _ (by simp) _ hz, k _ (by simp) _ hTI, ⟨a1, a2, k _ (by simp) _ hTO⟩, ⟨o1, k _ (by simp) _ h1, r1⟩, ⟨o2, k _ (by simp) _ h2, r2⟩⟩
  item := by
    intro X hP hw hK hc i pins s σ H E I hf st hg
    subst hP hw hK
    obtain ⟨hi, st⟩ := st
    have hi' : i < min x.cps.size y.cps.size := hg
    have hh : X.A.in1.handled = none := I.ok.hd hc
    have W := GoesN.zip2 (prog := X.prog) (w := X.w) (A := X.A) (elts := elts) (x1 := kk) (pos := tpos) S (Draws.text hh i1 x t) (Draws.text hh i2 y u)
    refine W.goes i s _ _ hi' st fun v h' tk hY st' hk _ => ?_
    obtain ⟨T, v1, v2, rfl, hT, ⟨a, u1, ha, rfl⟩, ⟨b, u2, hb, rfl⟩, hTup⟩ := hY
    have new : ObjOk X.prog X.w (upd H T (.tup [.str ⟨#[a]⟩, .str ⟨#[b]⟩])) h' T (.tup [.str ⟨#[a]⟩, .str ⟨#[b]⟩]) :=
      ⟨by show 2 ≤ sizeLine; decide, [.str ⟨#[a]⟩ u1, .str ⟨#[b]⟩ u2], .cons ⟨_, rfl⟩ (.cons ⟨_, rfl⟩ .nil), hTup⟩
    have sub : ∀ c, c ∈ [z, TO, i1, i2] → c ∈ [z, TI, TO, i1, i2] := fun c hc => by
      simp only [List.mem_cons, List.not_mem_nil, or_false] at hc ⊢
      rcases hc with e | e | e | e <;> simp [e]
    have I1 := I.turnedNew (t' := tk) (ch := [z, TO, i1, i2]) hk (fun c hc => hf c (sub c hc)) hT new
    refine ⟨.ref T, _, I1, rfl, ⟨T, a, b, rfl, I.hok.fresh hT, rfl, ha, hb⟩, ⟨hi', st'⟩, fun c hcm => ?_⟩
    have hlt : c < s.heap.objs.size := by
      obtain ⟨hz, hTI, ⟨a1, a2, hTO⟩, ⟨o1, h1, _⟩, ⟨o2, h2, _⟩⟩ := st
      simp only [List.mem_cons, List.not_mem_nil, or_false] at hcm
      rcases hcm with e | e | e | e | e
      · subst e; exact Heap.lt_size hz
      · subst e; exact Heap.lt_size hTI
      · subst e; exact Heap.lt_size hTO
      · subst e; exact Heap.lt_size h1
      · subst e; exact Heap.lt_size h2
    rw [upd_ne (Nat.ne_of_lt (Nat.lt_of_lt_of_le hlt hT))]
    exact (hf c hcm).1
  done := by
    intro X hP hw hK hc i pins s σ H E I hf st hg
    subst hP hw hK
    obtain ⟨hi, st⟩ := st
    have hg' : min x.cps.size y.cps.size ≤ i := hg
    have e : i = min x.cps.size y.cps.size := Nat.le_antisymm hi hg'
    subst e
    have hh : X.A.in1.handled = none := I.ok.hd hc
    have W := GoesN.zip2 (prog := X.prog) (w := X.w) (A := X.A) (elts := elts) (x1 := kk) (pos := tpos) S (Draws.text hh i1 x t) (Draws.text hh i2 y u)
    have sub : ∀ c, c ∈ [z, TO, i1, i2] → c ∈ [z, TI, TO, i1, i2] := fun c hc => by
      simp only [List.mem_cons, List.not_mem_nil, or_false] at hc ⊢
      rcases hc with e | e | e | e <;> simp [e]
    exact W.stops s (fun s1 => Inv X pins σ H s1) E st fun h' tk hk _ => I.turnedL (ch := [z, TO, i1, i2]) hk fun c hc => hf c (sub c hc)
  self := fun A i s Q E st h => wpAny_pyIter_zip st.2.1 h
def iZipS (ta : TA) : TI := fun σ H R => ta σ H fun vs H1 => ∃ x y, vs = [.str x, .str y] ∧ R (ItzS x y) H1
theorem pi_zipS {X : Cx} {e e2 : Expr} {ta : TA} {p pos tpos : Pos} {elts : List Expr} {kk : Nat} (hg : Gl X "zip") (hm : X.mg "zip" = none) (ha : PA X [e, e2] ta)
    (hs : starEach [e, e2] X.env = (false, eval e X.env) :: starEach [e2] X.env := by rfl) (hpl : (backTo pos (starEach [e2] X.env)).any (·.1) = false := by rfl) :
    PI X (.Tuple elts kk tpos) (.Call (.Name "zip" p) [e, e2] [] pos) (iZipS ta) := by
  refine ⟨fun pins s σ H R I h => ?_⟩
  refine Call_ (ld_blt I hg hm PyProof.Rows.boot_zip (PyProof.Rows.callWith_type1 (thn (ha.run pos pins s σ H _ I h) fun us s1 ⟨vs, H1, I1, r1, q1⟩ => ?_) hs hpl))
  obtain ⟨x, y, ex, q⟩ := q1
  subst ex
  obtain ⟨v1, v2, rfl, ⟨t, rfl⟩, ⟨u, rfl⟩⟩ := vals2 r1
  refine zip_begins2 (begins_text x t) (begins_text y u) trivial trivial fun h' hz hTI hTO h1 h2 hsz hk => wpAny_pyIter_zip hz ?_
  have I2 : Inv X pins σ H1 { s1 with heap := h' } := I1.kept (t' := s1.toks) hk
  refine ⟨s1.heap.objs.size + 4, [s1.heap.objs.size + 4, s1.heap.objs.size + 2, s1.heap.objs.size + 3, s1.heap.objs.size, s1.heap.objs.size + 1], _, ItzS x y, H1, rfl, I2, turn_zipS (t := t) (u := u) (zip_sep2 (N := s1.heap.objs.size) (fp1 := []) (fp2 := []) (fun _ q => nomatch q) fun _ q => nomatch q),
    ⟨Nat.zero_le _, hz, hTI, ⟨_, _, hTO⟩, ⟨_, h1, rfl, rfl⟩, ⟨_, h2, rfl, rfl⟩⟩, fun c hcm => ?_, q⟩
  have hle : s1.heap.objs.size ≤ c := by
    have e' : c = s1.heap.objs.size + 4 ∨ c = s1.heap.objs.size + 2 ∨ c = s1.heap.objs.size + 3 ∨ c = s1.heap.objs.size ∨ c = s1.heap.objs.size + 1 := by simpa using hcm
    rcases e' with z | z | z | z | z
    · rw [z]; exact Nat.le_add_right _ _
    · rw [z]; exact Nat.le_add_right _ _
    · rw [z]; exact Nat.le_add_right _ _
    · rw [z]; exact Nat.le_refl _
    · rw [z]; exact Nat.le_add_right _ _
  exact I1.fpOk hle (I1.hok.fresh hle)
/-- a comprehension over it, told by an invariant -/
theorem walk_zipS {x y : Str} : Walk (ItzS x y) (min x.cps.size y.cps.size) (fun _ => True)
    (fun i H v H' => ∃ (T : Addr) (a b : Nat), v = .ref T ∧ H T = none ∧ H' = upd H T (.tup [.str ⟨#[a]⟩, .str ⟨#[b]⟩]) ∧ x.cps[i]? = some a ∧ y.cps[i]? = some b) :=
  ⟨fun _ _ hi _ => hi, fun _ _ => Nat.le_refl _, fun _ _ _ _ _ _ y => y⟩
end My
set_option Elab.async false
set_option linter.all false
set_option maxRecDepth 100000
set_option maxHeartbeats 2000000
/-! dict(zip(xs, ys)) over two tuples, two lists -/
namespace My
open PySem PySem.Spec PyProof.Rows L2
section
variable {prog : Program} {w : World} {A : Around} {E : Value → Shared → Prop} {s : Shared} {z TI TO T i1 i2 : Addr} {fp1 fp2 : List Addr} {n1 n2 i : Nat} {P1 P2 : Nat → Value → Prop} {St1 St2 : Nat → Heap → Prop} {f : Bool} {oT : Obj}
theorem zipH_item {Q : Value → Shared → Prop} (S : ZipSep2 z TI TO i1 i2 fp1 fp2) (D1 : Draws prog w A i1 fp1 n1 P1 St1) (D2 : Draws prog w A i2 fp2 n2 P2 St2)
    (hz : IsZipHeld s.heap z TI TO T f) (hT : s.heap.get? T = some oT) (hTI : IsTupOf2 s.heap TI (.ref i1) (.ref i2)) (st1 : St1 i s.heap) (st2 : St2 i s.heap) (hlt1 : i < n1) (hlt2 : i < n2)
    (hQ : ∀ x1 x2 h' tk, P1 i x1 → P2 i x2 → IsZipHeld h' z TI TO T true → St1 (i + 1) h' → St2 (i + 1) h' → IsTupOf2 h' s.heap.objs.size x1 x2 →
      (∀ c o, c ≠ z → c ≠ i1 → c ≠ i2 → s.heap.get? c = some o → h'.get? c = some o) → Q (.ref s.heap.objs.size) { s with heap := h', toks := tk }) :
    wpAny (model prog w) A (Builtin.«zip.__next__» ⟨[.ref z], []⟩) (fun fin s' => ∃ v, fin = .done (.ret v) ∧ Q v s') E s := by
  obtain ⟨hp, g, d, tk0, os⟩ := s
  show wpAny _ _ (field (.ref z) 2 >>= _) _ _ _
  refine wpAny_bind (wpAny_field hz rfl (x := .bool false) rfl ?_)
  show wpAny _ _ (field (.ref z) 3 >>= _) _ _ _
  refine wpAny_bind (wpAny_field hz rfl (x := .ref TI) rfl ?_)
  refine wpAny_bind (wpAny_seqItems hTI rfl ?_)
  show wpAny _ _ (Builtin.SmallTypes.ownedTupleIsFree (.ref z) >>= _) _ _ _
  refine wpAny_bind (wpAny_tupleHeld_zip hz hT fun g0 hz0 hs0 => ?_)
  replace hs0 : Heap.SameBut z hp g0 := hs0
  simp only [Bool.false_eq_true, if_false]
  refine wpAny_bind ?_
  rw [← Array.forIn_toList]
  simp only [List.forIn_cons, List.forIn_nil]
  refine wpAny_bind (wpAny_bind (wpAny_holding ?_))
  show wpAny _ _ (Builtin.SmallTypes.nextOf (.ref i1) >>= _) _ _ ⟨g0, g, d, tk0, os⟩
  refine wpAny_bind (D1.item i _ _ _ hlt1 (D1.over st1 hs0 S.zf1) fun x1 p1 tk1 hx1 sn1 hp1 => wpAny_pure ?_)
  replace hp1 : Heap.SameBut i1 g0 p1 := hp1
  refine wpAny_pure ?_
  refine wpAny_bind (wpAny_bind (wpAny_holding ?_))
  show wpAny _ _ (Builtin.SmallTypes.nextOf (.ref i2) >>= _) _ _ ⟨p1, g, d, tk1, os⟩
  refine wpAny_bind (D2.item i _ _ _ hlt2 (D2.over (D2.over st2 hs0 S.zf2) hp1 S.sep1_2) fun x2 p2 tk2 hx2 sn2 hp2 => wpAny_pure ?_)
  replace hp2 : Heap.SameBut i2 p1 p2 := hp2
  refine wpAny_pure (wpAny_pure ?_)
  show wpAny _ _ (newTuple [x1, x2] >>= _) _ _ ⟨p2, g, d, tk2, os⟩
  refine wpAny_bind (wpAny_newTuple ?_)
  have hsz : p2.objs.size = hp.objs.size := by rw [hp2.1, hp1.1, hs0.1]
  have hz2 : IsZipHeld p2 z TI TO T true := hp2.extBut _ _ S.zi2 (hp1.extBut _ _ S.zi1 hz0)
  have hk : ∀ c o, c ≠ z → c ≠ i1 → c ≠ i2 → hp.get? c = some o → p2.get? c = some o := fun c o c1 c2 c3 e => hp2.extBut _ _ c3 (hp1.extBut _ _ c2 (hs0.extBut _ _ c1 e))
  have hj1 : St1 (i + 1) p2 := D1.over sn1 hp2 S.sep2_1
  refine wpAny_pure ⟨_, rfl, ?_⟩
  show Q (.ref p2.objs.size) ⟨p2.push { cls := .type "tuple", data := .seq #[x1, x2] }, g, d, tk2, os⟩
  have hpn : IsTupOf2 (p2.push { cls := .type "tuple", data := .seq #[x1, x2] }) p2.objs.size x1 x2 := Heap.get?_push_size _ rfl
  rw [hsz] at hpn ⊢
  exact hQ x1 x2 _ tk2 hx1 hx2 (Heap.get?_push_of_some _ hz2) (D1.frame _ _ _ hj1 fun b _ o e => Heap.get?_push_of_some _ e) (D2.frame _ _ _ sn2 fun b _ o e => Heap.get?_push_of_some _ e) hpn fun c o c1 c2 c3 e => Heap.get?_push_of_some _ (hk c o c1 c2 c3 e)
theorem zipH_end {Q : Fin → Shared → Prop} (S : ZipSep2 z TI TO i1 i2 fp1 fp2) (D1 : Draws prog w A i1 fp1 n1 P1 St1) (D2 : Draws prog w A i2 fp2 n2 P2 St2)
    (hz : IsZipHeld s.heap z TI TO T f) (hT : s.heap.get? T = some oT) (hTI : IsTupOf2 s.heap TI (.ref i1) (.ref i2)) (st1 : St1 i s.heap) (st2 : St2 i s.heap) (hle1 : i ≤ n1) (hle2 : i ≤ n2) (hend : i = n1 ∨ i = n2)
    (hE : ∀ h' tk e, (∀ c o, c ≠ z → c ≠ i1 → c ≠ i2 → s.heap.get? c = some o → h'.get? c = some o) → (∃ o, h'.get? e = some o ∧ o.cls = .type "StopIteration") → E (.ref e) { s with heap := h', toks := tk }) :
    wpAny (model prog w) A (Builtin.«zip.__next__» ⟨[.ref z], []⟩) Q E s := by
  obtain ⟨hp, g, d, tk0, os⟩ := s
  show wpAny _ _ (field (.ref z) 2 >>= _) _ _ _
  refine wpAny_bind (wpAny_field hz rfl (x := .bool false) rfl ?_)
  show wpAny _ _ (field (.ref z) 3 >>= _) _ _ _
  refine wpAny_bind (wpAny_field hz rfl (x := .ref TI) rfl ?_)
  refine wpAny_bind (wpAny_seqItems hTI rfl ?_)
  show wpAny _ _ (Builtin.SmallTypes.ownedTupleIsFree (.ref z) >>= _) _ _ _
  refine wpAny_bind (wpAny_tupleHeld_zip hz hT fun g0 hz0 hs0 => ?_)
  replace hs0 : Heap.SameBut z hp g0 := hs0
  simp only [Bool.false_eq_true, if_false]
  refine wpAny_bind ?_
  rw [← Array.forIn_toList]
  simp only [List.forIn_cons, List.forIn_nil]
  refine wpAny_bind (wpAny_bind (wpAny_holding ?_))
  show wpAny _ _ (Builtin.SmallTypes.nextOf (.ref i1) >>= _) _ _ ⟨g0, g, d, tk0, os⟩
  by_cases hlt1 : i < n1
  · refine wpAny_bind (D1.item i _ _ _ hlt1 (D1.over st1 hs0 S.zf1) fun x1 p1 tk1 hx1 sn1 hp1 => wpAny_pure ?_)
    replace hp1 : Heap.SameBut i1 g0 p1 := hp1
    have hi2 : i = n2 := by omega
    refine wpAny_pure ?_
    refine wpAny_bind (wpAny_bind (wpAny_holding ?_))
    show wpAny _ _ (Builtin.SmallTypes.nextOf (.ref i2) >>= _) _ _ ⟨p1, g, d, tk1, os⟩
    refine wpAny_bind (D2.done ⟨p1, g, d, tk1, os⟩ _ _ (by rw [← hi2]; exact D2.over (D2.over st2 hs0 S.zf2) hp1 S.sep1_2) fun q e hq he => ?_)
    replace hq : Heap.ExtBut i2 p1 q := hq
    exact hE q tk1 e (fun c o c1 c2 c3 x => hq _ _ c3 (hp1.extBut _ _ c2 (hs0.extBut _ _ c1 x))) he
  · have hi1 : i = n1 := by omega
    refine wpAny_bind (D1.done ⟨g0, g, d, tk0, os⟩ _ _ (by rw [← hi1]; exact D1.over st1 hs0 S.zf1) fun q e hq he => ?_)
    replace hq : Heap.ExtBut i1 g0 q := hq
    exact hE q tk0 e (fun c o c1 c2 c3 x => hq _ _ c2 (hs0.extBut _ _ c1 x)) he
theorem nextH_item {Q : Option Value → Shared → Prop} (S : ZipSep2 z TI TO i1 i2 fp1 fp2) (D1 : Draws prog w A.in1 i1 fp1 n1 P1 St1) (D2 : Draws prog w A.in1 i2 fp2 n2 P2 St2)
    (hz : IsZipHeld s.heap z TI TO T f) (hT : s.heap.get? T = some oT) (hTI : IsTupOf2 s.heap TI (.ref i1) (.ref i2)) (st1 : St1 i s.heap) (st2 : St2 i s.heap) (hlt1 : i < n1) (hlt2 : i < n2)
    (hQ : ∀ x1 x2 h' tk, P1 i x1 → P2 i x2 → IsZipHeld h' z TI TO T true → St1 (i + 1) h' → St2 (i + 1) h' → IsTupOf2 h' s.heap.objs.size x1 x2 →
      (∀ c o, c ≠ z → c ≠ i1 → c ≠ i2 → s.heap.get? c = some o → h'.get? c = some o) → Q (some (.ref s.heap.objs.size)) { s with heap := h', toks := tk }) :
    wpAny (model prog w) A (pyNext (.ref z)) Q E s := by
  have hTy : s.TypeIs (.ref z) "zip" := ⟨_, hz, rfl⟩
  unfold pyNext
  exact wpAny_bind (wpAny_attempt (wpAny_callSpecial?_slot (name := Str.ofString "__next__") hTy F.slot_zip_next
    (wpAny_call_entry F.slot_zip_next hTy F.entry_zip_next
      (zipH_item S D1 D2 hz hT hTI st1 st2 hlt1 hlt2 fun x1 x2 h' tk a1 a2 a3 a4 a5 a6 a7 => wpAny_pure (hQ x1 x2 h' tk a1 a2 a3 a4 a5 a6 a7)) (F.args_zip_next_1 _))))
theorem nextH_end {Q : Option Value → Shared → Prop} (S : ZipSep2 z TI TO i1 i2 fp1 fp2) (D1 : Draws prog w A.in1 i1 fp1 n1 P1 St1) (D2 : Draws prog w A.in1 i2 fp2 n2 P2 St2)
    (hz : IsZipHeld s.heap z TI TO T f) (hT : s.heap.get? T = some oT) (hTI : IsTupOf2 s.heap TI (.ref i1) (.ref i2)) (st1 : St1 i s.heap) (st2 : St2 i s.heap) (hle1 : i ≤ n1) (hle2 : i ≤ n2) (hend : i = n1 ∨ i = n2)
    (hQ : ∀ h' tk, (∀ c o, c ≠ z → c ≠ i1 → c ≠ i2 → s.heap.get? c = some o → h'.get? c = some o) → Q none { s with heap := h', toks := tk }) : wpAny (model prog w) A (pyNext (.ref z)) Q E s := by
  have hTy : s.TypeIs (.ref z) "zip" := ⟨_, hz, rfl⟩
  unfold pyNext
  refine wpAny_bind (wpAny_attempt (wpAny_callSpecial?_slot (name := Str.ofString "__next__") hTy F.slot_zip_next
    (wpAny_call_entry F.slot_zip_next hTy F.entry_zip_next (zipH_end S D1 D2 hz hT hTI st1 st2 hle1 hle2 hend fun h' tk e hk he => ?_) (F.args_zip_next_1 _))))
  obtain ⟨o, ho, hc⟩ := he
  refine wpAny_bind (wpAny_isInstance (T := "StopIteration") (b := true) ⟨o, ho, hc⟩ isSubtype_stop ?_)
  exact wpAny_pure (hQ _ _ hk)
end
/-- zip of two iterators of any kind, as the argument of dict() -/
theorem pairZip {prog : Program} {w : World} {z TI TO i1 i2 : Addr} {fp1 fp2 : List Addr} {n1 n2 : Nat} {P1 P2 : Nat → Value → Prop} {St1 St2 : Nat → Heap → Prop} (S : ZipSep2 z TI TO i1 i2 fp1 fp2)
    (D1 : ∀ A : Around, A.handled = none → Draws prog w A i1 fp1 n1 P1 St1) (D2 : ∀ A : Around, A.handled = none → Draws prog w A i2 fp2 n2 P2 St2)
    (L1 : ∀ i h, St1 i h → ∀ b ∈ fp1, ∃ o, h.get? b = some o) (L2 : ∀ i h, St2 i h → ∀ b ∈ fp2, ∃ o, h.get? b = some o) :
    PairArg prog w "zip" z (z :: TI :: TO :: (fp1 ++ fp2)) [z, TO, i1, i2] (min n1 n2) (fun i k v => P1 i k ∧ P2 i v)
      (fun h => IsZip h z TI TO .none ∧ IsTupOf2 h TI (.ref i1) (.ref i2) ∧ (∃ a b, IsTupOf2 h TO a b) ∧ St1 0 h ∧ St2 0 h) where
  type := fun s ok => ⟨_, ok.1, rfl⟩
  notDict := by decide
  keep := fun h h' ok hk => by
    obtain ⟨hz, hTI, ⟨a, b, hTO⟩, h1, h2⟩ := ok
    have D1' := D1 callerA rfl
    have D2' := D2 callerA rfl
    exact ⟨hk _ _ hz, hk _ _ hTI, ⟨a, b, hk _ _ hTO⟩, D1'.frame _ _ _ h1 fun b _ o e => hk b o e, D2'.frame _ _ _ h2 fun b _ o e => hk b o e⟩
  there := fun h ok b hb => by
    obtain ⟨hz, hTI, ⟨a, c, hTO⟩, h1, h2⟩ := ok
    simp only [List.mem_cons, List.mem_append] at hb
    rcases hb with e | e | e | e | e
    · subst e; exact ⟨_, hz⟩
    · subst e; exact ⟨_, hTI⟩
    · subst e; exact ⟨_, hTO⟩
    · exact L1 _ _ h1 b e
    · exact L2 _ _ h2 b e
  sub := fun b hb => by
    simp only [List.mem_cons, List.not_mem_nil, or_false] at hb
    simp only [List.mem_cons, List.mem_append]
    rcases hb with e | e | e | e
    · exact .inl e
    · exact .inr (.inr (.inl e))
    · subst e; exact .inr (.inr (.inr (.inl S.mem1)))
    · subst e; exact .inr (.inr (.inr (.inr S.mem2)))
  noKeys := fun A s Q E hA ok h => getAttrOr_miss_zip ok.1 rfl rfl rfl zip_no_keys (by decide +kernel) hA h
  iter := fun A s d Q E hA ok hd hdf h => by
    obtain ⟨hz, hTI, ⟨a, b, hTO⟩, h1, h2⟩ := ok
    simp only [List.mem_cons, List.mem_append, not_or] at hdf
    obtain ⟨dz, dTI, dTO, df1, df2⟩ := hdf
    have E1 := D1 A.in1 hA
    have E2 := D2 A.in1 hA
    have ne1 : ∀ b ∈ fp1, b ≠ d := fun b hb e => df1 (e ▸ hb)
    have ne2 : ∀ b ∈ fp2, b ≠ d := fun b hb e => df2 (e ▸ hb)
    refine wpAny_pyIter_zip hz (h z [z, TO, i1, i2] (fun i h => IsTupOf2 h TI (.ref i1) (.ref i2) ∧ St1 i h ∧ St2 i h ∧
      ((IsZip h z TI TO .none ∧ ∃ a b, IsTupOf2 h TO a b) ∨ ∃ T f oT, IsZipHeld h z TI TO T f ∧ h.get? T = some oT ∧ T ≠ z ∧ T ≠ i1 ∧ T ≠ i2 ∧ T ≠ d)) s.heap s.toks ?_
      ⟨hTI, h1, h2, .inl ⟨hz, a, b, hTO⟩⟩ (fun _ _ e => e) fun b hb => .inl hb)
    exact {
      off := fun hm => by
        simp only [List.mem_cons, List.not_mem_nil, or_false] at hm
        rcases hm with e | e | e | e
        · exact dz e
        · exact dTO e
        · exact df1 (e ▸ S.mem1)
        · exact df2 (e ▸ S.mem2)
      frame := fun i g1 g2 st hk => by
        obtain ⟨hTI, h1, h2, hz⟩ := st
        refine ⟨hk _ _ (Ne.symm dTI) hTI, E1.frame _ _ _ h1 fun b hb o e => hk b o (ne1 b hb) e, E2.frame _ _ _ h2 fun b hb o e => hk b o (ne2 b hb) e, ?_⟩
        rcases hz with ⟨hz, a, b, hTO⟩ | ⟨T, f, oT, hz, hT, r1, r2, r3, r4⟩
        · exact .inl ⟨hk _ _ (Ne.symm dz) hz, a, b, hk _ _ (Ne.symm dTO) hTO⟩
        · exact .inr ⟨T, f, oT, hk _ _ (Ne.symm dz) hz, hk _ _ r4 hT, r1, r2, r3, r4⟩
      item := fun i s1 Q1 X1 hi st hds hQ => by
        obtain ⟨hTI, h1, h2, hz⟩ := st
        have hix : i < n1 := Nat.lt_of_lt_of_le hi (Nat.min_le_left ..)
        have hiy : i < n2 := Nat.lt_of_lt_of_le hi (Nat.min_le_right ..)
        have lt : ∀ {c o}, s1.heap.get? c = some o → s1.heap.objs.size ≠ c := fun e => Nat.ne_of_gt (Heap.lt_size e)
        obtain ⟨o1, e1⟩ := E1.live _ _ h1
        obtain ⟨o2, e2⟩ := E2.live _ _ h2
        rcases hz with ⟨hz, a, b, hTO⟩ | ⟨T, f, oT, hz, hT, r1, r2, r3, r4⟩
        · refine wpAny_pyNext_zipD2_item S E1 E2 hz hTI hTO h1 h2 hix hiy fun x1 x2 h' tk y1 y2 a1 a2 a3 a4 a5 a6 hk => ?_
          exact hQ s1.heap.objs.size x1 x2 h' tk ⟨y1, y2⟩ (.inl ⟨_, a5, rfl, _, rfl⟩)
            ⟨hk _ _ S.TIz S.TITO S.TIi1 S.TIi2 hTI, a3, a4, .inr ⟨s1.heap.objs.size, false, _, a1, a5, lt hz, lt e1, lt e2, Nat.ne_of_gt hds⟩⟩
            fun c o hc e => hk c o (fun x => hc (by simp [x])) (fun x => hc (by simp [x])) (fun x => hc (by simp [x])) (fun x => hc (by simp [x])) e
        · refine nextH_item S E1 E2 hz hT hTI h1 h2 hix hiy fun x1 x2 h' tk y1 y2 a1 a3 a4 a5 hk => ?_
          exact hQ s1.heap.objs.size x1 x2 h' tk ⟨y1, y2⟩ (.inl ⟨_, a5, rfl, _, rfl⟩)
            ⟨hk _ _ S.TIz S.TIi1 S.TIi2 hTI, a3, a4, .inr ⟨T, true, oT, a1, hk _ _ r1 r2 r3 hT, r1, r2, r3, r4⟩⟩
            fun c o hc e => hk c o (fun x => hc (by simp [x])) (fun x => hc (by simp [x])) (fun x => hc (by simp [x])) e
      done := fun s1 Q1 X1 st hQ => by
        obtain ⟨hTI, h1, h2, hz⟩ := st
        have hend : min n1 n2 = n1 ∨ min n1 n2 = n2 := by omega
        rcases hz with ⟨hz, a, b, hTO⟩ | ⟨T, f, oT, hz, hT, r1, r2, r3, r4⟩
        · exact wpAny_pyNext_zipD2_end S E1 E2 hz hTI hTO h1 h2 (Nat.min_le_left ..) (Nat.min_le_right ..) hend fun h' tk hk => hQ h' tk fun c o hc e => hk c o (fun x => hc (by simp [x])) (fun x => hc (by simp [x])) (fun x => hc (by simp [x])) (fun x => hc (by simp [x])) e
        · exact nextH_end S E1 E2 hz hT hTI h1 h2 (Nat.min_le_left ..) (Nat.min_le_right ..) hend fun h' tk hk => hQ h' tk fun c o hc e => hk c o (fun x => hc (by simp [x])) (fun x => hc (by simp [x])) (fun x => hc (by simp [x])) e }
end My
set_option Elab.async false
set_option linter.all false
set_option maxRecDepth 100000
set_option maxHeartbeats 4000000
/-! sets of ints: set(list), {f(x) for x in tuple}; dict(zip(..)) as a rule -/
namespace My
open PySem PySem.Spec PyProof.Rows L2
/-! ### set(xs), xs a list of ints -/
abbrev freshSet (w : World) : Obj := { cls := .type "set", dict := none, data := .set #[] 0 (.fresh 0 0 (!w.params.followText "set-order")) }
section
variable {P : Program} {w : World} {A : Around} {E : Value → Shared → Prop} {s : Shared}
set_option maxHeartbeats 3200000 in
theorem call_set_lstI {l : Addr} {items : Array Value} (ns : List Int) {Q : Value → Shared → Prop} (hh : A.handled = none) (hl : s.heap.IsList l items) (hit : IntsAre items.toList ns) (hb : ns.length + 1 < scanBound)
    (h : ∀ (h' : Heap) (tk c : Nat), SetR w h' s.heap.objs.size (fun j => decide (j ∈ ns)) c → c ≤ ns.length → (∀ b o, s.heap.get? b = some o → h'.get? b = some o) → Q (.ref s.heap.objs.size) { s with heap := h', toks := tk }) :
    wpAny (model P w) A (call (.type "set") [.ref l]) Q E s := by
  have hisz : items.size = ns.length := by
    have q := IntsAre.length hit
    rwa [Array.length_toList] at q
  obtain ⟨c, tl, hmro⟩ := F.called_set.mro
  have f1 := F.called_set.made
  have f2 := F.called_set.sub
  have f3 := F.called_set.notType
  have f4 := F.called_set.canCreate
  have f5 := F.typeCall_set_1 (.ref l)
  refine wpAny_call (codeAny_of_tree ?_)
  show wpAny _ _ (callAny (.type "set") _) _ _ _
  refine wpAny_pure ⟨Code.quiet_builtin _ (by decide +kernel), codeAny_builtin F.entry_type_call ?_⟩
  rw [Around.under_plain (weight_type_call_type "set" [.ref l] []) rfl]
  repeat (any_goals (first | assumption | wp_step))
  refine codeAny_mono (code_set_led1 (.ref l) (E := E) (Q₁ := fun obj s₁ => obj = .ref s.heap.objs.size ∧ s₁ = { s with heap := s.heap.push (freshSet w) }) ⟨rfl, rfl⟩) fun r s₁ hr => ?_
  cases r with
  | error e => exact hr
  | ok fl =>
    cases fl with
    | ret obj =>
      obtain ⟨rfl, rfl⟩ := hr
      have hS : (s.heap.push (freshSet w)).get? s.heap.objs.size = some (freshSet w) := Heap.get?_push_size _ rfl
      have hT : Shared.TypeIs { s with heap := s.heap.push (freshSet w) } (.ref s.heap.objs.size) "set" := ⟨_, hS, rfl⟩
      have g1 := F.called_set.init.lookup
      have g2 := F.called_set.init.bind (.ref s.heap.objs.size)
      repeat (any_goals (first | assumption | wp_step))
      refine codeAny_mono (codeAny_call_builtin (R := wants (fun r s₂ => r = .none ∧ ∃ h' tk c, s₂ = { s with heap := h', toks := tk } ∧ SetR w h' s.heap.objs.size (fun j => decide (j ∈ ns)) c ∧ c ≤ ns.length ∧
          (∀ b o, s.heap.get? b = some o → h'.get? b = some o)) E) F.called_set.init.plain F.entry_set_init (check_set_init_1 hT ?_)) fun r₂ s₂ hr₂ => ?_
      · obtain ⟨ol, hol, hcl, nl, hdl⟩ := hl
        obtain ⟨ocls, odict, odata, oslots⟩ := ol
        simp only at hcl hdl
        subst hcl; subst hdl
        have hol' : (s.heap.push (freshSet w)).get? l = some { cls := .type "list", dict := odict, data := .seq items nl, slots := oslots } := Heap.get?_push_of_some _ hol
        have k1 := F.sub_list_set
        have k2 := F.sub_list_frozenset
        have k3 : (Value.type "list" == Value.type "dict") = false := by decide
        have hl1 : (s.heap.push (freshSet w)).IsList l items := ⟨_, hol', rfl, nl, rfl⟩
        unfold Builtin.«set.__init__» noKeywords Builtin.Frozenset.updateFrom
        generalize hPI : pyIter = PI
        wp_walk
        subst hPI
        refine wpAny_pyIter_list hl1 ?_
        refine wpAny_bind (wpAny_runValue ?_)
        have hlS : l < s.heap.objs.size := Heap.lt_size hol
        have hh3 : A.in1.in1.in1.handled = none := by simp [hh]
        have hneI : l ≠ (s.heap.push (freshSet w)).objs.size := by
          rw [Heap.size_push]; exact Nat.ne_of_lt (Nat.lt_succ_of_lt hlS)
        have hSf : s.heap.objs.size ∉ [(s.heap.push (freshSet w)).objs.size, l] := by
          rw [Heap.size_push]; simp only [List.mem_cons, List.mem_singleton, List.not_mem_nil, or_false, not_or]
          exact ⟨Nat.ne_of_lt (Nat.lt_succ_self _), Nat.ne_of_gt hlS⟩
        have hval : ∀ (i : Nat) (v : Value), items[i]? = some v → ∃ k t, ns[i]? = some k ∧ v = .int k t := fun i v hv => by
          have hi : i < ns.length := by rw [← hisz]; exact (Array.getElem?_eq_some_iff.mp hv).1
          obtain ⟨t, e⟩ := PyProof.Rows.IntsAre.int_at hit i v (by rw [Array.getElem?_toList]; exact hv)
          refine ⟨ns[i], t, List.getElem?_eq_getElem hi, ?_⟩
          rw [e, List.getD_eq_getElem?_getD, List.getElem?_eq_getElem hi] <;> rfl
        refine set_update_ints ((Walks.list hh3 _ l hneI items).toS) s.heap.objs.size hSf ns hisz hb hval (items.size - 0) 0 _ (by omega) (Nat.zero_le _) ⟨⟨_, Heap.get?_push_size _ rfl, rfl, rfl⟩, (hl1.push _)⟩ ?hS0 ?hR
        case hS0 =>
          exact ⟨0, Nat.le_refl 0, setR_new_at (Heap.get?_push_of_some _ hS)⟩
        case hR =>
          intro s' c' hm hc' hS'
          obtain ⟨h', g2, d', tk', os'⟩ := s'
          have eg : g2 = s.gens := hm.gens
          have ed : d' = s.drawn := hm.drawn
          have eo : os' = s.os := hm.os
          subst eg; subst ed; subst eo
          show wpAny _ _ _ _ _ _
          refine wpAny_pure ?_
          show wpAny _ _ (ret Value.none) _ _ _
          rw [hisz] at hc'
          refine wpAny_pure ⟨rfl, h', tk', c', rfl, hS', hc', fun b o e => ?_⟩
          have hb0 : b < s.heap.objs.size := Heap.lt_size e
          have hb1 : b ≠ s.heap.objs.size := Nat.ne_of_lt hb0
          have hb2 : b ≠ (s.heap.push (freshSet w)).objs.size := by
            rw [Heap.size_push]; exact Nat.ne_of_lt (Nat.lt_succ_of_lt hb0)
          exact hm.heap b o (by simp only [List.mem_cons, List.mem_singleton, List.not_mem_nil, or_false, not_or]; exact ⟨hb1, hb2⟩) (Heap.get?_push_of_some _ (Heap.get?_push_of_some _ e))
      · cases r₂ with
        | error e => exact hr₂
        | ok fl₂ =>
          cases fl₂ with
          | ret r =>
            obtain ⟨rfl, h', tk, c', rfl, hS', hc', hk'⟩ := hr₂
            repeat (any_goals (first | assumption | wp_step))
            exact h _ _ _ hS' hc' hk'
          | _ => exact hr₂.elim
    | _ => exact hr.elim
end
section
variable {X : Cx}
theorem nodup_le : ∀ {l L : List Int}, l.Nodup → (∀ x ∈ l, x ∈ L) → l.length ≤ L.length
  | [], _, _, _ => Nat.zero_le _
  | a :: l, L, nd, h => by
    rw [List.nodup_cons] at nd
    have ha := h a (List.mem_cons_self ..)
    have z := nodup_le (l := l) (L := L.erase a) nd.2 fun x hx => (List.mem_erase_of_ne (fun e => nd.1 (by rw [← e]; exact hx))).mpr (h x (List.mem_cons_of_mem _ hx))
    rw [List.length_erase_of_mem ha] at z
    have := List.length_pos_of_mem ha
    rw [List.length_cons]
    omega
theorem setR_le {w : World} {h : Heap} {a : Addr} {S : Int → Bool} {n : Nat} (R : SetR w h a S n) {L : List Int} (hL : ∀ j, S j = true → j ∈ L) : n ≤ L.length := by
  obtain ⟨o, es, ep, t, _, _, _, _, nd, hk, _, _, e, _⟩ := R
  have z := nodup_le nd fun x hx => hL x ((hk x).mpr hx)
  rw [List.length_map] at z
  rw [← e]
  exact z
/-- set(xs) of a list of ints -/
def rSetL (K : PySem.W.Frag) (w : World) : List V → Hp → VK → Prop := fun xs H Q => ∃ (a : Addr) (ns : List Int), xs = [.ref a] ∧ SqL K H a (ns.map V.int) ∧ ns.length ≤ 1000 ∧
  ∀ (p : Addr) (c : Nat), (∀ L : List Int, (∀ j ∈ ns, j ∈ L) → c ≤ L.length) → H p = none → Q (.ref p) (upd H p (SetO w p (fun j => decide (j ∈ ns)) c))
theorem cr_setL (hc : X.calm = true) : CallR X (.type "set") (rSetL X.K X.w) := by
  intro pins s σ H xs us Q I r h
  obtain ⟨a, ns, rfl, hq, hlen, q⟩ := h
  rw [Vals.ref1 r]
  obtain ⟨its, rv, pl, hz⟩ := I.list hq
  refine call_set_lstI ns (I.ok.hd hc) pl.isList (by simpa using rv.ints) (by unfold scanBound; omega) fun h' tk c R hcn k => ?_
  exact ⟨.ref _, _, I.laid (t' := tk) k (Nat.le_refl _) (setO_new R), rfl, q _ c (fun L hL => setR_le R fun j hj => hL j (of_decide_eq_true hj)) (I.hok.fresh (Nat.le_refl _))⟩
/-- set.add of an int -/
theorem addI_ok {pins : List (Addr × Obj)} {σ : L2.St} {H : Hp} {s : Shared} {E : Value → Shared → Prop} {D : Addr} {S : Int → Bool} {n : Nat} {y : Int} {t : Tok} {Q : Value → Shared → Prop} (I : Inv X pins σ H s) (hD : H D = some (SetO X.w D S n)) (room : n + 1 < scanBound)
    (h : ∀ s', Inv X pins σ (upd H D (SetO X.w D (fun j => S j || decide (j = y)) (if S y = true then n else n + 1))) s' → Q .none s') : wpAny (model X.prog X.w) X.A (call (.builtin "set.add") [.ref D, .int y t]) Q E s := by
  have R := setO_get I hD
  refine setR_add R room fun h' sb new => ?_
  have he : ∃ u, h'.get? D = some u := by
    have ⟨o, _, _, _, ho, _⟩ := new
    exact ⟨o, ho⟩
  exact h _ (I.write (e := D) (t' := s.toks + 1) (by rw [hD]; trivial) (.inl rfl) (fun b u hb hu => (sb.2 b hb).trans hu) he (setO_new new))
/-- {elt for target in iter if ..}, elt an int: D the new set -/
def tScI (w : World) (wi : TI) (g : TG) (tt : TT) (te : TE) (vs : List Nat) : TE := fun σ H Q => wi σ H fun J H1 => ∀ D, H1 D = none → ∃ W : Nat → Nat → Hp → Prop, (∃ m, W 0 m (upd H1 D (SetO w D (fun _ => false) 0))) ∧ ∀ i m H, W i m H →
  (J.stop i H ∧ Q (.ref D) H) ∨ (J.go i H ∧ ∃ Nx : Hp → Prop, (∀ H', Nx H' → ∃ m', m' < m ∧ W (i + 1) m' H') ∧ ∀ x H', J.yld i H x H' → g x (wipe σ vs) H' fun σ2 H2 => wipe σ2 vs = wipe σ vs ∧ tt σ2 H2 fun b H3 =>
    if b = true then te σ2 H3 fun y H4 => ∃ (c : Int) (S : Int → Bool) (n : Nat), y = .int c ∧ H4 D = some (SetO w D S n) ∧ n + 1 < scanBound ∧ Nx (upd H4 D (SetO w D (fun j => S j || decide (j = c)) (if S c = true then n else n + 1))) else Nx H3)
theorem pe_scI {elt tg iter : Expr} {ifs : List Expr} {scope : Scope} {own : List (PySem.Str × Nat)} {pos : Pos} {wi : TI} {g : TG} {tt : TT} {te : TE} (hc : X.calm = true) (hN : X.N.Nodup) (hi : PI X tg iter wi) (ok : BlkOk X.N X.env.scope scope own)
    (hg : ∀ (s : Shared) (H : Hp) (C : Addr) (cl : List (PySem.Str × Addr)) (fp : List Addr), PG (X.blk s H scope (compEnvC scope cl C X.env) fp) tg g) (ht : ∀ (s : Shared) (H : Hp) (C : Addr) (cl : List (PySem.Str × Addr)) (fp : List Addr), PTs (X.blk s H scope (compEnvC scope cl C X.env) fp) ifs tt)
    (he : ∀ (s : Shared) (H : Hp) (C : Addr) (cl : List (PySem.Str × Addr)) (fp : List Addr), PE (X.blk s H scope (compEnvC scope cl C X.env) fp) elt te) (hs : ∀ x, foldedSetIterable iter X.env x = pure x := by intro _; rfl) :
    PE X (.SetComp elt [⟨tg, iter, ifs, 0⟩] scope pos) (tScI X.w wi g tt te (own.map (·.2))) := by
  refine ⟨fun pins s σ H Q I h => ?_⟩
  rw [PpSet.eval_SetComp]
  have hfree : ∀ y ∈ scope.names, y.2 = .free → ∃ c, X.env.cells.lookup y.1 = some c := fun y hy e => by
    rcases ok.free y hy e with k | k
    · exact I.ok.has _ (.inl k)
    · exact I.ok.has _ (.inr k)
  refine wpAny_comprehension_free (use := none) rfl hs (closure_ok hfree) ok.kind (fun y hy e => by rw [ok.uniq y hy, e]) (thn (hi.run pins s σ H _ I h) fun xv s1 hx => thn hx fun itv s2 h2 => ?_)
  obtain ⟨it, fp, tn, J, H2, e, I2, T, st2, f2, q⟩ := h2
  subst e
  refine PpSet.newSet_ok (newEnv_comp ?_)
  generalize hD : s2.heap.objs.size = D
  obtain ⟨W, ⟨m0, w0⟩, turn⟩ := q D (I2.hok.fresh (Nat.le_of_eq hD))
  generalize hs3 : ({ s2 with heap := s2.heap.push (freshSet X.w) } : Shared) = s3
  have I3 : Inv X pins σ (upd H2 D (SetO X.w D (fun _ => false) 0)) s3 := by
    rw [← hs3]
    refine I2.laid (t' := s2.toks) (fun b o e => Heap.get?_push_of_some _ e) (Nat.le_of_eq hD) ?_
    rw [← hD]
    exact setO_new (setR_fresh X.w)
  have h3 : s3.heap = s2.heap.push (freshSet X.w) := by rw [← hs3]
  have f3 : ∀ b ∈ fp, FpOk X pins (upd H2 D (SetO X.w D (fun _ => false) 0)) b ∧ b < s3.heap.objs.size := fun b hb => by
    obtain ⟨o, e, _⟩ := T.obj _ _ st2 b hb
    have hlt := Heap.lt_size e
    refine ⟨⟨?_, (f2 b hb).2⟩, by rw [h3, Heap.size_push]; exact Nat.lt_succ_of_lt hlt⟩
    rw [upd_ne (by rw [← hD]; exact Nat.ne_of_lt hlt)]
    exact (f2 b hb).1
  have st3 : tn 0 s3.heap := T.keep _ _ _ st2 fun b _ o e => by rw [h3]; exact Heap.get?_push_of_some _ e
  have I4 := block_start I3 ok hN f3
  have pg := hg s3 (upd H2 D (SetO X.w D (fun _ => false) 0)) s3.heap.objs.size (cellsFrom (s3.heap.objs.size + 1) scope.names (cloFrom X.env.cells scope.names [])) fp
  have pt := ht s3 (upd H2 D (SetO X.w D (fun _ => false) 0)) s3.heap.objs.size (cellsFrom (s3.heap.objs.size + 1) scope.names (cloFrom X.env.cells scope.names [])) fp
  have pe := he s3 (upd H2 D (SetO X.w D (fun _ => false) 0)) s3.heap.objs.size (cellsFrom (s3.heap.objs.size + 1) scope.names (cloFrom X.env.cells scope.names [])) fp
  show codeAny _ _ (.compStart (.SetComp elt [⟨tg, iter, ifs, 0⟩] scope pos) 0 (.ref it) (.ref D) (compEnvC scope (cellsFrom (s3.heap.objs.size + 1) scope.names (cloFrom X.env.cells scope.names [])) s3.heap.objs.size X.env)) (compPost (model X.prog X.w) X.A X.xe none (EP X pins σ Q) (.ref D) s3.heap.objs.size) { s3 with heap := pushCells (s3.heap.push { cls := .type "dict", data := .dict #[] }) scope.names }
  have nfp : ∀ b ∈ fp, (upd H2 D (SetO X.w D (fun _ => false) 0)) b = none := fun b hb => (f3 b hb).1.1
  generalize hce : compEnvC scope (cellsFrom (s3.heap.objs.size + 1) scope.names (cloFrom X.env.cells scope.names [])) s3.heap.objs.size X.env = ce at I4 pg pt pe ⊢
  have cL : ce.locals = s3.heap.objs.size := by subst hce; rfl
  generalize hH3 : upd H2 D (SetO X.w D (fun _ => false) 0) = H3 at I3 I4 pg pt pe w0 nfp f3
  generalize hs4 : ({ s3 with heap := pushCells (s3.heap.push { cls := .type "dict", data := .dict #[] }) scope.names } : Shared) = s4 at I4 ⊢
  have st4 : tn 0 s4.heap := T.keep _ _ _ st3 fun b _ o e => by rw [← hs4]; exact pushCells_keeps _ _ _ _ (Heap.get?_push_of_some _ e)
  have stat : ∀ {σ' : L2.St} {H' : Hp} {s' : Shared}, Inv (X.blk s3 H3 scope ce fp) [] σ' H' s' → (∀ b ∈ fp, H' b = none) → ∀ b ∈ fp, FpOk (X.blk s3 H3 scope ce fp) [] H' b := fun {σ' H' s'} I' hn b hb =>
    ⟨hn b hb, (I'.ok.exf b hb).1, I'.ok.exfs b hb, .inl hb, fun x c e => (I'.ok.exf b hb).2 x c e, fun p hp => absurd (show p ∈ ([] : List (Addr × Obj)) ++ [] from hp) (by simp)⟩
  refine PpSet.codeAny_compStart_set ?loop (T.self X.A 0 _ _ _ st4 ?loop)
  refine PpSet.compLoopS_any (fun n s' => ∃ i H', Inv (X.blk s3 H3 scope ce fp) [] (wipe σ (own.map (·.2))) H' s' ∧ tn i s'.heap ∧ (∀ b ∈ fp, H' b = none) ∧ W i n H') ?_ m0 ⟨0, H3, I4, st4, nfp, w0⟩
  rintro n s5 ⟨i, H5, I5, st5, n5, w5⟩
  rcases turn i n H5 w5 with ⟨stop, qq⟩ | ⟨go, Nx, hNx, step⟩
  · have td := T.done (X.blk s3 H3 scope ce fp) rfl rfl rfl hc i [] s5 _ H5 (fun _ _ => False) I5 (stat I5 n5) st5 stop
    refine thnF td fun r s6 ⟨hr, I6⟩ => ?_
    subst hr
    have I7 : Inv X pins σ H5 s6 := I3.call' (ch := fp) I6.os I6.base I6.hok I6.bare fun b hb => ⟨(f3 b hb).1.2.2.2.1, (f3 b hb).1.2.1, (f3 b hb).1.2.2.2.2.1, (f3 b hb).1.2.2.2.2.2⟩
    have nC : H5 s3.heap.objs.size = none := by
      have z : H5 ce.locals = none := I6.free
      rwa [cL] at z
    obtain ⟨m, hn, _⟩ := I6.loc
    have hn : s6.heap.Ns ce.locals m := hn
    rw [cL] at hn
    obtain ⟨f0, f1, f2, f3, f4, f5⟩ := I3.fpOk (Nat.le_refl _) nC
    exact ⟨m, hn, fun h'' sb => ⟨.ref D, H5, I7.turned (t' := s6.toks) (fun b o hb e => (sb.2 b hb).trans e) f0 f1 f3 f4 f5, rfl, qq⟩⟩
  · have ti := T.item (X.blk s3 H3 scope ce fp) rfl rfl rfl hc i [] s5 _ H5 (fun _ _ => False) I5 (stat I5 n5) st5 go
    refine thnF ti fun r s6 ⟨u, hr, h6⟩ => ?_
    subst hr
    refine thnF h6 fun _ s7 ⟨x, H7, I7, r7, y7, st7, n7⟩ => ?_
    have I7' := I7.pinned (stat I7 n7) (T.obj _ _ st7)
    refine thnF (pg.run _ s7 _ H7 x u _ I7' r7 (step x H7 y7)) fun _ s8 ⟨σ8, H8, I8, hw8, q8⟩ => ?_
    refine thnF (pt.run _ s8 σ8 H8 _ I8 q8) fun b s9 ⟨H9, I9, q9⟩ => ?_
    have fin : ∀ {s' : Shared} {H' : Hp}, Inv (X.blk s3 H3 scope ce fp) ([] ++ pinsAt fp s7.heap) σ8 H' s' → Nx H' → ∃ m, m < n ∧ ∃ i H', Inv (X.blk s3 H3 scope ce fp) [] (wipe σ (own.map (·.2))) H' s' ∧ tn i s'.heap ∧ (∀ b ∈ fp, H' b = none) ∧ W i m H' := fun {s' H'} I' nx => by
      obtain ⟨m', hm, w'⟩ := hNx H' nx
      have pin' : ∀ b ∈ fp, ∀ o, s7.heap.get? b = some o → s'.heap.get? b = some o ∧ H' b = none := fun b hb o e =>
        let z := I'.pin (b, o) (List.mem_append_right _ (List.mem_append_right _ (mem_pinsAt hb e)))
        ⟨z.1, z.2.1⟩
      have hl : (wipe σ (own.map (·.2))).length = σ8.length := by rw [← hw8, wipe_length]
      refine ⟨m', hm, i + 1, H', (I'.unpinned (pins := [])).weak hl (fun j v e => ?_), T.keep _ _ _ st7 fun b hb o e => (pin' b hb o e).1, fun b hb => ?_, w'⟩
      · rw [← hw8] at e
        exact (wipe_some e).1
      · obtain ⟨o, e, _⟩ := T.obj _ _ st7 b hb
        exact (pin' b hb o e).2
    cases b with
    | false =>
      simp only [Bool.false_eq_true, if_false] at q9 ⊢
      exact fin I9 q9
    | true =>
      simp only [if_true] at q9 ⊢
      refine thnF (pe.run _ s9 σ8 H9 _ I9 q9) fun z s10 ⟨yv, H10, I10, r10, cb, S0, n0, ey, hD10, hz10, nx⟩ => ?_
      subst ey
      obtain ⟨tk, rfl⟩ : ∃ t, z = Value.int cb t := r10
      exact addI_ok (X := X.blk s3 H3 scope ce fp) I10 hD10 hz10 fun s11 I11 => fin I11 nx
end
/-- over a walk J of n turns -/
theorem sc_it {w : World} {J : It} {n : Nat} {G : Hp → Prop} {Y : Nat → Hp → V → Hp → Prop} (wk : Walk J n G Y) {g : TG} {tt : TT} {te : TE} {vs : List Nat} {σ : L2.St} {H1 : Hp} {D : Addr} {Qd : Hp → Prop} (Pv : Nat → Hp → Prop) (h0 : Pv 0 (upd H1 D (SetO w D (fun _ => false) 0))) (hG : ∀ i H, i ≤ n → Pv i H → G H)
    (hs : ∀ i x H H', i < n → Pv i H → Y i H x H' → g x (wipe σ vs) H' fun σ2 H2 => wipe σ2 vs = wipe σ vs ∧ tt σ2 H2 fun b H3 =>
      if b = true then te σ2 H3 fun y H4 => ∃ (c : Int) (S : Int → Bool) (k : Nat), y = .int c ∧ H4 D = some (SetO w D S k) ∧ k + 1 < scanBound ∧ Pv (i + 1) (upd H4 D (SetO w D (fun j => S j || decide (j = c)) (if S c = true then k else k + 1))) else Pv (i + 1) H3) (hd : ∀ H, Pv n H → Qd H) :
    ∃ W : Nat → Nat → Hp → Prop, (∃ m, W 0 m (upd H1 D (SetO w D (fun _ => false) 0))) ∧ ∀ i m H, W i m H →
      (J.stop i H ∧ Qd H) ∨ (J.go i H ∧ ∃ Nx : Hp → Prop, (∀ H', Nx H' → ∃ m', m' < m ∧ W (i + 1) m' H') ∧ ∀ x H', J.yld i H x H' → g x (wipe σ vs) H' fun σ2 H2 => wipe σ2 vs = wipe σ vs ∧ tt σ2 H2 fun b H3 =>
        if b = true then te σ2 H3 fun y H4 => ∃ (c : Int) (S : Int → Bool) (k : Nat), y = .int c ∧ H4 D = some (SetO w D S k) ∧ k + 1 < scanBound ∧ Nx (upd H4 D (SetO w D (fun j => S j || decide (j = c)) (if S c = true then k else k + 1))) else Nx H3) := by
  refine ⟨fun i m H => m = n - i ∧ i ≤ n ∧ Pv i H, ⟨n, by simp, Nat.zero_le _, h0⟩, ?_⟩
  rintro i m H ⟨rfl, hi, p⟩
  have q := hG i H hi p
  by_cases hlt : i < n
  · exact .inr ⟨wk.goes i H hlt q, Pv (i + 1), fun H' p' => ⟨n - (i + 1), by omega, rfl, hlt, p'⟩, fun x H' y => hs i x H H' hlt p (wk.yields i H x H' hlt q y)⟩
  · have e : i = n := by omega
    subst e
    exact .inl ⟨wk.stops H q, hd H p⟩
end My
set_option Elab.async false
set_option linter.all false
set_option maxRecDepth 100000
set_option maxHeartbeats 4000000
/-! repr of a list of tuples; dict(zip(..)); a text times a number; the call of a call's value -/
namespace My
open PySem PySem.Spec PyProof.Rows L2
section
variable {X : Cx}
/-! ### repr -/
def rRepr (X : Cx) : List V → Hp → VK → Prop := fun xs H Q => ∃ (a : Addr) (d : PyData), xs = [.ref a] ∧ Dp X.K H (.ref a) d ∧ d.showable = true ∧ d.hasDict = false ∧ d.depth ≤ 60 ∧ d.shown.length ≤ sizeLine ∧ Q (.str d.shown) H
theorem cr_repr (hg : X.A.guards = some []) (hu : X.A.units + 64 < cLine) : CallR X (.builtin "repr") (rRepr X) := by
  intro pins s σ H xs us Q I r h
  obtain ⟨a, d, rfl, hd, h1, h2, h3, h4, q⟩ := h
  rw [Vals.ref1 r]
  obtain ⟨as, rd⟩ := Dp.reads I d (.ref a) (.ref a) hd rfl
  exact repr_of_reads' rd h1 (PyData.noDict_hsm h2) hg (by omega) (fun _ _ e => e) (fun h' u tk hk => ⟨.str d.shown, H, I.kept (t' := tk) hk, ⟨_, rfl⟩, q⟩) h4
/-! ### dict(zip(a, b)) -/
def keysOf (ks : List Str) (ys : List V) : List (Key × V) := (ks.map Sum.inr).zip ys
theorem keys_kv {P : Program} {w : World} : ∀ {ks : List Str} {ys : List V} {us vs : List Value}, Vals (ks.map V.str) us → Vals ys vs → KV (keysOf ks ys) ((ks.map Sum.inr).zip vs)
  | [], _, _, _, _, _ => by
    show Paired _ [] _
    exact .nil
  | k :: ks, [], _, _, _, .nil => by
    show Paired _ [] _
    exact .nil
  | k :: ks, y :: ys, _, _, .cons r t, .cons r' t' => .cons ⟨rfl, r'⟩ (keys_kv (P := P) (w := w) t t')
def tDZip (K : PySem.W.Frag) (ta : TA) : TE := fun σ H Q => ta σ H fun vs H1 => ∃ (a b : Addr) (ks : List Str) (ys : List V), vs = [.ref a, .ref b] ∧
  ((SqT K H1 a (ks.map V.str) ∧ SqT K H1 b ys) ∨ (SqL K H1 a (ks.map V.str) ∧ SqL K H1 b ys)) ∧ ks.length = ys.length ∧ ∀ p, H1 p = none → Q (.ref p) (upd H1 p (.dK (mergeK [] (keysOf ks ys))))
end
end My
set_option Elab.async false
set_option linter.all false
set_option maxRecDepth 100000
set_option maxHeartbeats 4000000
/-! a lambda of one parameter, without captured names: made, handed on, called through a local name -/
namespace My
open PySem PySem.Spec PyProof.Rows L2 LamX
/-- the function object that a lambda has left at f -/
def LamO (q : Str) (params : Arguments) (body : Expr) (scope : Scope) (f c : Addr) : HO := .ext fun h => ∃ pm ctv : Value, h.get? f = some (PySem.W.kla_obj "<lambda>" q params body scope [] pm c ctv)
theorem clo_nil {cells : List (Str × Addr)} : ∀ {names : List (Str × NameKind)} {acc : List (Str × Addr)}, (∀ y ∈ names, y.2 ≠ .free) → cloFrom cells names acc = acc
  | [], _, _ => rfl
  | (n, k) :: r, acc, h => by
    unfold cloFrom
    have hk : ¬ (k == NameKind.free) = true := fun z => h (n, k) List.mem_cons_self (by simpa using z)
    rw [if_neg hk]
    exact clo_nil fun y hy => h y (List.mem_cons_of_mem _ hy)
section
variable {X : Cx} {pins : List (Addr × Obj)} {σ : L2.St} {H : Hp} {s : Shared}
def tLamV (T : List (Addr × Str)) (q : Str) (params : Arguments) (body : Expr) (scope : Scope) : TE := fun _ H Q => Tabs T H ∧ ∀ (f c : Addr) (H1 : Hp), ExtN H H1 → Tabs T H1 → H1 f = none → H1 c = some (CodeO c q) → Q (.ref f) (upd H1 f (LamO q params body scope f c))
theorem laid_lam {q : Str} {params : Arguments} {body : Expr} {scope : Scope} {pm ctv : Value} {c : Addr} (I : Inv X pins σ H s) :
    Inv X pins σ (upd H s.heap.objs.size (LamO q params body scope s.heap.objs.size c)) { s with heap := s.heap.push (PySem.W.kla_obj "<lambda>" q params body scope [] pm c ctv) } := by
  have e : (s.heap.push (PySem.W.kla_obj "<lambda>" q params body scope [] pm c ctv)).get? s.heap.objs.size = some (PySem.W.kla_obj "<lambda>" q params body scope [] pm c ctv) := Heap.get?_push_size _ rfl
  exact I.laid (t' := s.toks) (fun b o e => Heap.get?_push_of_some _ e) (Nat.le_refl _) ⟨⟨pm, ctv, e⟩, ⟨_, e⟩, fun h1 h2 ⟨pm, ctv, a⟩ st => ⟨pm, ctv, st _ a⟩⟩
theorem pe_lam {T : List (Addr × Str)} {c P : Addr} {params : Arguments} {body : Expr} {scope : Scope} {pos : Pos} (TB : TabB X.base X.mg c P) (hcode : X.env.code = .ref c)
    (hm : (P, X.env.qual ++ "<lambda>") ∈ T) (hu : ∀ p ∈ T, p.1 = P → p.2 = X.env.qual ++ "<lambda>") (hdef : defaultsOf params X.env = ([], [])) (hfree : ∀ y ∈ scope.names, y.2 ≠ .free) :
    PE X (.Lambda params body scope pos) (tLamV T (X.env.qual ++ "<lambda>") params body scope) := by
  refine ⟨fun pins s σ H Q I hq => ?_⟩
  obtain ⟨hT, k⟩ := hq
  obtain ⟨ps, hP, ht, ha⟩ := hT _ hm
  refine PySem.W.kla_eval hdef ?_
  have bP : s.heap.BuiltinsAt X.mg P := TB.bm.keeps I.bk
  have hP' : s.heap.get? P = some { cls := .none, data := .fields ps } := I.hok P _ hP
  have hcl : closureFor scope X.env = pure [] := by
    rw [closure_ok fun y hy e => absurd e (hfree y hy), clo_nil hfree]
  cases hc : codeAmong pos ps.toList with
  | none =>
    refine PySem.W.kla_makeFunction (mg := X.mg) (c := c) (P := P) (ps := ps) hcl I.ok.glob (I.mod.glob.keeps I.bk) hcode (TB.code.keeps I.bk) hP' ht hc TB.gP bP fun c' ctv h' tk hx hge hlt hrec htb => ?_
    obtain ⟨c2, oc, vs, t, e2, hoc, hd, hv⟩ := hrec
    cases e2
    have nC : H c' = none := I.hok.fresh hge
    have I1 := inv_table (t' := tk) (more := #[rawInt pos.line, rawInt pos.col, .ref c']) (h' := h') I hP hx htb hge ⟨oc, vs, t, hoc, hd, hv⟩
    have I2 := laid_lam (q := X.env.qual ++ "<lambda>") (params := params) (body := body) (scope := scope) (pm := (X.mg "__name__").getD .none) (ctv := ctv) (c := c') I1
    have hE : ExtN H (upd (upd H P (.tbl (ps ++ #[rawInt pos.line, rawInt pos.col, .ref c']))) c' (CodeO c' (X.env.qual ++ "<lambda>"))) := fun b o e n => by
      rw [upd_ne (ne_of_none e nC), upd_ne (fun z => n ps (Option.some.inj (e.symm.trans (by rw [z]; exact hP))))]
      exact e
    have eL : (ps ++ #[rawInt pos.line, rawInt pos.col, .ref c']).toList = ps.toList ++ [rawInt pos.line, rawInt pos.col, .ref c'] := by simp
    refine ⟨.ref h'.objs.size, _, I2, rfl, k h'.objs.size c' _ hE (fun p hp => ?_) (I1.hok.fresh (Nat.le_refl _)) upd_same⟩
    by_cases hb : p.1 = P
    · rw [hu p hp hb, hb]
      refine ⟨_, by rw [upd_ne (ne_of_none hP nC), upd_same], by rw [eL]; exact PySem.TriplesOk_snoc _ _ _ _ ht, fun p' cv hcv => ?_⟩
      rw [eL] at hcv
      rcases among_app _ ht hcv with z | z
      · obtain ⟨c0, e1, e2⟩ := ha p' cv z
        exact ⟨c0, e1, hE _ _ e2 codeO_ne⟩
      · exact ⟨c', z, upd_same⟩
    · obtain ⟨ps', a1, a2, a3⟩ := hT p hp
      refine ⟨ps', by rw [upd_ne (ne_of_none a1 nC), upd_ne hb]; exact a1, a2, fun p' cv hcv => ?_⟩
      obtain ⟨c0, e1, e2⟩ := a3 p' cv hcv
      exact ⟨c0, e1, hE _ _ e2 codeO_ne⟩
  | some cv =>
    obtain ⟨c', e, hco⟩ := ha pos cv hc
    subst e
    refine PySem.W.kla_makeFunctionHit (mg := X.mg) (c := c) (P := P) (ps := ps) hcl I.ok.glob (I.mod.glob.keeps I.bk) hcode (TB.code.keeps I.bk) hP' ht hc bP fun ctv h' tk hx hsz => ?_
    have I1 : Inv X pins σ H { s with heap := h', toks := tk } := I.kept hx
    have I2 := laid_lam (q := X.env.qual ++ "<lambda>") (params := params) (body := body) (scope := scope) (pm := (X.mg "__name__").getD .none) (ctv := ctv) (c := c') I1
    exact ⟨.ref h'.objs.size, _, I2, rfl, k h'.objs.size c' H (ExtN.refl H) hT (I1.hok.fresh (Nat.le_refl _)) hco⟩
end
/-- a lambda called with one value -/
theorem run_lam {P : Program} {w : World} {K : PySem.W.Frag} {mg : Str → Option Value} {base : Heap} {k : Nat} {f c : Addr} {q : Str} {params : Arguments} {body : Expr} {scope : Scope} {pm ctv : Value} {N : List Str} {x : Str}
    {A : Around} {outer : List Env} {s : Shared} {H : Hp} {u : Value} {v : V} {Q : VK} {E : XK} (hf : s.heap.get? f = some (PySem.W.kla_obj "<lambda>" q params body scope [] pm c ctv)) (hcd : s.heap.CodeRec (.ref c) q) (S : FnScope N [x] scope)
    (hr : Room (k + 1) A) (e0 : Env0 P w K mg base A outer s H) (hb : bindArgs (PySem.W.kla_fn "<lambda>" q params body scope [] pm (.ref c) ctv) ⟨[u], []⟩ = pure [(x, u)]) (r : RelV v u)
    (hbody : Room k (A.deeper (envOfC q scope s.heap.objs.size f (.ref c))) → ∃ t, PE (cxOf C8.CX0 P w K mg base N q scope f (.ref c) A outer s H E) body t ∧ t (L2.start N [v]) H Q) :
    codeAny (model P w) A (.call (.ref f) ⟨[u], []⟩) (CR C8.CX0 outer P w H s Q E) s := by
  have lim : s.heap.NoLimit := e0.mod.nolimit.keeps fun b o e => (e0.bs b o e).1
  have hkind : ∀ y ∈ [(x, u)], scope.names.lookup y.1 = some .local ∨ (scope.names.lookup y.1 = some .cell ∧ ((cellsFrom (s.heap.objs.size + 1) scope.names []).lookup y.1).isSome = true) := fun y hy => by
    obtain rfl := List.mem_singleton.mp hy
    rcases S.par x List.mem_cons_self with q | q
    · exact .inl q
    · exact .inr ⟨q, PySem.W.cellsFrom_some _ _ _ (.inl q)⟩
  refine PySem.W.kla_callFunE hr.depth hf rfl S.co S.gen rfl hcd ?_
  rw [hb]
  refine wpAny_pure (wpAny_newFunctionEnv_cells S.kind hkind fun env he s1 xx => ?_)
  subst he
  refine ⟨lim.keeps xx.toInCall.keep, PySem.W.kla_codeExpr ?_⟩
  obtain ⟨t, ht, hq⟩ := hbody (hr.deeper _)
  have I : Inv (cxOf C8.CX0 P w K mg base N q scope f (.ref c) A outer s H E) [] (L2.start N [v]) H s1 := inv_start (ps := [x]) (us := [u]) S hr.hd e0 rfl (.cons r .nil) xx
  refine wpAny_mono (ht.run [] s1 (L2.start N [v]) H _ I hq) (fun u' s' hs => ?_) fun e s' hs => hs
  obtain ⟨v', H', J, rv, q⟩ := hs
  exact ⟨v', H', J.os, J.bare, J.base, J.hok, rv, q⟩
/-- what a lambda does, wherever it is called -/
def LamDoes (P : Program) (w : World) (K : PySem.W.Frag) (mg : Str → Option Value) (base : Heap) (k : Nat) (N : List Str) (q : Str) (body : Expr) (scope : Scope) (tB : TE) : Prop :=
  ∀ (A : Around) (outer : List Env) (s : Shared) (H : Hp) (f c : Addr), Room k (A.deeper (envOfC q scope s.heap.objs.size f (.ref c))) → PE (cxOf C8.CX0 P w K mg base N q scope f (.ref c) A outer s H C8.E0) body tB
def tCallLam (i : Nat) (N : List Str) (q : Str) (params : Arguments) (body : Expr) (scope : Scope) (tB : TE) (t : TA) : TE := fun σ H Q => ∃ f c : Addr, σ[i]? = some (some (.ref f)) ∧ H f = some (LamO q params body scope f c) ∧
  t σ H fun vs H1 => ∃ v, vs = [v] ∧ H1 f = some (LamO q params body scope f c) ∧ H1 c = some (CodeO c q) ∧ tB (L2.start N [v]) H1 Q
theorem pe_callLam {X : Cx} {k i : Nat} {N : List Str} {x y q : Str} {params : Arguments} {body : Expr} {scope : Scope} {tB : TE} {e : Expr} {t : TA} {p pos : Pos} (L : LamDoes X.prog X.w X.K X.mg X.base k N q body scope tB) (S : FnScope N [y] scope) (hr : Room (k + 1) X.A)
    (hbind : ∀ pm cv ctv u : Value, bindArgs (PySem.W.kla_fn "<lambda>" q params body scope [] pm cv ctv) ⟨[u], []⟩ = pure [(y, u)]) (hN : X.N[i]? = some x) (hv : Vis X.env.scope x) (ha : PA X [e] t)
    (hdb : (x == ("__debug__" : Str)) = false := by decide) (hcd : (x == ("__classdict__" : Str)) = false := by decide)
    (he : starEach [e] X.env = (false, eval e X.env) :: starEach [] X.env := by rfl) : PE X (.Call (.Name x p) [e] [] pos) (tCallLam i N q params body scope tB t) := by
  refine ⟨fun pins s σ H Q I h => ?_⟩
  obtain ⟨f, c, hs, hf, ht⟩ := h
  refine wpAny_Call_Name_kw (thn ((pe_var (pos := p) hN hv hdb hcd).run pins s σ H (fun v H1 => v = .ref f ∧ H1 = H) I ⟨.ref f, hs, rfl, rfl⟩) fun u s1 ⟨v, H1, I1, r1, q1⟩ => ?_)
  obtain ⟨rfl, rfl⟩ := q1
  cases r1
  obtain ⟨⟨pm0, ctv0, hf0⟩, _, _⟩ := I1.hok f _ hf
  refine PySem.W.callWith_F ⟨_, _, _, _, hf0⟩ (thn (ha.run pos pins s1 σ _ _ I1 ht) fun us s2 ⟨vs, H2, I2, r, q2⟩ => ?_) he rfl
  obtain ⟨w0, rfl, hf2, hc2, hB⟩ := q2
  obtain ⟨u0, rfl, r0⟩ := vals1 r
  obtain ⟨⟨pm, ctv, hf3⟩, _, _⟩ := I2.hok f _ hf2
  obtain ⟨⟨oc, vs, tk, hoc, hdc, hvc⟩, _, _⟩ := I2.hok c _ hc2
  refine ⟨⟨_, _, _, _, hf3⟩, ?_⟩
  have rc : codeAny (model X.prog X.w) X.A (.call (.ref f) ⟨[u0], []⟩) (CR C8.CX0 X.stack X.prog X.w H2 s2 Q C8.E0) s2 :=
    run_lam (N := N) hf3 ⟨c, oc, vs, tk, rfl, hoc, hdc, hvc⟩ S hr I2.env0 (hbind _ _ _ _) r0 fun hr' => ⟨tB, L _ _ _ _ _ _ hr', hB⟩
  refine wpAny_call (codeAny_mono rc fun r s3 hq => ?_)
  cases r with
  | error e => exact (show False from hq).elim
  | ok fl =>
    cases fl with
    | ret u => exact I2.after hq
    | next => exact False.elim hq
    | brk => exact False.elim hq
    | cont => exact False.elim hq
/-- two readings of one expression: either will do -/
theorem PE.or {X : Cx} {e : Expr} {t1 t2 : TE} (h1 : PE X e t1) (h2 : PE X e t2) : PE X e (fun σ H Q => t1 σ H Q ∨ t2 σ H Q) := ⟨fun pins s σ H Q I h => h.elim (h1.run pins s σ H Q I) (h2.run pins s σ H Q I)⟩
/-! ### the call of a call's value -/
def tCallE (tf : TE) (S : Addr → Option Sp) (t : TA) : TE := fun σ H Q => tf σ H fun v H1 => ∃ f sp, v = .ref f ∧ S f = some sp ∧ t σ H1 fun vs H2 => sp vs H2 Q C8.E0
theorem pe_callE {X : Cx} {k : Nat} {S : Addr → Option Sp} {fe e : Expr} {es : List Expr} {tf : TE} {t : TA} {pos : Pos} (A : ∀ f sp, S f = some sp → C8.CalAt X.prog X.w X.K X.mg X.base k f sp) (hr : Room k X.A) (hf : PE X fe tf) (ha : PA X (e :: es) t)
    (ht : eval (.Call fe (e :: es) [] pos) X.env = (do callWith pos (← eval fe X.env) [] (backTo pos (starEach (e :: es) X.env)) (backToKw pos (keywordEach [] X.env))) := by rfl)
    (he : starEach (e :: es) X.env = (false, eval e X.env) :: starEach es X.env := by rfl) (hpl : (backTo pos (starEach es X.env)).any (·.1) = false := by rfl) : PE X (.Call fe (e :: es) [] pos) (tCallE tf S t) := by
  refine ⟨fun pins s σ H Q I h => ?_⟩
  refine Call_ (thn (hf.run pins s σ H _ I h) fun u s1 ⟨v, H1, I1, r1, f, sp, ev, hS, ht'⟩ => ?_) ht
  subst ev
  cases r1
  obtain ⟨fd, ps, F, kp, b⟩ := (A f sp hS).ex
  refine PySem.W.callWith_K (h₀ := X.base) I1.ok.mod.kin kp (thn (ha.run pos pins s1 σ _ _ I1 ht') fun us s2 ⟨vs, H2, I2, r, q⟩ => ⟨I2.kIn, ?_⟩) he hpl
  exact run_fn F hr b .nil C8.pass0 I2 r (by rw [List.append_nil]; exact q)
end My
set_option Elab.async false
set_option linter.all false
set_option maxRecDepth 100000
set_option maxHeartbeats 4000000
namespace My
open PySem PySem.Spec PyProof.Rows L2 SX
theorem rep_fold (c : Nat) : ∀ (k : Nat) (acc : Array Nat), (List.replicate k (#[c] : Array Nat)).foldl (· ++ ·) acc = acc ++ (List.replicate k c).toArray
  | 0, acc => by simp
  | k + 1, acc => by
    rw [List.replicate_succ, List.foldl_cons, rep_fold c k]
    apply Array.ext'
    simp [List.replicate_succ]
/-- one sign, n times -/
def rMulS : R2 := fun x y H Q => ∃ (c : Nat) (i : Int), x = .str (S [c]) ∧ y = .int i ∧ 1 ≤ i ∧ i ≤ 1000 ∧ Q (.str (S (List.replicate i.toNat c))) H
theorem op_mulS {X : Cx} : OpR X (binaryOp .Mult) rMulS := by
  intro pins s σ H x y v u Q I rx ry h
  obtain ⟨c, i, rfl, rfl, h1, h2, q⟩ := h
  obtain ⟨t, rfl⟩ := rx
  obtain ⟨t', rfl⟩ := ry
  have hl : (S [c]).length = 1 := rfl
  refine P.mul_str ?_ (fun _ _ => ?_) (fun _ _ => ?_) ?_
  · rw [decide_eq_false (by omega), decide_eq_false (by omega)]; rfl
  · rw [hl]
    have : (1 : Int) ≤ (2 ^ 63 - 1) / i := by
      apply Int.le_ediv_of_mul_le (by omega)
      omega
    omega
  · rw [hl]
    unfold Builtin.Str.tooLong
    simp only [decide_eq_false_iff_not]
    rw [sizeLine_eq]
    omega
  · rw [if_neg (by omega)]
    by_cases e : i = 1
    · subst e
      rw [if_pos (show ((1 : Int) == 1 || (S [c]).length == 0) = true from rfl)]
      exact ⟨.str (S [c]), H, I, ⟨_, rfl⟩, q⟩
    · rw [if_neg (by simp [hl, e])]
      have e2 : (⟨(List.replicate i.toNat (S [c]).cps).foldl (· ++ ·) #[]⟩ : Str) = S (List.replicate i.toNat c) := by
        show (⟨(List.replicate i.toNat (#[c] : Array Nat)).foldl (· ++ ·) #[]⟩ : Str) = _
        rw [rep_fold]
        simp
      rw [e2]
      refine ⟨?_, .str _, H, I.tok _, ⟨_, rfl⟩, q⟩
      rw [S_len, List.length_replicate, sizeLine_eq]
      omega
end My
set_option Elab.async false
set_option linter.all false
set_option maxRecDepth 100000
set_option maxHeartbeats 4000000
/-! judgements that hold while at least n tokens are out (tokens never go back): the rules that the program wants, told again for them -/
namespace My
open PySem PySem.Spec PyProof.Rows L2 LamX
/-- the end weakened, the tokens kept in view -/
theorem thnN {α : Type} {t : Sem α} {Q Q' : α → Shared → Prop} {M : Model} {A : Around} {E : Value → Shared → Prop} {s : Shared} {n : Nat} (hn : n ≤ s.toks) (h : wpAny M A t Q E s) (k : ∀ a s', n ≤ s'.toks → Q a s' → Q' a s') : wpAny M A t Q' E s :=
  wpAny_mono (PySem.wpAny_toks_of hn h) (fun a s' q => k a s' q.1 q.2) fun _ _ q => q.2
theorem thnNF {α : Type} {t : Sem α} {Q Q' : α → Shared → Prop} {M : Model} {A : Around} {E : Value → Shared → Prop} {s : Shared} {n : Nat} (hn : n ≤ s.toks) (h : wpAny M A t Q (fun _ _ => False) s) (k : ∀ a s', n ≤ s'.toks → Q a s' → Q' a s') : wpAny M A t Q' E s :=
  wpAny_mono (PySem.wpAny_toks_of hn h) (fun a s' q => k a s' q.1 q.2) fun _ _ q => q.2.elim
def EN (n : Nat) (X : Cx) (e : Expr) (t : TE) : Prop :=
  ∀ (pins : List (Addr × Obj)) (s : Shared) (σ : L2.St) (H : Hp) (Q : VK), n ≤ s.toks → Inv X pins σ H s → t σ H Q → wpAny (model X.prog X.w) X.A (eval e X.env) (EP X pins σ Q) X.xe s
def TN (n : Nat) (X : Cx) (e : Expr) (t : TT) : Prop :=
  ∀ (pins : List (Addr × Obj)) (s : Shared) (σ : L2.St) (H : Hp) (Q : Bool → Hp → Prop), n ≤ s.toks → Inv X pins σ H s → t σ H Q → wpAny (model X.prog X.w) X.A (isTrue e X.env (eval e X.env)) (TP X pins σ Q) X.xe s
def WN (n : Nat) (X : Cx) (e : Expr) (t : TT) : Prop :=
  ∀ (whole : Sem Value) (pins : List (Addr × Obj)) (s : Shared) (σ : L2.St) (H : Hp) (Q : Bool → Hp → Prop), n ≤ s.toks → Inv X pins σ H s → t σ H Q → wpAny (model X.prog X.w) X.A (isTrue e X.env whole) (TP X pins σ Q) X.xe s
def AN (n : Nat) (X : Cx) (es : List Expr) (t : TA) : Prop :=
  ∀ (pos : Pos) (pins : List (Addr × Obj)) (s : Shared) (σ : L2.St) (H : Hp) (Q : List V → Hp → Prop), n ≤ s.toks → Inv X pins σ H s → t σ H Q → wpAny (model X.prog X.w) X.A (spliced (backTo pos (starEach es X.env))) (AP X pins σ Q) X.xe s
def SN (n : Nat) (X : Cx) (st : Stmt) (t : TS) : Prop :=
  ∀ (pins : List (Addr × Obj)) (s : Shared) (σ : L2.St) (H : Hp) (D : Ends), n ≤ s.toks → Inv X pins σ H s → t D σ H → wpAny (model X.prog X.w) X.A (exec st X.env) (SP X pins D) X.xe s
def BN (n : Nat) (X : Cx) (st : List Stmt) (t : TS) : Prop :=
  ∀ (pins : List (Addr × Obj)) (s : Shared) (σ : L2.St) (H : Hp) (D : Ends), n ≤ s.toks → Inv X pins σ H s → t D σ H → wpAny (model X.prog X.w) X.A (execs st X.env) (SP X pins D) X.xe s
def GN (n : Nat) (X : Cx) (tg iter : Expr) (wi : TI) : Prop :=
  ∀ (pins : List (Addr × Obj)) (s : Shared) (σ : L2.St) (H : Hp) (R : It → Hp → Prop), n ≤ s.toks → Inv X pins σ H s → wi σ H R →
    wpAny (model X.prog X.w) X.A (eval iter X.env) (fun v s1 => wpAny (model X.prog X.w) X.A (pyIter v) (PIE X pins σ tg R) X.xe s1) X.xe s
def CN (n : Nat) (X : Cx) (ifs : List Expr) (t : TT) : Prop :=
  ∀ (pins : List (Addr × Obj)) (s : Shared) (σ : L2.St) (H : Hp) (Q : Bool → Hp → Prop), n ≤ s.toks → Inv X pins σ H s → t σ H Q →
    wpAny (model X.prog X.w) X.A (forIn ifs true fun c r => if r = true then do let ok ← isTrue c X.env (eval c X.env); pure (ForInStep.yield ok) else pure (ForInStep.yield r)) (TP X pins σ Q) X.xe s
section
variable {n : Nat} {X : Cx} {a b c e o : Expr} {es : List Expr} {ta tb te : TE} {tA tB' : TT} {t : TA} {pos : Pos}
theorem EN.of (h : PE X e te) : EN n X e te := fun pins s σ H Q _ I q => h.run pins s σ H Q I q
theorem TN.of (h : PT X e tA) : TN n X e tA := fun pins s σ H Q _ I q => h.run pins s σ H Q I q
theorem WN.of (h : PW X e tA) : WN n X e tA := fun wh pins s σ H Q _ I q => h.run wh pins s σ H Q I q
theorem AN.of (h : PA X es t) : AN n X es t := fun pos pins s σ H Q _ I q => h.run pos pins s σ H Q I q
theorem SN.of {st : Stmt} {u : TS} (h : PS X st u) : SN n X st u := fun pins s σ H D _ I q => h.run pins s σ H D I q
theorem BN.of {st : List Stmt} {u : TS} (h : PSs X st u) : BN n X st u := fun pins s σ H D _ I q => h.run pins s σ H D I q
theorem GN.of {tg iter : Expr} {wi : TI} (h : PI X tg iter wi) : GN n X tg iter wi := fun pins s σ H R _ I q => h.run pins s σ H R I q
theorem CN.of {ifs : List Expr} (h : PTs X ifs tA) : CN n X ifs tA := fun pins s σ H Q _ I q => h.run pins s σ H Q I q
theorem WN.tn (h : WN n X e tA) : TN n X e tA := h _
theorem binN (ha : EN n X a ta) (hb : EN n X b tb) {pins : List (Addr × Obj)} {s : Shared} {σ : L2.St} {H : Hp} {R : V → V → Hp → Prop} (hn : n ≤ s.toks) (I : Inv X pins σ H s)
    (h : ta σ H fun x H1 => tb σ H1 fun y H2 => R x y H2) {Q : Value → Shared → Prop} {f : Value → Value → Sem Value}
    (fin : ∀ v u s2 x y H2, Inv X pins σ H2 s2 → RelV x v → RelV y u → R x y H2 → wpAny (model X.prog X.w) X.A (f v u) Q X.xe s2) :
    wpAny (model X.prog X.w) X.A (eval a X.env) (fun v p1 => wpAny (model X.prog X.w) X.A (eval b X.env) (fun u p2 => wpAny (model X.prog X.w) X.A (f v u) Q X.xe p2) X.xe p1) X.xe s := by
  refine thnN hn (ha pins s σ H _ hn I h) fun v p1 n1 ⟨x, Ha, Ia, ra, qa⟩ => ?_
  refine thnN n1 (hb pins p1 σ Ha _ n1 Ia qa) fun u p2 _ ⟨y, Hb, Ib, rb, qb⟩ => ?_
  exact fin v u p2 x y Hb Ib ra rb qb
theorem en_op {op : Operator} {r : R2} (ho : OpR X (binaryOp op) r) (ha : EN n X a ta) (hb : EN n X b tb) : EN n X (.BinOp a op b pos) (tOp r ta tb) :=
  fun pins s σ H Q hn I h => wpAny_BinOp (binN ha hb hn I h fun v u p x y Hb Ib rx ry q => ho pins p σ Hb x y v u Q Ib rx ry q)
theorem en_cmpR {op : CmpOp} {r : R2} (ho : OpR X (compareOp op) r) (ha : EN n X a ta) (hb : EN n X b tb) (hm : behindInMarks op b = false) : EN n X (.Compare a [op] [b] pos) (tOp r ta tb) :=
  fun pins s σ H Q hn I h => wpAny_Compare1 (binN ha hb hn I h fun v u p x y Hb Ib rx ry q => ho pins p σ Hb x y v u Q Ib rx ry q) hm
theorem en_un {op : UnaryOp} {r : V → Hp → VK → Prop} (ho : UnR X (unaryOp op) r) (ha : EN n X a ta) : EN n X (.UnaryOp op a pos) (tUn r ta) :=
  fun pins s σ H Q hn I h => UnaryOp_ (thn (ha pins s σ H _ hn I h) fun v p ⟨x, Ha, Ia, ra, qa⟩ => ho pins p σ Ha x v Q Ia ra qa)
theorem en_ix {r : R2} (hr : IxR X r) (ha : EN n X a ta) (hb : EN n X b tb) (hs : PlainIx b) : EN n X (.Subscript a b pos) (tOp r ta tb) :=
  fun pins s σ H Q hn I h => Subscript_ (binN ha hb hn I h fun v u p x y Hb Ib rx ry q => hr a b pins p σ Hb x y v u Q Ib rx ry q (hs _ _))
theorem en_ifExp (hc : TN n X c tA) (ha : EN n X a ta) (hb : EN n X b tb) : EN n X (.IfExp c a b pos) (tIf tA ta tb) := fun pins s σ H Q hn I h => by
  refine wpAny_IfExp (thnN hn (hc pins s σ H _ hn I h) fun d p n1 ⟨Ha, Ia, qa⟩ => ?_)
  cases d with
  | true => exact ha pins p σ Ha Q n1 Ia qa
  | false => exact hb pins p σ Ha Q n1 Ia qa
theorem en_fld {f : Str} (he : EN n X e ta) (hb : attributeBase e f X.env (eval e X.env) = eval e X.env) : EN n X (.Attribute e f pos) (tFld X.K ta f) := fun pins s σ H Q hn I h => by
  refine attr_of hb (thn (he pins s σ H _ hn I h) fun u p ⟨x, Ha, Ia, rx, q, C, dx, fs, v, ex, ea, k1, k2, k3, qq⟩ => ?_)
  subst ex
  cases (show u = Value.ref q from rx)
  exact getattr_ok Ia ea k1 k2 k3 fun u' p2 I2 ru => ⟨v, Ha, I2, ru, qq⟩
/-! ### arguments, tests -/
theorem an_nil : AN n X [] tNil := .of pa_nil
theorem an_cons (ha : EN n X e te) (hr : AN n X es t) (hs : starEach (e :: es) X.env = (false, eval e X.env) :: starEach es X.env := by rfl) : AN n X (e :: es) (tCons te t) := fun pos pins s σ H Q hn I h => by
  rw [hs]
  show wpAny _ _ (spliced ((false, eval e X.env) :: backTo pos (starEach es X.env))) _ _ s
  refine Calls.spliced_cons (thnN hn (ha pins s σ H _ hn I h) fun u p n1 ⟨x, Ha, Ia, ra, qa⟩ => ?_)
  exact thn (hr pos pins p σ Ha _ n1 Ia qa) fun us p2 ⟨xs, Hb, Ib, rb, qb⟩ => ⟨x :: xs, Hb, Ib, .cons ra rb, qb⟩
theorem tn_val (h : EN n X e te) (he : ∀ whole, isTrue e X.env whole = (do let v ← whole; standAt e.pos; holding [v] (truthy v)) := by intro _; rfl) : TN n X e (tB te) := fun pins s σ H Q hn I hw => by
  refine isTrue_plain (thn (h pins s σ H _ hn I hw) fun v p ⟨x, Ha, Ia, ra, d, ed, q⟩ => ?_) (he _)
  subst ed
  cases ra
  exact wpAny_truthy_bool ⟨Ha, Ia, q⟩
theorem tn_cmpR {op : CmpOp} {r : R2} (ho : OpR X (compareOp op) r) (ha : EN n X a ta) (hb : EN n X b tb) (hm : behindInMarks op b = false) : TN n X (.Compare a [op] [b] pos) (tTest (tOp r ta tb)) := fun pins s σ H Q hn I h => by
  refine wpAny_isTrue_Compare1 (thnN hn (ha pins s σ H _ hn I h) fun v p n1 ⟨x, Ha, Ia, ra, qa⟩ => thn (hb pins p σ Ha _ n1 Ia qa) fun u p2 ⟨y, Hb, Ib, rb, qb⟩ =>
    thn (ho pins p2 σ Hb x y v u _ Ib ra rb qb) fun c p3 ⟨z, Hc, Ic, rc, k, ek, qc⟩ => ?_) hm
  subst ek
  cases rc
  exact wpAny_truthy_bool ⟨Hc, Ic, qc⟩
theorem wn_or1 (ha : TN n X a tA) : WN n X (.BoolOp .Or [a] pos) tA := fun wh pins s σ H Q hn I h => by
  refine isTrue_or (thn (ha pins s σ H Q hn I h) fun c p z => ?_)
  cases c with
  | false => exact isTrue_or_nil z
  | true => exact z
theorem wn_or {rest : List Expr} (ha : TN n X a tA) (hb : WN n X (.BoolOp .Or (b :: rest) pos) tB') : WN n X (.BoolOp .Or (a :: b :: rest) pos) (tOr tA tB') := fun wh pins s σ H Q hn I h => by
  refine isTrue_or (thnN hn (ha pins s σ H _ hn I h) fun c p n1 ⟨Ha, Ia, qa⟩ => ?_)
  cases c with
  | true => exact ⟨Ha, Ia, qa⟩
  | false => exact hb wh pins p σ Ha Q n1 Ia qa
theorem cn_one (h : TN n X c tA) : CN n X [c] tA := fun pins s σ H Q hn I hw => wpAny_tests_one (h pins s σ H Q hn I hw)
/-! ### built-ins called -/
theorem en_callB {x : Str} {p : Pos} {id : String} {r : List V → Hp → VK → Prop} (hc : CallR X (.builtin id) r) (hg : Gl X x) (hm : X.mg x = none) (hv : bootBuiltins x = some (.builtin id)) (ha : AN n X (e :: es) t) (hnn : x ≠ "__name__" := by decide) (hdb : (x == ("__debug__" : Str)) = false := by decide)
    (he : starEach (e :: es) X.env = (false, eval e X.env) :: starEach es X.env := by rfl) (hpl : (backTo pos (starEach es X.env)).any (·.1) = false := by rfl) : EN n X (.Call (.Name x p) (e :: es) [] pos) (tCB r t) := fun pins s σ H Q hn I h =>
  wpAny_Call_Name_kw (ld_blt I hg hm hv (PyProof.Rows.callWith_builtin1 (thn (ha pos pins s σ H _ hn I h) fun us p1 ⟨vs, Ha, Ia, ra, qa⟩ => hc pins p1 σ Ha vs us Q Ia ra qa) he hpl) hnn hdb)
theorem en_callTy {x : Str} {p : Pos} {T : String} {r : List V → Hp → VK → Prop} (hc : CallR X (.type T) r) (hg : Gl X x) (hm : X.mg x = none) (hv : bootBuiltins x = some (.type T)) (ha : AN n X (e :: es) t) (hnn : x ≠ "__name__" := by decide) (hdb : (x == ("__debug__" : Str)) = false := by decide)
    (he : starEach (e :: es) X.env = (false, eval e X.env) :: starEach es X.env := by rfl) (hpl : (backTo pos (starEach es X.env)).any (·.1) = false := by rfl) : EN n X (.Call (.Name x p) (e :: es) [] pos) (tCB r t) := fun pins s σ H Q hn I h =>
  wpAny_Call_Name_kw (ld_blt I hg hm hv (PyProof.Rows.callWith_type1 (thn (ha pos pins s σ H _ hn I h) fun us p1 ⟨vs, Ha, Ia, ra, qa⟩ => hc pins p1 σ Ha vs us Q Ia ra qa) he hpl) hnn hdb)
/-! ### walks -/
theorem gn_tup {tg l : Expr} {tl : TE} (hl : EN n X l tl) : GN n X tg l (iTup X.K tl) := fun pins s σ H R hn I h => by
  refine thn (hl pins s σ H _ hn I h) fun v p ⟨x, Ha, Ia, ra, q, ex, ⟨xs, hq⟩, qa⟩ => ?_
  subst ex
  cases ra
  obtain ⟨its, rv, pl, hz⟩ := Ia.tuple hq
  refine wpAny_pyIter_tuple (show p.heap.IsTuple q its.toArray from pl) ?_
  refine ⟨p.heap.objs.size, [p.heap.objs.size], _, _, Ha, rfl, Ia.kept (t' := p.toks) fun b o k => Heap.get?_push_of_some _ k, turn_tuple q _, ⟨_, Heap.get?_push_size _ rfl, rfl, rfl⟩, fun b hb => ?_, qa⟩
  obtain rfl : b = p.heap.objs.size := by simpa using hb
  exact Ia.fpOk (Nat.le_refl _) (Ia.hok.fresh (Nat.le_refl _))
/-! ### statements -/
theorem sn_ret (he : EN n X e te) : SN n X (.Return (some e) pos) (tRet te) :=
  fun pins s σ H D hn I h => wpAny_Return_some (thn (he pins s σ H _ hn I h) fun v p ⟨x, Ha, Ia, ra, qa⟩ => ⟨x, σ, Ha, Ia, ra, qa⟩)
theorem sn_set {i : Nat} {x : Str} {pos' : Pos} (hN : X.N.Nodup) (hi : X.N[i]? = some x) (hx : Loc X.env.scope x) (he : EN n X e te) (hs : swapsWith e (some (.Name x pos')) pos.line X.env = pure false := by rfl)
    (hf : X.fn x = true ∨ X.env.scope.names.lookup x = some .local := by first | exact .inl rfl | exact .inr rfl | assumption) : SN n X (.Assign [.Name x pos'] e pos) (tAsg te (gName i)) := fun pins s σ H D hn I h =>
  wpAny_Assign_Name (thn (he pins s σ H _ hn I h) fun v p ⟨y, Ha, Ia, ra, qa⟩ => store_ok Ia hN hi hx ra (fun p2 I2 => ⟨_, Ha, I2, qa⟩) hf) hs
theorem sn_fld {f : Str} {pos' : Pos} {value : Expr} {tv : TE} (ha : PE X o ta) (hv : EN n X value tv) (hs : swapsWith value (some (.Attribute o f pos')) pos.line X.env = pure false) : SN n X (.Assign [.Attribute o f pos'] value pos) (sFld X.K ta tv f) := fun pins s σ H D hn I h => by
  refine plainObj_wpAny_Assign_Attribute (thn (hv pins s σ H _ hn I h) fun u p ⟨y, Ha, Ia, ry, q⟩ => thn (ha.run pins p σ Ha _ Ia q) fun ov p2 ⟨x, Hb, Ib, rx, k, C, dx, fs, ex, ea, c1, c2, c3, q2⟩ => ?_) hs
  subst ex
  cases (show ov = Value.ref k from rx)
  exact setattr_ok Ib ea c1 c2 c3 ry fun p3 Ic => ⟨σ, _, Ic, q2⟩
theorem sn_if {u1 u2 : TS} {A1 B1 : List Stmt} (hc : TN n X c tA) (ha : BN n X A1 u1) (hb : BN n X B1 u2) : SN n X (.If c A1 B1 pos) (tIfS tA u1 u2) := fun pins s σ H D hn I h => by
  refine wpAny_If (thnN hn (hc pins s σ H _ hn I h) fun d p n1 ⟨Ha, Ia, qa⟩ => ?_)
  cases d with
  | true => exact ha pins p σ Ha D n1 Ia qa
  | false => exact hb pins p σ Ha D n1 Ia qa
theorem bn_nil : BN n X [] tNext := .of pss_nil
theorem bn_cons {st : Stmt} {rest : List Stmt} {u1 u2 : TS} (h1 : SN n X st u1) (h2 : BN n X rest u2) : BN n X (st :: rest) (tSeq u1 u2) := fun pins s σ H D hn I h => by
  refine wpAny_execs_cons (thnN hn (h1 pins s σ H { D with nx := u2 D } hn I h) fun f p n1 q => ?_)
  cases f with
  | next =>
    obtain ⟨σ', H', I', q⟩ := q
    exact h2 pins p σ' H' D n1 I' q
  | ret v => exact q
  | brk => exact q
  | cont => exact q
theorem bn_one {st : Stmt} {u1 : TS} (h1 : SN n X st u1) : BN n X [st] u1 := fun pins s σ H D hn I h => by
  refine wpAny_execs_cons (thn (h1 pins s σ H D hn I h) fun f p q => ?_)
  cases f with
  | next => exact wpAny_execs_nil q
  | ret v => exact q
  | brk => exact q
  | cont => exact q
/-- a statement, then the rest, what lies between told once -/
theorem bn_cut {st : Stmt} {rest : List Stmt} {u1 u2 : TS} (h1 : SN n X st u1) (h2 : BN n X rest u2) : BN n X (st :: rest) (C8.tCut u1 u2) := fun pins s σ H D hn I ⟨Mid, hm, hu⟩ => by
  refine wpAny_execs_cons (thnN hn (h1 pins s σ H { D with nx := Mid } hn I hm) fun f p n1 q => ?_)
  cases f with
  | next =>
    obtain ⟨σ', H', I', q⟩ := q
    exact h2 pins p σ' H' D n1 I' (hu σ' H' q)
  | ret v => exact q
  | brk => exact q
  | cont => exact q
end
end My
set_option Elab.async false
set_option linter.all false
set_option maxRecDepth 100000
set_option maxHeartbeats 4000000
namespace My
open PySem PySem.Spec PyProof.Rows L2 LamX
section
variable {n : Nat} {X : Cx}
/-- a for whose body wants tokens -/
theorem sn_for {tg iter : Expr} {body : List Stmt} {wi : TI} {g : TG} {tb : TS} {pos : Pos} (hp : PassesOwn (model X.prog X.w) X.A X.env X.xe) (hc : X.calm = true) (hi : GN n X tg iter wi) (hg : PG X tg g) (hb : BN n X body tb)
    (hs : ∀ x, foldedSetIterable iter X.env x = pure x := by intro _; rfl) : SN n X (.For tg iter body [] pos) (tFor wi g tb) := fun pins s σ H D hn I h => by
  refine wpAny_For (thnN hn (hi pins s σ H _ hn I h) fun v p1 n1 k1 => thnN n1 k1 fun itv p2 n2 k2 => ?_) hs
  obtain ⟨it, fp, tn, J, Hb, e, Ib, T, stb, fb, W, ⟨m0, w0⟩, turn⟩ := k2
  subst e
  have stay : ∀ {H' : Hp}, (∀ b ∈ fp, H' b = none) → ∀ b ∈ fp, FpOk X pins H' b := fun z b hb => ⟨z b hb, (fb b hb).2⟩
  refine codeAny_forLoop_any (fun m p => ∃ i σ' H', n ≤ p.toks ∧ Inv X pins σ' H' p ∧ tn i p.heap ∧ (∀ b ∈ fp, H' b = none) ∧ W i m σ' H') ?_ m0 ⟨0, σ, Hb, n2, Ib, stb, fun b hb => (fb b hb).1, w0⟩
  rintro m p3 ⟨i, σ3, Hc, n3, Ic, stc, frc, wc⟩
  rcases turn i m σ3 Hc wc with ⟨stop, qn⟩ | ⟨go, N, hN, step⟩
  · refine wpAny_passesOwn hp (thn (T.done X rfl rfl rfl hc i pins p3 σ3 Hc X.xe Ic (stay frc) stc stop) fun r p4 ⟨hr, Id⟩ => ?_)
    subst hr
    exact wpAny_execs_nil ⟨σ3, Hc, Id, qn⟩
  · refine wpAny_passesOwn hp (thnN n3 (T.item X rfl rfl rfl hc i pins p3 σ3 Hc X.xe Ic (stay frc) stc go) fun r p4 n4 ⟨u, hr, kd⟩ => ?_)
    subst hr
    refine wpAny_passesOwn hp (thnN n4 kd fun _ p5 n5 ⟨x, He, Ie, re, ye, ste, fre⟩ => ?_)
    refine wpAny_passesOwn hp (thnN n5 (hg.run _ p5 σ3 He x u _ (Ie.pinned (stay fre) (T.obj _ _ ste)) re (step x He ye)) fun _ p6 n6 ⟨σ6, Hf, If, qf⟩ => ?_)
    refine wpAny_passesOwn hp (thnN n6 (hb _ p6 σ6 Hf _ n6 If qf) fun f p7 n7 qg => ?_)
    have again : ∀ {σ7 : L2.St} {Hg : Hp}, Inv X (pins ++ pinsAt fp p5.heap) σ7 Hg p7 → N σ7 Hg → ∃ m', m' < m ∧ ∃ i σ' H', n ≤ p7.toks ∧ Inv X pins σ' H' p7 ∧ tn i p7.heap ∧ (∀ b ∈ fp, H' b = none) ∧ W i m' σ' H' := fun {σ7 Hg} Ig ng => by
      obtain ⟨m', hm, wg⟩ := hN σ7 Hg ng
      have at5 : ∀ b ∈ fp, ∀ o, p5.heap.get? b = some o → p7.heap.get? b = some o ∧ Hg b = none := fun b hb o k =>
        have z := Ig.pin (b, o) (List.mem_append_right _ (List.mem_append_right _ (mem_pinsAt hb k)))
        ⟨z.1, z.2.1⟩
      refine ⟨m', hm, i + 1, σ7, Hg, n7, Ig.unpinned, T.keep _ _ _ ste fun b hb o k => (at5 b hb o k).1, fun b hb => ?_, wg⟩
      obtain ⟨o, k, _⟩ := T.obj _ _ ste b hb
      exact (at5 b hb o k).2
    cases f with
    | next => obtain ⟨σ7, Hg, Ig, ng⟩ := qg; exact again Ig ng
    | cont => obtain ⟨σ7, Hg, Ig, ng⟩ := qg; exact again Ig ng
    | brk => obtain ⟨σ7, Hg, Ig, ng⟩ := qg; exact ⟨σ7, Hg, Ig.unpinned, ng⟩
    | ret v => obtain ⟨x7, σ7, Hg, Ig, rg, ng⟩ := qg; exact ⟨x7, σ7, Hg, Ig.unpinned, rg, ng⟩
/-- a list comprehension as a value, any part of which may want tokens -/
theorem en_lc {elt tg iter : Expr} {ifs : List Expr} {scope : Scope} {own : List (Str × Nat)} {pos : Pos} {wi : TI} {g : TG} {tt : TT} {te : TE} (hc : X.calm = true) (hN : X.N.Nodup) (hi : GN n X tg iter wi) (ok : BlkOk X.N X.env.scope scope own)
    (hg : ∀ (s : Shared) (H : Hp) (C : Addr) (cl : List (Str × Addr)) (fp : List Addr), PG (X.blk s H scope (compEnvC scope cl C X.env) fp) tg g) (ht : ∀ (s : Shared) (H : Hp) (C : Addr) (cl : List (Str × Addr)) (fp : List Addr), CN n (X.blk s H scope (compEnvC scope cl C X.env) fp) ifs tt)
    (he : ∀ (s : Shared) (H : Hp) (C : Addr) (cl : List (Str × Addr)) (fp : List Addr), EN n (X.blk s H scope (compEnvC scope cl C X.env) fp) elt te) (hs : ∀ x, foldedSetIterable iter X.env x = pure x := by intro _; rfl) :
    EN n X (.ListComp elt [⟨tg, iter, ifs, 0⟩] scope pos) (tLc wi g tt te (own.map (·.2))) := fun pins s σ H Q hn I h => by
  rw [eval_ListComp]
  have hfree : ∀ y ∈ scope.names, y.2 = .free → ∃ c, X.env.cells.lookup y.1 = some c := fun y hy e =>
    (ok.free y hy e).elim (fun k => I.ok.has _ (.inl k)) fun k => I.ok.has _ (.inr k)
  refine wpAny_comprehension_free (use := none) rfl hs (closure_ok hfree) ok.kind (fun y hy e => by rw [ok.uniq y hy, e])
    (thnN hn (hi pins s σ H _ hn I h) fun xv p1 n1 k1 => thnN n1 k1 fun itv p2 n2 k2 => ?_)
  obtain ⟨it, fp, tn, J, Hb, e, Ib, T, stb, fb, q⟩ := k2
  subst e
  refine wpAny_newObj_type (newEnv_comp ?_) (by show 0 ≤ sizeLine; decide)
  generalize hD : p2.heap.objs.size = D
  have fresh : Hb D = none := Ib.hok.fresh (Nat.le_of_eq hD)
  obtain ⟨W, ⟨m0, w0⟩, turn⟩ := q D fresh
  generalize e3 : ({ p2 with heap := p2.heap.push { cls := .type "list", data := .seq ([] : List Value).toArray } } : Shared) = p3
  have n3 : n ≤ p3.toks := by rw [← e3]; exact n2
  have h3 : p3.heap = p2.heap.push { cls := .type "list", data := .seq ([] : List Value).toArray } := by rw [← e3]
  have Ic : Inv X pins σ (upd Hb D (.lst [])) p3 := by
    rw [← e3]
    refine Ib.laid (t' := p2.toks) (fun b o k => Heap.get?_push_of_some _ k) (Nat.le_of_eq hD) ⟨Nat.zero_le _, [], 0, .nil, ?_⟩
    rw [← hD]
    exact Heap.get?_push_size _ rfl
  have below : ∀ b ∈ fp, b < p2.heap.objs.size := fun b hb => by
    obtain ⟨o, k, _⟩ := T.obj _ _ stb b hb
    exact Heap.lt_size k
  have fc : ∀ b ∈ fp, FpOk X pins (upd Hb D (.lst [])) b ∧ b < p3.heap.objs.size := fun b hb => by
    have lt := below b hb
    refine ⟨⟨?_, (fb b hb).2⟩, by rw [h3, Heap.size_push]; exact Nat.lt_succ_of_lt lt⟩
    rw [upd_ne (by rw [← hD]; exact Nat.ne_of_lt lt)]
    exact (fb b hb).1
  have stc : tn 0 p3.heap := T.keep _ _ _ stb fun b _ o k => by rw [h3]; exact Heap.get?_push_of_some _ k
  have Id := block_start Ic ok hN fc
  have pg := hg p3 (upd Hb D (.lst [])) p3.heap.objs.size (cellsFrom (p3.heap.objs.size + 1) scope.names (cloFrom X.env.cells scope.names [])) fp
  have pt := ht p3 (upd Hb D (.lst [])) p3.heap.objs.size (cellsFrom (p3.heap.objs.size + 1) scope.names (cloFrom X.env.cells scope.names [])) fp
  have pe := he p3 (upd Hb D (.lst [])) p3.heap.objs.size (cellsFrom (p3.heap.objs.size + 1) scope.names (cloFrom X.env.cells scope.names [])) fp
  have nfp : ∀ b ∈ fp, (upd Hb D (.lst [])) b = none := fun b hb => (fc b hb).1.1
  show codeAny _ _ (.compStart (.ListComp elt [⟨tg, iter, ifs, 0⟩] scope pos) 0 (.ref it) (.ref D) (compEnvC scope (cellsFrom (p3.heap.objs.size + 1) scope.names (cloFrom X.env.cells scope.names [])) p3.heap.objs.size X.env)) (compPost (model X.prog X.w) X.A X.xe none (EP X pins σ Q) (.ref D) p3.heap.objs.size) { p3 with heap := pushCells (p3.heap.push { cls := .type "dict", data := .dict #[] }) scope.names }
  generalize hce : compEnvC scope (cellsFrom (p3.heap.objs.size + 1) scope.names (cloFrom X.env.cells scope.names [])) p3.heap.objs.size X.env = ce at Id pg pt pe ⊢
  have cL : ce.locals = p3.heap.objs.size := by subst hce; rfl
  generalize eH : upd Hb D (.lst []) = Hc at Ic Id pg pt pe w0 nfp fc
  generalize e4 : ({ p3 with heap := pushCells (p3.heap.push { cls := .type "dict", data := .dict #[] }) scope.names } : Shared) = p4 at Id ⊢
  have n4 : n ≤ p4.toks := by rw [← e4]; exact n3
  have std : tn 0 p4.heap := T.keep _ _ _ stc fun b _ o k => by rw [← e4]; exact pushCells_keeps _ _ _ _ (Heap.get?_push_of_some _ k)
  have stay : ∀ {σ' : L2.St} {H' : Hp} {s' : Shared}, Inv (X.blk p3 Hc scope ce fp) [] σ' H' s' → (∀ b ∈ fp, H' b = none) → ∀ b ∈ fp, FpOk (X.blk p3 Hc scope ce fp) [] H' b := fun {σ' H' s'} J' z b hb =>
    ⟨z b hb, (J'.ok.exf b hb).1, J'.ok.exfs b hb, .inl hb, fun x c k => (J'.ok.exf b hb).2 x c k, fun p hp => absurd (show p ∈ ([] : List (Addr × Obj)) ++ [] from hp) (by simp)⟩
  have loop : codeAny (model X.prog X.w) X.A (.compLoop (.ListComp elt [⟨tg, iter, ifs, 0⟩] scope pos) 0 (.ref it) (.ref D) ce) (compPost (model X.prog X.w) X.A X.xe none (EP X pins σ Q) (.ref D) p3.heap.objs.size) p4 := by
    refine compLoop_any (fun m p => ∃ i H', n ≤ p.toks ∧ Inv (X.blk p3 Hc scope ce fp) [] (wipe σ (own.map (·.2))) H' p ∧ tn i p.heap ∧ (∀ b ∈ fp, H' b = none) ∧ W i m H') ?_ m0 ⟨0, Hc, n4, Id, std, nfp, w0⟩
    rintro m p5 ⟨i, He, n5, Ie, ste, ze, we⟩
    rcases turn i m He we with ⟨stop, qq⟩ | ⟨go, Nx, hNx, step⟩
    · have td := T.done (X.blk p3 Hc scope ce fp) rfl rfl rfl hc i [] p5 _ He (fun _ _ => False) Ie (stay Ie ze) ste stop
      refine thnF td fun r p6 ⟨hr, If⟩ => ?_
      subst hr
      have Ig : Inv X pins σ He p6 := Ic.call' (ch := fp) If.os If.base If.hok If.bare fun b hb => ⟨(fc b hb).1.2.2.2.1, (fc b hb).1.2.1, (fc b hb).1.2.2.2.2.1, (fc b hb).1.2.2.2.2.2⟩
      have zC : He p3.heap.objs.size = none := by
        have z : He ce.locals = none := If.free
        rwa [cL] at z
      obtain ⟨md, hm, _⟩ := If.loc
      have hm : p6.heap.Ns ce.locals md := hm
      rw [cL] at hm
      obtain ⟨f0, f1, f2, f3, f4, f5⟩ := Ic.fpOk (H' := He) (Nat.le_refl _) zC
      exact ⟨md, hm, fun h'' sb => ⟨.ref D, He, Ig.turned (t' := p6.toks) (fun b o hb k => (sb.2 b hb).trans k) f0 f1 f3 f4 f5, rfl, qq⟩⟩
    · have ti := T.item (X.blk p3 Hc scope ce fp) rfl rfl rfl hc i [] p5 _ He (fun _ _ => False) Ie (stay Ie ze) ste go
      refine thnNF n5 ti fun r p6 n6 ⟨u, hr, k6⟩ => ?_
      subst hr
      refine thnNF n6 k6 fun _ p7 n7 ⟨x, Hg, Ig, rg, yg, stg, zg⟩ => ?_
      refine thnNF n7 (pg.run _ p7 _ Hg x u _ (Ig.pinned (stay Ig zg) (T.obj _ _ stg)) rg (step x Hg yg)) fun _ p8 n8 ⟨σ8, Hh, Ih, hw8, q8⟩ => ?_
      refine thnNF n8 (pt _ p8 σ8 Hh _ n8 Ih q8) fun b p9 n9 ⟨Hi, Ii, q9⟩ => ?_
      have fin : ∀ {p' : Shared} {H' : Hp}, n ≤ p'.toks → Inv (X.blk p3 Hc scope ce fp) ([] ++ pinsAt fp p7.heap) σ8 H' p' → Nx H' → ∃ m', m' < m ∧ ∃ i H', n ≤ p'.toks ∧ Inv (X.blk p3 Hc scope ce fp) [] (wipe σ (own.map (·.2))) H' p' ∧ tn i p'.heap ∧ (∀ b ∈ fp, H' b = none) ∧ W i m' H' := fun {p' H'} n' J' nx => by
        obtain ⟨m', hm, w'⟩ := hNx H' nx
        have at7 : ∀ b ∈ fp, ∀ o, p7.heap.get? b = some o → p'.heap.get? b = some o ∧ H' b = none := fun b hb o k =>
          have z := J'.pin (b, o) (List.mem_append_right _ (List.mem_append_right _ (mem_pinsAt hb k)))
          ⟨z.1, z.2.1⟩
        have hl : (wipe σ (own.map (·.2))).length = σ8.length := by rw [← hw8, wipe_length]
        refine ⟨m', hm, i + 1, H', n', (J'.unpinned (pins := [])).weak hl (fun j v k => (wipe_some (hw8 ▸ k)).1), T.keep _ _ _ stg fun b hb o k => (at7 b hb o k).1, fun b hb => ?_, w'⟩
        obtain ⟨o, k, _⟩ := T.obj _ _ stg b hb
        exact (at7 b hb o k).2
      cases b with
      | false =>
        rw [if_neg Bool.false_ne_true] at q9 ⊢
        exact fin n9 Ii q9
      | true =>
        rw [if_pos rfl] at q9 ⊢
        refine thnNF n9 (pe _ p9 σ8 Hi _ n9 Ii q9) fun z p10 n10 ⟨yv, Hj, Ij, rj, acc, eD, sz, nx⟩ => ?_
        refine thnN n10 (app_ok (X := X.blk p3 Hc scope ce fp) (Q := fun v s' => v = .none ∧ Inv (X.blk p3 Hc scope ce fp) ([] ++ pinsAt fp p7.heap) σ8 (upd Hj D (.lst (acc ++ [yv]))) s') Ij eD sz rj fun s11 I11 => ⟨rfl, I11⟩) fun v11 p11 n11 ⟨_, I11⟩ => ?_
        exact fin n11 I11 nx
  exact codeAny_compStart_list loop (T.self X.A 0 _ _ _ std loop)
end
end My
set_option Elab.async false
set_option linter.all false
set_option maxRecDepth 100000
set_option maxHeartbeats 4000000
namespace My
open PySem PySem.Spec PyProof.Rows L2 LamX
theorem en_dzip {n : Nat} {X : Cx} {e e2 : Expr} {ta : TA} {p p2 pos pos2 : Pos} (hc : X.calm = true) (hgd : Gl X "dict") (hmd : X.mg "dict" = none) (hg : Gl X "zip") (hm : X.mg "zip" = none) (ha : AN n X [e, e2] ta)
    (hs : starEach [e, e2] X.env = (false, eval e X.env) :: starEach [e2] X.env := by rfl) (hpl : (backTo pos2 (starEach [e2] X.env)).any (·.1) = false := by rfl)
    (na : starEach [.Call (.Name "zip" p2) [e, e2] [] pos2] X.env = (false, eval (.Call (.Name "zip" p2) [e, e2] [] pos2) X.env) :: starEach [] X.env := by rfl) :
    EN n X (.Call (.Name "dict" p) [.Call (.Name "zip" p2) [e, e2] [] pos2] [] pos) (tDZip X.K ta) := fun pins s σ H Q hn I h => by
  refine Call_ (ld_blt I hgd hmd boot_dict ?_)
  refine PyProof.Rows.callWith_type1 (PyProof.Rows.args_cons ?_ na) na rfl
  refine Call_ (ld_blt I hg hm PyProof.Rows.boot_zip (PyProof.Rows.callWith_type1 (thn (ha pos2 pins s σ H _ hn I h) fun us s1 ⟨vs, H1, I1, r1, q1⟩ => ?_) hs hpl))
  obtain ⟨a, b, ks, ys, ex, hq, hlen, q⟩ := q1
  subst ex
  obtain ⟨v1, v2, rfl, r, r'⟩ := vals2 r1
  cases r
  cases r'
  have done : ∀ {fp1 fp2 : List Addr} {St1 St2 : Nat → Heap → Prop} {its1 its2 : List Value} {h' : Heap}, Vals (ks.map V.str) its1 → Vals ys its2 → its1.length ≤ sizeLine →
      (∀ A : Around, A.handled = none → Draws X.prog X.w A s1.heap.objs.size (s1.heap.objs.size :: fp1) its1.toArray.size (fun i v => its1.toArray[i]? = some v) St1) →
      (∀ A : Around, A.handled = none → Draws X.prog X.w A (s1.heap.objs.size + 1) ((s1.heap.objs.size + 1) :: fp2) its2.toArray.size (fun i v => its2.toArray[i]? = some v) St2) →
      (∀ i h, St1 i h → ∀ b ∈ (s1.heap.objs.size :: fp1), ∃ o, h.get? b = some o) → (∀ i h, St2 i h → ∀ b ∈ ((s1.heap.objs.size + 1) :: fp2), ∃ o, h.get? b = some o) → (∀ b ∈ fp1, b < s1.heap.objs.size) → (∀ b ∈ fp2, b < s1.heap.objs.size) →
      IsZip h' (s1.heap.objs.size + 4) (s1.heap.objs.size + 2) (s1.heap.objs.size + 3) .none → IsTupOf2 h' (s1.heap.objs.size + 2) (.ref s1.heap.objs.size) (.ref (s1.heap.objs.size + 1)) →
      IsTupOf2 h' (s1.heap.objs.size + 3) .none .none → St1 0 h' → St2 0 h' → (∀ c o, s1.heap.get? c = some o → h'.get? c = some o) →
      wpAny (model X.prog X.w) X.A (spliced (backTo pos (starEach [] X.env))) (fun vs s₂ => wpAny (model X.prog X.w) X.A (call (.type "dict") (Value.ref (s1.heap.objs.size + 4) :: vs)) (EP X pins σ Q) X.xe s₂) X.xe { s1 with heap := h' } := by
    intro fp1 fp2 St1 St2 its1 its2 h' rv1 rv2 hsz D1 D2 L1 L2 lt1 lt2 hz hTI hTO st1 st2 hk
    refine PyProof.Rows.args_nil ?_
    have P := pairZip (zip_sep2 (N := s1.heap.objs.size) lt1 lt2) D1 D2 L1 L2
    have e1 := rv1.length
    have e2 := rv2.length
    rw [List.length_map] at e1
    have hn : min its1.toArray.size its2.toArray.size = ((ks.map (Sum.inr : Str → Key)).zip its2).length := by
      simp only [List.size_toArray, List.length_zip, List.length_map]
      omega
    refine call_dict_pairs (knd := mixKind X.prog X.w) (kvs := (ks.map Sum.inr).zip its2) (s := { s1 with heap := h' }) P (I1.ok.hd hc) ⟨hz, hTI, ⟨_, _, hTO⟩, st1, st2⟩ ⟨hn.symm, fun i key v ⟨h1, h2⟩ => ?_⟩ ?_ fun h2 tk hd hk2 => ?_
    · have h1' : its1[i]? = some key := by simpa using h1
      have h2' : its2[i]? = some v := by simpa using h2
      have hi : i < ks.length := by
        have := (List.getElem?_eq_some_iff.mp h1').1
        omega
      obtain ⟨u, eu, t, ru⟩ := rv1.get (i := i) (x := .str ks[i]) (by simp [hi])
      rw [h1'] at eu
      cases eu
      refine ⟨.inr ks[i], ?_, ?_⟩
      · rw [List.getElem?_zip_eq_some]
        exact ⟨by simp [hi], h2'⟩
      · rw [ru]
        exact mixKind_str X.prog X.w ks[i] t
    · refine Nat.le_trans (Nat.min_le_left ..) ?_
      simpa using hsz
    · have hne : (h'.objs.size == sysModules) = false := beq_eq_false_iff_ne.mpr (Nat.ne_of_gt (Nat.lt_of_lt_of_le (show sysModules < s1.heap.objs.size from I1.big) (Nat.le_of_lt (Nat.lt_of_le_of_lt (Nat.le_add_right _ 4) (Heap.lt_size hz)))))
      have kk : ∀ b o, s1.heap.get? b = some o → h2.get? b = some o := fun b o e => by
        refine hk2 b o (fun hm => ?_) (hk b o e)
        have hb := Heap.lt_size e
        simp only [List.mem_cons, List.not_mem_nil, or_false] at hm
        rcases hm with z | z | z | z
        · rw [z] at hb; exact absurd hb (Nat.not_lt.mpr (Nat.le_add_right _ _))
        · rw [z] at hb; exact absurd hb (Nat.not_lt.mpr (Nat.le_add_right _ _))
        · rw [z] at hb; exact absurd hb (Nat.lt_irrefl _)
        · rw [z] at hb; exact absurd hb (Nat.not_lt.mpr (Nat.le_add_right _ _))
      have rel : KV (keysOf ks ys) ((ks.map Sum.inr).zip its2) := keys_kv (P := X.prog) (w := X.w) rv1 rv2
      have hl2 : (mergeK [] (keysOf ks ys)).length ≤ sizeLine := by
        refine Nat.le_trans (length_mergeK _ []) ?_
        unfold keysOf
        rw [List.length_nil, Nat.zero_add, List.length_zip, List.length_map]
        omega
      have big : s1.heap.objs.size ≤ h'.objs.size := Nat.le_of_lt (Nat.lt_of_le_of_lt (Nat.le_add_right _ 4) (Heap.lt_size hz))
      exact ⟨.ref h'.objs.size, upd H1 h'.objs.size (.dK (mergeK [] (keysOf ks ys))), I1.laid (t' := tk) kk big (show ObjOk X.prog X.w _ _ _ (.dK _) from ⟨hl2, hne, merged [] ((ks.map Sum.inr).zip its2), KV.merge rel .nil, hd⟩), rfl, q _ (I1.hok.fresh big)⟩
  rcases hq with ⟨ha1, hb1⟩ | ⟨ha1, hb1⟩
  · obtain ⟨its1, rv1, p1, z1⟩ := I1.tuple ha1
    obtain ⟨its2, rv2, p2, _⟩ := I1.tuple hb1
    have p1' : s1.heap.IsTuple a its1.toArray := p1
    have p2' : s1.heap.IsTuple b its2.toArray := p2
    obtain ⟨o1, g1, _⟩ := id p1'
    obtain ⟨o2, g2, _⟩ := id p2'
    have la := Heap.lt_size g1
    have lb := Heap.lt_size g2
    refine zip_begins2 (begins_tuple a its1.toArray) (begins_tuple b its2.toArray) p1' p2' fun h' hz hTI hTO h1 h2 hsz hk => ?_
    refine done (fp1 := [a]) (fp2 := [b]) rv1 rv2 (by rw [← rv1.length]; exact z1) (fun A hA => Draws.tuple hA _ a (Nat.ne_of_lt la) its1.toArray) (fun A hA => Draws.tuple hA _ b (Nat.ne_of_lt (Nat.lt_succ_of_lt lb)) its2.toArray) (fun i h st c hc => ?_) (fun i h st c hc => ?_)
      (fun c hc => by rw [List.mem_singleton.mp hc]; exact la) (fun c hc => by rw [List.mem_singleton.mp hc]; exact lb) hz hTI hTO ⟨⟨_, h1, rfl, rfl⟩, p1'.at fun o e => hk a o e⟩ ⟨⟨_, h2, rfl, rfl⟩, p2'.at fun o e => hk b o e⟩ hk
    · obtain ⟨⟨o, e, _⟩, ⟨o', e', _⟩⟩ := st
      simp only [List.mem_cons, List.not_mem_nil, or_false] at hc
      rcases hc with z | z
      · rw [z]; exact ⟨o, e⟩
      · rw [z]; exact ⟨o', e'⟩
    · obtain ⟨⟨o, e, _⟩, ⟨o', e', _⟩⟩ := st
      simp only [List.mem_cons, List.not_mem_nil, or_false] at hc
      rcases hc with z | z
      · rw [z]; exact ⟨o, e⟩
      · rw [z]; exact ⟨o', e'⟩
  · obtain ⟨its1, rv1, p1, z1⟩ := I1.list ha1
    obtain ⟨its2, rv2, p2, _⟩ := I1.list hb1
    have la := p1.lt
    have lb := p2.lt
    refine zip_begins2 (begins_list a its1.toArray) (begins_list b its2.toArray) p1.isList p2.isList fun h' hz hTI hTO h1 h2 hsz hk => ?_
    refine done (fp1 := [a]) (fp2 := [b]) rv1 rv2 (by rw [← rv1.length]; exact z1) (fun A hA => Draws.list hA _ a (Nat.ne_of_lt la) its1.toArray) (fun A hA => Draws.list hA _ b (Nat.ne_of_lt (Nat.lt_succ_of_lt lb)) its2.toArray) (fun i h st c hc => ?_) (fun i h st c hc => ?_)
      (fun c hc => by rw [List.mem_singleton.mp hc]; exact la) (fun c hc => by rw [List.mem_singleton.mp hc]; exact lb) hz hTI hTO ⟨⟨_, h1, rfl, rfl⟩, p1.isList.at fun o e => hk a o e⟩ ⟨⟨_, h2, rfl, rfl⟩, p2.isList.at fun o e => hk b o e⟩ hk
    · obtain ⟨⟨o, e, _⟩, ⟨o', e', _⟩⟩ := st
      simp only [List.mem_cons, List.not_mem_nil, or_false] at hc
      rcases hc with z | z
      · rw [z]; exact ⟨o, e⟩
      · rw [z]; exact ⟨o', e'⟩
    · obtain ⟨⟨o, e, _⟩, ⟨o', e', _⟩⟩ := st
      simp only [List.mem_cons, List.not_mem_nil, or_false] at hc
      rcases hc with z | z
      · rw [z]; exact ⟨o, e⟩
      · rw [z]; exact ⟨o', e'⟩

section
variable {n : Nat} {X : Cx} {o e : Expr} {es : List Expr} {to te : TE} {t : TA} {pos : Pos}
/-! ### str.replace -/
def tRplG (to : TE) (y z : Str) : TE := fun σ H Q => to σ H fun v Ha => ∃ x, v = .str x ∧ x.length + (x.length + 1) * z.length ≤ 16777216 ∧ Q (.str (Txt.replace x y z)) Ha
/-- o.replace(NAME, '..'), NAME a text of the module whose token was out before n -/
theorem en_replG {x : Str} {y z : Str} {tk : Tok} {k : Nat} {c0 c1 apos : Pos} (ho : EN n X o to) (hg : Gl X x) (hm : X.mg x = some (.str y tk)) (h0 : tk ≠ 0) (hlt : tk < n) (hyz : (y == z) = false := by decide) (hdb : (x == ("__debug__" : Str)) = false := by decide)
    (hst : starEach [.Name x c0, .Constant (.str z) k c1] X.env = [(false, eval (.Name x c0) X.env), (false, eval (.Constant (.str z) k c1) X.env)] := by rfl)
    (hbase : attributeBase o "replace" X.env (eval o X.env) = eval o X.env := by rfl) (hline : (apos.endLine == pos.line) = true := by rfl) :
    EN n X (.Call (.Attribute o "replace" apos) [.Name x c0, .Constant (.str z) k c1] [] pos) (tRplG to y z) := fun pins s σ H Q hn I h => by
  refine PySem.Call_method2 hbase hst hline (thnN hn (ho pins s σ H _ hn I h) fun v p n1 ⟨v', Ha, Ia, ra, x1, ex, hb, q⟩ => ?_)
  subst ex
  obtain ⟨tx, rfl⟩ := ra
  refine ⟨"str", _, PySem.F.plainAttrs_str, PySem.F.slot_str_replace, PySem.F.type_str_replace, typeIs_str _ _ _, (fun _ e => nomatch e), Calls.callWith_builtin rfl (Calls.evalArgs_plain (Calls.spliced_cons ?_))⟩
  refine ld_glob Ia hg hm ?_ hdb
  refine Calls.spliced_cons (Calls.Constant_str (Calls.spliced_nil ?_))
  exact PySem.SC.replace h0 (Nat.ne_of_gt (Nat.lt_of_lt_of_le (Nat.zero_lt_of_lt hlt) n1)) (Nat.ne_of_lt (Nat.lt_of_lt_of_le hlt n1)) hyz hb fun t' k => ⟨.str (Txt.replace x1 y z), Ha, Ia.tok k, ⟨t', rfl⟩, q⟩
/-- o.replace('..', '..') -/
theorem en_replL {y z : Str} {j k : Nat} {c0 c1 apos : Pos} (ho : EN n X o to) (h1 : 1 ≤ n) (hyz : (y == z) = false := by decide)
    (hst : starEach [.Constant (.str y) j c0, .Constant (.str z) k c1] X.env = [(false, eval (.Constant (.str y) j c0) X.env), (false, eval (.Constant (.str z) k c1) X.env)] := by rfl)
    (hbase : attributeBase o "replace" X.env (eval o X.env) = eval o X.env := by rfl) (hline : (apos.endLine == pos.line) = true := by rfl) :
    EN n X (.Call (.Attribute o "replace" apos) [.Constant (.str y) j c0, .Constant (.str z) k c1] [] pos) (tRplG to y z) := fun pins s σ H Q hn I h => by
  refine PySem.Call_method2 hbase hst hline (thnN hn (ho pins s σ H _ hn I h) fun v p n1 ⟨v', Ha, Ia, ra, x1, ex, hb, q⟩ => ?_)
  subst ex
  obtain ⟨tx, rfl⟩ := ra
  refine ⟨"str", _, PySem.F.plainAttrs_str, PySem.F.slot_str_replace, PySem.F.type_str_replace, typeIs_str _ _ _, (fun _ e => nomatch e), Calls.callWith_builtin rfl (Calls.evalArgs_plain (Calls.spliced_cons ?_))⟩
  refine Calls.Constant_str (Calls.spliced_cons (Calls.Constant_str (Calls.spliced_nil ?_)))
  exact PySem.SC.replace (Nat.ne_of_gt (Nat.lt_of_lt_of_le h1 n1)) (Nat.succ_ne_zero _) (Nat.ne_of_lt (Nat.lt_succ_self _)) hyz hb fun t' k => ⟨.str (Txt.replace x1 y z), Ha, Ia.tok k, ⟨t', rfl⟩, q⟩
/-! ### a, b = e1, e2 -/
theorem sn_par {i j : Nat} {x y : Str} {a b : Expr} {ta : TA} {px py pt : Pos} {kt k2 pt2} (hc : X.calm = true) (hN : X.N.Nodup) (hi : X.N[i]? = some x) (hj : X.N[j]? = some y) (hij : i ≠ j)
    (hx : X.env.scope.names.lookup x = some .local) (hy : X.env.scope.names.lookup y = some .local) (ha : AN n X [a, b] ta)
    (hw : swappedStores [.Tuple [.Name x px, .Name y py] kt pt] (.Tuple [a, b] k2 pt2) X.env = pure (some [x, y]))
    (hs : swapsWithSole [.Tuple [.Name x px, .Name y py] kt pt] (.Tuple [a, b] k2 pt2) pos.line X.env = pure false := by rfl) :
    SN n X (.Assign [.Tuple [.Name x px, .Name y py] kt pt] (.Tuple [a, b] k2 pt2) pos) (tPar i j ta) := fun pins s σ H D hn I h => by
  rw [exec_Assign_arm]
  refine wpAny_bind (wpAny_standAt ?_)
  rw [hs]
  refine wpAny_bind (wpAny_pure ?_)
  rw [if_neg Bool.false_ne_true]
  refine wpAny_bind (Tuple_ (thn (ha _ pins s σ H _ hn I h) fun us p ⟨vs, Ha, Ia, ra, v, w, ev, q⟩ => ?_))
  subst ev
  obtain ⟨u1, u2, rfl, rv, rw1⟩ := vals2 ra
  refine wpAny_newObj_type ?_ (by show 2 ≤ sizeLine; decide)
  have Ib : Inv X pins σ Ha { p with heap := p.heap.push { cls := .type "tuple", data := .seq [u1, u2].toArray } } := Ia.kept (t' := p.toks) fun b o k => Heap.get?_push_of_some _ k
  rw [hw]
  refine wpAny_bind (wpAny_pure ?_)
  show wpAny (model X.prog X.w) X.A (do rule "assign.swapped-stores"; let items ← unpackItems (.ref p.heap.objs.size) 2 none; assignInOrder [fun v => bindName X.env y v, fun v => bindName X.env x v] items.reverse; pure Flow.next) _ _ _
  refine wpAny_bind (wpAny_rule (wpAny_bind (unpackItems_tuple (items := #[u1, u2]) (Ia.ok.hd hc) (IsTup.new p.heap _) fun h' kx => ?_)))
  have Ic := Ib.kept (h' := h') (t' := p.toks) fun b o k => kx b o (Nat.ne_of_lt (Heap.lt_size k)) k
  show wpAny _ _ (assignInOrder [fun v => bindName X.env y v, fun v => bindName X.env x v] [u2, u1] >>= fun _ => pure Flow.next) _ _ _
  refine wpAny_bind (assignInOrder_cons (wpAny_bindName (store_ok Ic hN hj (.inl hy) rw1 (fun p2 Id => ?_) (.inr hy))))
  refine assignInOrder_cons (wpAny_bindName (store_ok Id hN hi (.inl hx) rv (fun p3 Ie => assignInOrder_nil (wpAny_pure ?_)) (.inr hx)))
  rw [List.set_comm _ _ (Ne.symm hij)] at Ie
  exact ⟨_, Ha, Ie, q⟩
end
/-! ### defs whose calls want tokens -/
structure FnN (n : Nat) (P : Program) (w : World) (K : PySem.W.Frag) (mg : Str → Option Value) (base : Heap) (k : Nat) (f : Addr) (fd : FuncData) (ps : List Str) (sp : Sp) : Prop where
  len : ∀ vs H Q E, sp vs H Q E → vs.length = ps.length
  run : ∀ (A : Around) (outer : List Env) (s : Shared) (H : Hp) (args : Args) (us : List Value) (vs : List V) (Q : VK) (E : XK), n ≤ s.toks → Room k A → Env0 P w K mg base A outer s H → BindsTo s fd args (ps.zip us) → Vals vs us → sp vs H Q E →
    codeAny (model P w) A (.call (.ref f) args) (CR C8.CX0 outer P w H s Q E) s
section
variable {n : Nat} {P : Program} {w : World} {K : PySem.W.Frag} {mg : Str → Option Value} {base : Heap}
theorem FnN.of {k : Nat} {f : Addr} {fd : FuncData} {ps : List Str} {sp : Sp} (F : FnOk P w K mg base C8.CX0 k f fd ps sp) : FnN n P w K mg base k f fd ps sp := ⟨F.len, fun A outer s H args us vs Q E _ => F.run A outer s H args us vs Q E⟩
/-- one run of a def's body, the around told -/
theorem run_ofN {k : Nat} {f : Addr} {name qual : Str} {params : Arguments} {body : List Stmt} {scope : Scope} {dV kV doc pm cdv ct oc : Value} {an od : Option Addr} {osl : Array (Option Value)} {N ps : List Str}
    {A : Around} {outer : List Env} {s : Shared} {H : Hp} {args : Args} {us : List Value} {vs : List V} {Q : VK} {E : XK}
    (lk : K.lookup f = some ⟨oc, od, .func (PySem.W.fnOf name qual params body scope dV kV doc pm an cdv ct), osl⟩) (hcd : PySem.W.codeIn K cdv qual = true) (S : FnScope N ps scope) (hl : vs.length = ps.length)
    (hn : n ≤ s.toks) (hr : Room (k + 1) A) (e0 : Env0 P w K mg base A outer s H) (hb : BindsTo s (PySem.W.fnOf name qual params body scope dV kV doc pm an cdv ct) args (ps.zip us)) (r : Vals vs us)
    (hbody : Room k (A.deeper (envOfC qual scope s.heap.objs.size f cdv)) →
      ∃ t, BN n (cxOf C8.CX0 P w K mg base N qual scope f cdv A outer s H E).nox body t ∧ t { nx := fun _ H' => Q .non H', rt := Q } (start N vs) H) :
    codeAny (model P w) A (.call (.ref f) args) (CR C8.CX0 outer P w H s Q E) s := by
  have KX : K.In s.heap := e0.mod.kin.keeps fun b o e => (e0.bs b o e).1
  have lim : s.heap.NoLimit := e0.mod.nolimit.keeps fun b o e => (e0.bs b o e).1
  have hkind : ∀ y ∈ ps.zip us, scope.names.lookup y.1 = some .local ∨ (scope.names.lookup y.1 = some .cell ∧ ((cellsFrom (s.heap.objs.size + 1) scope.names []).lookup y.1).isSome = true) := fun y hy =>
    (S.par y.1 (List.of_mem_zip (a := y.1) (b := y.2) hy).1).elim .inl fun q => .inr ⟨q, PySem.W.cellsFrom_some _ _ _ (.inl q)⟩
  refine codeAny_call_function hr.depth (KX _ _ lk) rfl S.co S.gen rfl (PySem.W.codeRec_of KX hcd) (hb _ _ _ _ ?_)
  refine thnN hn (wpAny_newFunctionEnv_cells (Q := fun env p => env = envOfC qual scope s.heap.objs.size f cdv ∧ InCallC s s.heap.objs.size (bindL (envOfC qual scope s.heap.objs.size f cdv).kindOf (ps.zip us) fun _ => none) (cellsFrom (s.heap.objs.size + 1) scope.names []) (bindC (envOfC qual scope s.heap.objs.size f cdv).kindOf (ps.zip us) fun _ => none) p) S.kind hkind fun env he p x => ⟨he, by subst he; exact x⟩) fun env p n1 ⟨he, x⟩ => ?_
  subst he
  refine ⟨lim.keeps x.toInCall.keep, codeAny_func ?_⟩
  obtain ⟨t, ht, hq⟩ := hbody (hr.deeper _)
  have I : Inv (cxOf C8.CX0 P w K mg base N qual scope f cdv A outer s H E) [] (start N vs) H p := inv_start S hr.hd e0 hl r x
  refine wpAny_mono (ht [] p (start N vs) H _ n1 (I.wish _) hq) (fun fl s' hs => ?_) fun e s' hs => False.elim hs
  cases fl with
  | ret u =>
    obtain ⟨v, σ', H', J, rv, q⟩ := hs
    exact ⟨v, H', J.os, J.bare, J.base, J.hok, rv, q⟩
  | next =>
    obtain ⟨σ', H', J, q⟩ := hs
    exact ⟨.non, H', J.os, J.bare, J.base, J.hok, rfl, q⟩
  | brk =>
    obtain ⟨_, _, _, q⟩ := hs
    exact False.elim q
  | cont =>
    obtain ⟨_, _, _, q⟩ := hs
    exact False.elim q
/-- a def by its body -/
theorem fnN {x qual : Str} {st : Stmt} {f : Addr} {fd : FuncData} {N ps : List Str} {k : Nat} {sp : Sp} (F : C8.Fun K x qual st f fd) (S : FnScope N ps (C8.fnScope st)) (len : ∀ vs H Q E, sp vs H Q E → vs.length = ps.length)
    (hbody : ∀ (cdv : Value) (A : Around) (outer : List Env) (s : Shared) (H : Hp) (vs : List V) (Q : VK) (E : XK), Room k (A.deeper (envOfC qual (C8.fnScope st) s.heap.objs.size f cdv)) → sp vs H Q E →
      ∃ t, BN n (cxOf C8.CX0 P w K mg base N qual (C8.fnScope st) f cdv A outer s H E).nox (C8.fnBody st) t ∧ t { nx := fun _ H' => Q .non H', rt := Q } (start N vs) H) : FnN n P w K mg base (k + 1) f fd ps sp := by
  obtain ⟨oc, od, dV, kV, doc, pm, an, cdv, ct, osl, rfl, lk, hcd⟩ := F.ex
  exact ⟨len, fun A outer s H args us vs Q E hn hr e0 hb r hsp => run_ofN lk hcd S (len _ _ _ _ hsp) hn hr e0 hb r fun hr' => hbody cdv A outer s H vs Q E hr' hsp⟩
structure CalN (n : Nat) (P : Program) (w : World) (K : PySem.W.Frag) (mg : Str → Option Value) (base : Heap) (k : Nat) (x : Str) (sp : Sp) (dvs : List V) : Prop where
  ex : ∃ (f : Addr) (fd : FuncData) (ps : List Str) (ds : List Value), FnN n P w K mg base k f fd ps sp ∧ mg x = some (.ref f) ∧ PySem.W.keepIn K (.ref f) = true ∧ Binds K fd ps ds ∧ Vals dvs ds
structure AtN (n : Nat) (P : Program) (w : World) (K : PySem.W.Frag) (mg : Str → Option Value) (base : Heap) (k : Nat) (f : Addr) (sp : Sp) : Prop where
  ex : ∃ (fd : FuncData) (ps : List Str), FnN n P w K mg base k f fd ps sp ∧ PySem.W.keepIn K (.ref f) = true ∧ Binds K fd ps []
structure MetN (n : Nat) (P : Program) (w : World) (K : PySem.W.Frag) (mg : Str → Option Value) (base : Heap) (k : Nat) (C : Addr) (m : Str) (sp : Sp) : Prop where
  ex : ∃ (f : Addr) (fd : FuncData) (ps : List Str), Cls K C ∧ Meth K C m f ∧ FnN n P w K mg base k f fd ps sp ∧ Binds K fd ps []
structure MakN (n : Nat) (P : Program) (w : World) (K : PySem.W.Frag) (mg : Str → Option Value) (base : Heap) (k : Nat) (x : Str) (C : Addr) (sp : Sp) : Prop where
  ex : ∃ (f : Addr) (fd : FuncData) (ps : List Str), Mk K C f ∧ FnN n P w K mg base k f fd ps sp ∧ mg x = some (.ref C) ∧ Binds K fd ps []
end
section
variable {n : Nat} {X : Cx} {k j : Nat} {f C : Addr} {fd : FuncData} {ps : List Str} {ds : List Value} {dvs : List V} {x m : Str} {sp : Sp} {p pos apos : Pos} {e o : Expr} {es : List Expr} {ta : TE} {t : TA}
theorem run_fnN1 {pins : List (Addr × Obj)} {σ : L2.St} {H : Hp} {s : Shared} {Q : VK} {us : List Value} {vs : List V} (F : FnN n X.prog X.w X.K X.mg X.base k f fd ps sp) (hr : Room k X.A) (hb : Binds X.K fd ps ds) (hd : Vals dvs ds) (hn : n ≤ s.toks)
    (I : Inv X pins σ H s) (r : Vals vs us) (h : sp (vs ++ dvs) H Q C8.E0) : wpAny (model X.prog X.w) X.A (call (.ref f) us) (EP X pins σ Q) X.xe s := by
  have r2 : Vals (vs ++ dvs) (us ++ ds) := r.append hd
  have hl : (us ++ ds).length = ps.length := by rw [← r2.length]; exact F.len _ _ _ _ h
  refine wpAny_call (codeAny_mono (F.run X.A X.stack s H ⟨us, []⟩ (us ++ ds) (vs ++ dvs) Q C8.E0 hn hr I.env0 (hb s us I.kIn hl) r2 h) fun r s' hq => ?_)
  cases r with
  | error e => exact False.elim hq
  | ok fl =>
    cases fl with
    | ret u => exact I.after hq
    | next => exact False.elim hq
    | brk => exact False.elim hq
    | cont => exact False.elim hq
theorem en_c (c : CalN n X.prog X.w X.K X.mg X.base k x sp dvs) (hr : Room j X.A) (hk : k ≤ j) (hg : Gl X x) (ha : AN n X (e :: es) t)
    (hdb : (x == ("__debug__" : Str)) = false := by decide) (he : starEach (e :: es) X.env = (false, eval e X.env) :: starEach es X.env := by rfl) (hpl : (backTo pos (starEach es X.env)).any (·.1) = false := by rfl) :
    EN n X (.Call (.Name x p) (e :: es) [] pos) (tCall sp dvs C8.E0 t) := fun pins s σ H Q hn I h => by
  obtain ⟨f, fd, ps, ds, F, hm, kp, b, d⟩ := c.ex
  refine wpAny_Call_Name_kw (ld_glob I hg hm ?_ hdb)
  exact PySem.W.callWith_K (h₀ := X.base) I.ok.mod.kin kp (thnN hn (ha pos pins s σ H _ hn I h) fun us q n1 ⟨vs, Ha, Ia, ra, qa⟩ => ⟨Ia.kIn, run_fnN1 F (hr.mono hk) b d n1 Ia ra qa⟩) he hpl
theorem en_mt {pl : Sem Bool} (c : MetN n X.prog X.w X.K X.mg X.base k C m sp) (hr : Room j X.A) (hk : k ≤ j) (he : PE X o ta) (ha : PA X (e :: es) t)
    (hst : starEach (e :: es) X.env = (false, eval e X.env) :: starEach es X.env := by rfl) (hpl : (backTo pos (starEach es X.env)).any (·.1) = false := by rfl)
    (ht : eval (.Call (.Attribute o m apos) (e :: es) [] pos) X.env = (do
      let ov ← eval o X.env
      standAt apos.atName
      let (f, first) ← holding [ov] (getMethod ov m pl)
      callWith pos f first (backTo pos (starEach (e :: es) X.env)) (backToKw pos (keywordEach [] X.env))) := by rfl) :
    EN n X (.Call (.Attribute o m apos) (e :: es) [] pos) (tMeth C m sp [] C8.E0 ta t) := fun pins s σ H Q hn I h => by
  obtain ⟨f, fd, ps, hc, hm, F, b⟩ := c.ex
  refine PySem.W.methodCall_KW (pl := pl) (thnN hn (he.run pins s σ H _ I h) fun u q n1 ⟨x, Ha, Ia, rx, a, dx, fs, ex, ea, l, qa⟩ => ?_) ht
  subst ex
  cases (show u = Value.ref a from rx)
  refine getmeth_ok Ia ea hc hm l ?_
  exact PySem.W.callWith_K (first := [.ref a]) (h₀ := X.base) I.ok.mod.kin hm.kp (thnN n1 (ha.run pos pins q σ Ha _ Ia qa) fun us q2 n2 ⟨vs, Hb, Ib, rb, qb⟩ => ⟨Ib.kIn, run_fnN1 (us := .ref a :: us) (vs := .ref a :: vs) F (hr.mono hk) b .nil n2 Ib (.cons rfl rb) qb⟩) hst hpl
theorem en_mk (c : MakN n X.prog X.w X.K X.mg X.base k x C sp) (hr : Room j X.A) (hk : k + 1 ≤ j) (hg : Gl X x) (ha : AN n X (e :: es) t)
    (hdb : (x == ("__debug__" : Str)) = false := by decide) (he : starEach (e :: es) X.env = (false, eval e X.env) :: starEach es X.env := by rfl) (hpl : (backTo pos (starEach es X.env)).any (·.1) = false := by rfl) :
    EN n X (.Call (.Name x p) (e :: es) [] pos) (tMake C sp [] C8.E0 t) := fun pins s σ H Q hn I h => by
  obtain ⟨f, fd, ps, M, F, hm, b⟩ := c.ex
  refine wpAny_Call_Name_kw (ld_glob I hg hm ?_ hdb)
  refine PySem.W.callWith_K (h₀ := X.base) I.ok.mod.kin M.kp (thnN hn (ha pos pins s σ H _ hn I h) fun us q n1 ⟨vs, Ha, Ia, ra, qa⟩ => ⟨Ia.kIn, ?_⟩) he hpl
  show wpAny _ _ (call (.ref C) us) _ _ _
  have hq := qa (q.heap.objs.size + 1) q.heap.objs.size (Ia.hok.fresh (Nat.le_succ _)) (Ia.hok.fresh (Nat.le_refl _)) (Nat.ne_of_lt (Nat.lt_succ_self _))
  have Ib := Inv.made (C := C) Ia
  have r2 : Vals (V.ref (q.heap.objs.size + 1) :: (vs ++ [])) (Value.ref (q.heap.objs.size + 1) :: (us ++ [])) := .cons rfl (ra.append .nil)
  have hl : (Value.ref (q.heap.objs.size + 1) :: us ++ []).length = ps.length := by
    have z := r2.length
    rw [F.len _ _ _ _ hq] at z
    exact z.symm
  have hr' := hr.mono hk
  refine wpAny_call (make_map (f := f) Ia.kIn M.makes M.init (beq_iff_eq.mp M.fn) (codeAny_mono (F.run _ X.stack _ _ ⟨Value.ref (q.heap.objs.size + 1) :: us, []⟩ (Value.ref (q.heap.objs.size + 1) :: us ++ []) (V.ref (q.heap.objs.size + 1) :: (vs ++ [])) _ C8.E0 ?_ (hr'.make C us [])
    (Ib.env0.make C us []) (b _ (Value.ref (q.heap.objs.size + 1) :: us) Ib.kIn hl) r2 hq) fun r s' hq' => ?_))
  · exact n1
  cases r with
  | error e => exact False.elim hq'
  | ok fl =>
    cases fl with
    | ret u =>
      obtain ⟨v, H', Ic, rv, ev, q3⟩ := Ib.after hq'
      subst ev
      exact ⟨rv, ⟨V.ref (q.heap.objs.size + 1), H', Ic, rfl, q3⟩⟩
    | next => exact False.elim hq'
    | brk => exact False.elim hq'
    | cont => exact False.elim hq'
/-- a slot that holds one of several defs, called -/
theorem en_callA {i : Nat} {S : Addr → Option Sp} (A : ∀ f sp, S f = some sp → AtN n X.prog X.w X.K X.mg X.base k f sp) (hr : Room k X.A) (hN : X.N[i]? = some x) (hv : Vis X.env.scope x) (ha : AN n X (e :: es) t)
    (hdb : (x == ("__debug__" : Str)) = false := by decide) (hcd : (x == ("__classdict__" : Str)) = false := by decide)
    (he : starEach (e :: es) X.env = (false, eval e X.env) :: starEach es X.env := by rfl) (hpl : (backTo pos (starEach es X.env)).any (·.1) = false := by rfl) : EN n X (.Call (.Name x p) (e :: es) [] pos) (tCallA i S t) := fun pins s σ H Q hn I ⟨f, sp, hs, hS, ht⟩ => by
  obtain ⟨fd, ps, F, kp, b⟩ := (A f sp hS).ex
  refine wpAny_Call_Name_kw (thnN hn ((pe_var (pos := p) hN hv hdb hcd).run pins s σ H (fun v Ha => v = .ref f ∧ Ha = H) I ⟨.ref f, hs, rfl, rfl⟩) fun u q n1 ⟨v, Ha, Ia, ra, ev, eH⟩ => ?_)
  subst ev eH
  cases ra
  exact PySem.W.callWith_K (h₀ := X.base) I.ok.mod.kin kp (thnN n1 (ha pos pins q σ _ _ n1 Ia ht) fun us q2 n2 ⟨vs, Hb, Ib, rb, qb⟩ => ⟨Ib.kIn, run_fnN1 F hr b .nil n2 Ib rb (by rw [List.append_nil]; exact qb)⟩) he hpl
/-- a call's value, called -/
theorem en_callE {S : Addr → Option Sp} {fe : Expr} {tf : TE} (A : ∀ f sp, S f = some sp → AtN n X.prog X.w X.K X.mg X.base k f sp) (hr : Room k X.A) (hf : EN n X fe tf) (ha : AN n X (e :: es) t)
    (ht : eval (.Call fe (e :: es) [] pos) X.env = (do callWith pos (← eval fe X.env) [] (backTo pos (starEach (e :: es) X.env)) (backToKw pos (keywordEach [] X.env))) := by rfl)
    (he : starEach (e :: es) X.env = (false, eval e X.env) :: starEach es X.env := by rfl) (hpl : (backTo pos (starEach es X.env)).any (·.1) = false := by rfl) : EN n X (.Call fe (e :: es) [] pos) (tCallE tf S t) := fun pins s σ H Q hn I h => by
  refine Call_ (thnN hn (hf pins s σ H _ hn I h) fun u q n1 ⟨v, Ha, Ia, ra, f, sp, ev, hS, ht'⟩ => ?_) ht
  subst ev
  cases ra
  obtain ⟨fd, ps, F, kp, b⟩ := (A f sp hS).ex
  exact PySem.W.callWith_K (h₀ := X.base) Ia.ok.mod.kin kp (thnN n1 (ha pos pins q σ _ _ n1 Ia ht') fun us q2 n2 ⟨vs, Hb, Ib, rb, qb⟩ => ⟨Ib.kIn, run_fnN1 F hr b .nil n2 Ib rb (by rw [List.append_nil]; exact qb)⟩) he hpl
theorem EN.or {t1 t2 : TE} (h1 : EN n X e t1) (h2 : EN n X e t2) : EN n X e (fun σ H Q => t1 σ H Q ∨ t2 σ H Q) := fun pins s σ H Q hn I h => h.elim (h1 pins s σ H Q hn I) (h2 pins s σ H Q hn I)
end
end My
set_option Elab.async false
set_option linter.all false
set_option maxRecDepth 100000
set_option maxHeartbeats 4000000
/-! the plain defs of the program -/
namespace My
open PySem PySem.Spec PyProof.Rows L2 LamX SX
def top (i : Nat) : Stmt := PySem.Challenge.pw_roomstair_k12_whole_few_amounts_oppose.main.body.getD i (.Pass ⟨0, 0, 0, 0⟩)
abbrev vR (r : List Nat) : V := .str (S r)
/-- what the module's names hold -/
structure Txt (K : PySem.W.Frag) (mg : Str → Option Value) : Prop where
  isi : mg "isinstance" = none
  int : mg "int" = none
  bool : mg "bool" = none
  list : mg "list" = none
  tuple : mg "tuple" = none
  len : mg "len" = none
  all : mg "all" = none
  dict : mg "dict" = none
  zip : mg "zip" = none
  abs : mg "abs" = none
  sorted : mg "sorted" = none
  range : mg "range" = none
  min : mg "min" = none
  max : mg "max" = none
  set : mg "set" = none
  repr : mg "repr" = none
  left : ∃ t, mg "LEFT" = some (.str (S [43]) t)
  right : ∃ t, mg "RIGHT" = some (.str (S [45]) t)
  none_ : ∃ t, mg "NONE" = some (.str (S [48]) t)
  signs : ∃ t, mg "SIGNS" = some (.str (S Mi.sg3) t)
  places : ∃ t, mg "MOST_PLACES" = some (.int 6 t)
  label : ∃ t, mg "MOST_LABEL" = some (.int 1000 t)
section
variable {K : PySem.W.Frag} {mg : Str → Option Value}
theorem Txt.gl (T : Txt K mg) : ∃ u, mg "LEFT" = some u ∧ RelV (vR [43]) u := let ⟨t, h⟩ := T.left; ⟨_, h, t, rfl⟩
theorem Txt.gr (T : Txt K mg) : ∃ u, mg "RIGHT" = some u ∧ RelV (vR [45]) u := let ⟨t, h⟩ := T.right; ⟨_, h, t, rfl⟩
theorem Txt.gn (T : Txt K mg) : ∃ u, mg "NONE" = some u ∧ RelV (vR [48]) u := let ⟨t, h⟩ := T.none_; ⟨_, h, t, rfl⟩
theorem Txt.gs (T : Txt K mg) : ∃ u, mg "SIGNS" = some u ∧ RelV (vR Mi.sg3) u := let ⟨t, h⟩ := T.signs; ⟨_, h, t, rfl⟩
theorem Txt.gp (T : Txt K mg) : ∃ u, mg "MOST_PLACES" = some u ∧ RelV (.int 6) u := let ⟨t, h⟩ := T.places; ⟨_, h, t, rfl⟩
theorem Txt.gm (T : Txt K mg) : ∃ u, mg "MOST_LABEL" = some u ∧ RelV (.int 1000) u := let ⟨t, h⟩ := T.label; ⟨_, h, t, rfl⟩
end
/-! ### comprehensions without a state -/
theorem same_upd {H1 H : Hp} {D : Addr} {o : HO} (s : Same H1 H) (hD : H1 D = none) : Same H1 (upd H D o) := fun b u e => by
  rw [upd_ne (ne_of_none e hD)]
  exact s b u e
theorem same_new {H : Hp} {D : Addr} {o : HO} (hD : H D = none) : Same H (upd H D o) := same_upd (Same.refl H) hD
/-- a comprehension each turn of which only makes new things: R i is the list behind i turns -/
theorem lc_pure {J : It} {n : Nat} {G : Hp → Prop} {Y : Nat → Hp → V → Hp → Prop} (wk : Walk J n G Y) {g : TG} {tt : TT} {te : TE} {vs : List Nat} {σ : L2.St} {H1 : Hp} {D : Addr} {Qd : Hp → Prop} (hD : H1 D = none) (R : Nat → List V) (r0 : R 0 = [])
    (hG : ∀ H, Same H1 H → G H) (sz : ∀ i, i < n → (R i).length < sizeLine)
    (hs : ∀ i x H H' (Q1 : VK) (Q2 : Hp → Prop), i < n → Same H1 H → Y i H x H' → (∀ y H4, R (i + 1) = R i ++ [y] → Same H H4 → Q1 y H4) → (∀ H4, R (i + 1) = R i → Same H H4 → Q2 H4) →
      g x (wipe σ vs) H' fun σ2 H2 => wipe σ2 vs = wipe σ vs ∧ tt σ2 H2 fun b H3 => if b = true then te σ2 H3 Q1 else Q2 H3)
    (hd : ∀ H, Same H1 H → H D = some (.lst (R n)) → Qd H) :
    ∃ W : Nat → Nat → Hp → Prop, (∃ m, W 0 m (upd H1 D (.lst []))) ∧ ∀ i m H, W i m H →
      (J.stop i H ∧ Qd H) ∨ (J.go i H ∧ ∃ Nx : Hp → Prop, (∀ H', Nx H' → ∃ m', m' < m ∧ W (i + 1) m' H') ∧ ∀ x H', J.yld i H x H' → g x (wipe σ vs) H' fun σ2 H2 => wipe σ2 vs = wipe σ vs ∧ tt σ2 H2 fun b H3 =>
        if b = true then te σ2 H3 fun y H4 => ∃ acc, H4 D = some (.lst acc) ∧ acc.length < sizeLine ∧ Nx (upd H4 D (.lst (acc ++ [y]))) else Nx H3) := by
  refine lc_it wk (fun i H => Same H1 H ∧ H D = some (.lst (R i))) ⟨same_new hD, by rw [upd_same, r0]⟩ (fun i H _ p => hG H p.1) (fun i x H H' hi p y => ?_) fun H p => hd H p.1 p.2
  refine hs i x H H' _ _ hi p.1 y (fun y H4 e s => ⟨R i, s _ _ p.2, sz i hi, same_upd (p.1.trans s) hD, by rw [upd_same, e]⟩) fun H4 e s => ⟨p.1.trans s, by rw [e]; exact s _ _ p.2⟩
/-- .. without a test -/
theorem lc_pure0 {J : It} {n : Nat} {G : Hp → Prop} {Y : Nat → Hp → V → Hp → Prop} (wk : Walk J n G Y) {g : TG} {te : TE} {vs : List Nat} {σ : L2.St} {H1 : Hp} {D : Addr} {Qd : Hp → Prop} (hD : H1 D = none) (R : Nat → List V) (r0 : R 0 = [])
    (hG : ∀ H, Same H1 H → G H) (sz : ∀ i, i < n → (R i).length < sizeLine)
    (hs : ∀ i x H H' (Q1 : VK), i < n → Same H1 H → Y i H x H' → (∀ y H4, R (i + 1) = R i ++ [y] → Same H H4 → Q1 y H4) → g x (wipe σ vs) H' fun σ2 H2 => wipe σ2 vs = wipe σ vs ∧ te σ2 H2 Q1)
    (hd : ∀ H, Same H1 H → H D = some (.lst (R n)) → Qd H) :
    ∃ W : Nat → Nat → Hp → Prop, (∃ m, W 0 m (upd H1 D (.lst []))) ∧ ∀ i m H, W i m H →
      (J.stop i H ∧ Qd H) ∨ (J.go i H ∧ ∃ Nx : Hp → Prop, (∀ H', Nx H' → ∃ m', m' < m ∧ W (i + 1) m' H') ∧ ∀ x H', J.yld i H x H' → g x (wipe σ vs) H' fun σ2 H2 => wipe σ2 vs = wipe σ vs ∧ tYes σ2 H2 fun b H3 =>
        if b = true then te σ2 H3 fun y H4 => ∃ acc, H4 D = some (.lst acc) ∧ acc.length < sizeLine ∧ Nx (upd H4 D (.lst (acc ++ [y]))) else Nx H3) := by
  refine lc_pure (tt := tYes) wk hD R r0 hG sz (fun i x H H' Q1 Q2 hi sm y q1 q2 => ?_) hd
  have e : (fun (σ2 : L2.St) (H2 : Hp) => wipe σ2 vs = wipe σ vs ∧ tYes σ2 H2 fun b H3 => if b = true then te σ2 H3 Q1 else Q2 H3) = fun σ2 H2 => wipe σ2 vs = wipe σ vs ∧ te σ2 H2 Q1 := by
    funext σ2 H2
    show (_ ∧ if true = true then te σ2 H2 Q1 else Q2 H2) = _
    rw [if_pos rfl]
  rw [e]
  exact hs i x H H' Q1 hi sm y q1
theorem take_at {α : Type} {l : List α} {i : Nat} {x : α} (h : l[i]? = some x) : l.take (i + 1) = l.take i ++ [x] := by
  rw [List.take_succ, h]
  rfl
theorem map_at {α : Type} {f : α → V} {l : List α} {i : Nat} {y : V} (h : (l.map f)[i]? = some y) : ∃ x, l[i]? = some x ∧ y = f x := by
  rw [List.getElem?_map] at h
  cases e : l[i]? with
  | none => rw [e] at h; cases h
  | some x => rw [e] at h; exact ⟨x, rfl, (Option.some.inj h).symm⟩
/-! ### promises -/
def spInt : Sp := fun vs H Q _ => ∃ i, vs = [.int i] ∧ Q (.bl true) H
def spWithin : Sp := fun vs H Q _ => ∃ i lo hi : Int, vs = [.int i, .int lo, .int hi] ∧ Q (.bl (decide (lo ≤ i) && decide (i ≤ hi))) H
def spIsList (K : PySem.W.Frag) : Sp := fun vs H Q _ => ∃ (a : Addr) (xs : List V), vs = [.ref a] ∧ H a = some (.lst xs) ∧ ∀ H', Same H H' → Q (.bl true) H'
def spNeedN : Sp := fun vs H Q _ => ∃ (i lo hi : Int) (p : V), vs = [.int i, p, .int lo, .int hi] ∧ lo ≤ i ∧ i ≤ hi ∧ Q .non H
def spTS : Sp := fun vs H Q _ => ∃ c, vs = [vR [c]] ∧ (c = 43 ∨ c = 45 ∨ c = 48) ∧ Q (vR [Tk.tn c]) H
def spTR : Sp := fun vs H Q _ => ∃ r, vs = [vR r] ∧ r.length ≤ 10 ∧ (∀ c ∈ r, c = 43 ∨ c = 45 ∨ c = 48) ∧ ∀ H', Same H H' → Q (vR (Tk.neg r)) H'
def spSigns : Sp := fun vs H Q _ => ∃ r, vs = [vR r] ∧ r.length ≤ 10 ∧ Q (vR (Mi.sgn r)) H
def spWaves : Sp := fun vs H Q _ => ∃ r, vs = [vR r] ∧ r.length ≤ 10 ∧ ∀ H', Same H H' → Q (.int (Mi.wav r)) H'
section
variable {P : Program} {w : World} {K : PySem.W.Frag} {mg : Str → Option Value} {base : Heap} {f : Addr} {fd : FuncData} {n : Nat}
theorem scInt : FnScope ["value"] ["value"] (C8.fnScope (top 7)) := C8.fnScope_by (by decide +kernel)
theorem ok_int (T : Txt K mg) (F : C8.Def K mg "is_integer" (top 7) f fd) (b : Binds K fd ["value"] []) : C8.Cal P w K mg base 1 "is_integer" spInt [] := by
  refine C8.cal0 F b .nil scInt (fun vs H Q E h => ?_) (fun cdv A outer s H vs Q E hr h => ?_)
  · obtain ⟨i, rfl, _⟩ := h; rfl
  · obtain ⟨i, rfl, k⟩ := h
    refine ⟨_, pss_one (ps_ret (pe_and (pe_callB call_isi (by rfl) T.isi (by decide +kernel) (pa_cons (pv 0) (pa_cons (pe_bltn (v := .ty "int") (by rfl) T.int (by decide +kernel) rfl) pa_nil)))
      (pe_one (pe_not (pe_callB call_isi (by rfl) T.isi (by decide +kernel) (pa_cons (pv 0) (pa_cons (pe_bltn (v := .ty "bool") (by rfl) T.bool (by decide +kernel) rfl) pa_nil))))))), ?_⟩
    refine ⟨_, rfl, _, _, _, _, true, rfl, .ty _, .base (.int _), kit_ty (by decide +kernel), true, rfl, iteT ⟨_, rfl, _, _, _, _, false, rfl, .ty _, .base (.int _), kit_ty (by decide +kernel), false, rfl, k⟩⟩
theorem scWithin : FnScope ["value", "least", "most"] ["value", "least", "most"] (C8.fnScope (top 8)) := C8.fnScope_by (by decide +kernel)
theorem ok_within (F : C8.Def K mg "is_within" (top 8) f fd) (b : Binds K fd ["value", "least", "most"] []) (C : C8.Cal P w K mg base 1 "is_integer" spInt []) : C8.Cal P w K mg base 2 "is_within" spWithin [] := by
  refine C8.cal0 F b .nil scWithin (fun vs H Q E h => ?_) (fun cdv A outer s H vs Q E hr h => ?_)
  · obtain ⟨i, lo, hi, rfl, _⟩ := h; rfl
  · obtain ⟨i, lo, hi, rfl, k⟩ := h
    refine ⟨_, pss_cons (ps_if (pt_not (pt_val (C8.pe_c C hr (by decide) (by rfl) (pa_cons (pv 0) pa_nil)))) (pss_one (ps_ret pe_bl)) pss_nil)
      (pss_one (ps_ret (pe_and (pe_or (pe_cmpR op_isN (pv 1) pe_non (nomark _)) (pe_one (pe_cmpR op_ge (pv 0) (pv 1) (nomark _)))) (pe_one (pe_or (pe_cmpR op_isN (pv 2) pe_non (nomark _)) (pe_one (pe_cmpR op_le (pv 0) (pv 2) (nomark _)))))))), ?_⟩
    refine ⟨_, rfl, i, rfl, true, rfl, iteF ?_⟩
    refine ⟨_, rfl, rfl, false, rfl, iteF ⟨_, rfl, _, rfl, _, _, rfl, rfl, _, rfl, ?_⟩⟩
    refine ite2 (fun h1 => ⟨_, rfl, rfl, false, rfl, iteF ⟨_, rfl, _, rfl, _, _, rfl, rfl, ?_⟩⟩) fun h1 => ?_
    · rw [h1, Bool.true_and] at k
      exact k
    · rw [Bool.not_eq_true] at h1
      rw [h1, Bool.false_and] at k
      exact k
theorem scList : FnScope ["value"] ["value"] (C8.fnScope (top 9)) := C8.fnScope_by (by decide +kernel)
theorem ok_list (T : Txt K mg) (F : C8.Def K mg "is_list" (top 9) f fd) (b : Binds K fd ["value"] []) : C8.Cal P w K mg base 1 "is_list" (spIsList K) [] := by
  refine C8.cal0 F b .nil scList (fun vs H Q E h => ?_) (fun cdv A outer s H vs Q E hr h => ?_)
  · obtain ⟨a, xs, rfl, _⟩ := h; rfl
  · obtain ⟨a, xs, rfl, ha, k⟩ := h
    refine ⟨_, pss_one (ps_ret (pe_callB call_isiT (by rfl) T.isi (by decide +kernel) (pa_cons (pv 0) (pa_cons (pe_tup (pa_cons (pe_bltn (v := .ty "list") (by rfl) T.list (by decide +kernel) rfl) (pa_cons (pe_bltn (v := .ty "tuple") (by rfl) T.tuple (by decide +kernel) rfl) pa_nil))) pa_nil)))), ?_⟩
    refine ⟨_, rfl, by decide, fun p hp => ⟨_, p, _, _, _, true, rfl, upd_same, .cons (.ty _) (.cons (.ty _) .nil), .base (.lst (xs := xs) ?_), kitAny_cons (kit_ty (b := "list") (r := true) (by decide +kernel)) (fun z => nomatch z) (fun _ => rfl), k _ (same_new hp)⟩⟩
    rw [upd_ne (ne_of_none ha hp)]
    exact ha
theorem scNeedN : FnScope ["value", "part", "least", "most"] ["value", "part", "least", "most"] (C8.fnScope (top 10)) := C8.fnScope_by (by decide +kernel)
theorem ok_needN (F : C8.Def K mg "need_number" (top 10) f fd) (b : Binds K fd ["value", "part", "least", "most"] []) (C : C8.Cal P w K mg base 2 "is_within" spWithin []) : C8.Cal P w K mg base 3 "need_number" spNeedN [] := by
  refine C8.cal0 F b .nil scNeedN (fun vs H Q E h => ?_) (fun cdv A outer s H vs Q E hr h => ?_)
  · obtain ⟨i, lo, hi, p, rfl, _⟩ := h; rfl
  · obtain ⟨i, lo, hi, p, rfl, h1, h2, k⟩ := h
    refine ⟨_, pss_one (ps_if (pt_not (pt_val (C8.pe_c C hr (by decide) (by rfl) (pa_cons (pv 0) (pa_cons (pv 2) (pa_cons (pv 3) pa_nil)))))) (pss_one ps_never) pss_nil), ?_⟩
    refine ⟨_, rfl, _, rfl, _, rfl, i, lo, hi, rfl, _, rfl, ?_⟩
    rw [decide_eq_true h1, decide_eq_true h2]
    exact iteF k
theorem scTS : FnScope ["sign"] ["sign"] (C8.fnScope (top 16)) := C8.fnScope_by (by decide +kernel)
theorem ok_ts (T : Txt K mg) (F : C8.Def K mg "turned_sign" (top 16) f fd) (b : Binds K fd ["sign"] []) : C8.Cal P w K mg base 1 "turned_sign" spTS [] := by
  refine C8.cal0 F b .nil scTS (fun vs H Q E h => ?_) (fun cdv A outer s H vs Q E hr h => ?_)
  · obtain ⟨c, rfl, _⟩ := h; rfl
  · obtain ⟨c, rfl, hc, k⟩ := h
    refine ⟨_, pss_one (ps_ret (pe_ifExp (pt_cmpR op_eq (pv 0) (C8.pe_gc (by rfl) T.gn) (nomark _)) (C8.pe_gc (by rfl) T.gn)
      (pe_ifExp (pt_cmpR op_eq (pv 0) (C8.pe_gc (by rfl) T.gl) (nomark _)) (C8.pe_gc (by rfl) T.gr) (C8.pe_gc (by rfl) T.gl)))), ?_⟩
    rcases hc with e | e | e <;> subst e
    · exact ⟨_, rfl, rfl, false, by congr 1, iteF ⟨_, rfl, rfl, true, by congr 1, iteT k⟩⟩
    · exact ⟨_, rfl, rfl, false, by congr 1, iteF ⟨_, rfl, rfl, false, by congr 1, iteF k⟩⟩
    · exact ⟨_, rfl, rfl, true, by congr 1, iteT k⟩
theorem scTR : FnScope ["row", "sign"] ["row"] (C8.fnScope (top 17)) := C8.fnScope_by (by decide +kernel)
theorem joinL_flat : ∀ ys : List (List Nat), TL.joinL [] ys = ys.flatten
  | [] => rfl
  | [p] => by simp [TL.joinL]
  | p :: q :: r => by
    show p ++ ([] ++ TL.joinL [] (q :: r)) = p ++ (q :: r).flatten
    rw [joinL_flat (q :: r), List.nil_append]
theorem flat_one (l : List Nat) (g : Nat → Nat) : (l.map fun c => [g c]).flatten = l.map g := by
  induction l with
  | nil => rfl
  | cons c l ih => rw [List.map_cons, List.flatten_cons, ih]; rfl
theorem sum_ones (g : Nat → Nat) : ∀ r : List Nat, ((r.map fun c => [g c]).map (·.length)).sum = r.length
  | [] => rfl
  | c :: r => by
    rw [List.map_cons, List.map_cons, List.sum_cons, sum_ones g r, List.length_cons]
    show 1 + r.length = r.length + 1
    omega
theorem ok_tr (T : Txt K mg) (F : C8.Def K mg "turned_row" (top 17) f fd) (b : Binds K fd ["row"] []) (C : C8.Cal P w K mg base 1 "turned_sign" spTS []) : C8.Cal P w K mg base 2 "turned_row" spTR [] := by
  refine C8.cal0 F b .nil scTR (fun vs H Q E h => ?_) (fun cdv A outer s H vs Q E hr h => ?_)
  · obtain ⟨r, rfl, _⟩ := h; rfl
  · obtain ⟨r, rfl, hl, hc, k⟩ := h
    refine ⟨_, pss_one (ps_ret (pe_join pe_str (pe_lc (own := [("sign", 1)]) (g := gName 1) (tt := tYes) rfl scTR.nd (pi_str (pv 0)) (blkOk_by (own := [("sign", 1)]) (N := ["row", "sign"]) (sc := C8.fnScope (top 17)) (by decide +kernel))
      (fun _ _ _ _ _ => pg_name (i := 1) scTR.nd rfl (Or.inl rfl)) (fun _ _ _ _ _ => pts_nil) (fun _ _ _ _ _ => C8.pe_c C hr (by decide) (by rfl) (pa_cons (pv 1) pa_nil))))), ?_⟩
    refine ⟨⟨_, rfl⟩, _, rfl, _, rfl, fun D hD => ?_⟩
    refine lc_pure0 walk_str hD (fun i => (r.take i).map fun c => vR [Tk.tn c]) rfl (fun _ _ => trivial) (fun i hi => ?_) (fun i x H1 H2 Q1 hi sm hy q1 => ?_) fun H' sm hH => ?_
    · rw [List.length_map, List.length_take]
      exact Nat.lt_of_le_of_lt (Nat.le_trans (Nat.min_le_right _ _) hl) (by decide)
    · obtain ⟨rfl, c, hc1, rfl⟩ := hy
      have hr1 : r[i]? = some c := by simpa [S] using hc1
      refine ⟨rfl, _, rfl, c, rfl, hc c (List.mem_of_getElem? hr1), q1 _ _ ?_ (Same.refl _)⟩
      rw [take_at hr1, List.map_append]
      rfl
    · have e : (r.take (S r).cps.size).map (fun c => vR [Tk.tn c]) = ((r.map fun c => [Tk.tn c]).map S).map V.str := by
        rw [show (S r).cps.size = r.length by simp [S], List.take_length, List.map_map, List.map_map]
        rfl
      rw [e] at hH
      refine ⟨_, D, _, rfl, rfl, .inl (SqL.of hH), ?_, ?_⟩
      · rw [lens, List.length_map, List.length_map, sum_ones]
        show r.length + r.length * 0 ≤ 16777216
        omega
      · have e2 : Txt.join ("" : Str) ((r.map fun c => [Tk.tn c]).map S) = S (Tk.neg r) := by
          refine (join_S [] _).trans ?_
          rw [joinL_flat, flat_one]
          rfl
        rw [e2]
        exact k _ sm
theorem replace_sgn (r : List Nat) : Txt.replace (S r) (S [48]) (S []) = S (Mi.sgn r) := TL.ext_tl (PyProof.Rows.replace_strikes (S r) 48)
theorem scSigns : FnScope ["row"] ["row"] (C8.fnScope (top 18)) := C8.fnScope_by (by decide +kernel)
theorem ok_signs {tk : Tok} (hm : mg "NONE" = some (.str (S [48]) tk)) (h0 : tk ≠ 0) (hlt : tk < n) (F : C8.Def K mg "signs_of" (top 18) f fd) (b : Binds K fd ["row"] []) : CalN n P w K mg base 1 "signs_of" spSigns [] := by
  refine ⟨f, fd, ["row"], [], fnN F.fn scSigns (fun vs H Q E h => ?_) (fun cdv A outer s H vs Q E hr h => ?_), F.mgf, F.kp, b, .nil⟩
  · obtain ⟨r, rfl, _⟩ := h; rfl
  · obtain ⟨r, rfl, hl, k⟩ := h
    refine ⟨_, bn_one (sn_ret (en_replG (y := S [48]) (z := S []) (.of (pv 0)) (by rfl) hm h0 hlt)), ?_⟩
    refine ⟨_, rfl, S r, rfl, ?_, ?_⟩
    · rw [S_len, S_len]
      show r.length + (r.length + 1) * 0 ≤ 16777216
      omega
    · rw [replace_sgn]
      exact k
theorem scWaves : FnScope ["row", "signs", "one", "other"] ["row"] (C8.fnScope (top 19)) := C8.fnScope_by (by decide +kernel)
theorem diffs_take : ∀ (l : List Nat), Mi.diffs l = ((l.zip l.tail).filter fun p => p.1 != p.2).length
  | [] => rfl
  | [a] => rfl
  | a :: b :: t => by
    show (if a = b then 0 else 1) + Mi.diffs (b :: t) = (((a, b) :: (b :: t).zip t).filter fun p => p.1 != p.2).length
    rw [diffs_take (b :: t), List.filter_cons]
    show _ + (((b :: t).zip t).filter fun p => p.1 != p.2).length = _
    by_cases h : a = b
    · subst h
      rw [if_pos rfl, if_neg (by simp), Nat.zero_add]
    · rw [if_neg h, if_pos (by simpa using h), List.length_cons, Nat.add_comm]
end
end My
set_option Elab.async false
set_option linter.all false
set_option maxRecDepth 100000
set_option maxHeartbeats 4000000
namespace My
open PySem PySem.Spec PyProof.Rows L2 LamX SX
section
variable {P : Program} {w : World} {K : PySem.W.Frag} {mg : Str → Option Value} {base : Heap} {f : Addr} {fd : FuncData} {n : Nat}
theorem sub1 (r : List Nat) : Txt.slice (S r) (some 1) none = S (r.drop 1) := slice_from (a := r) (i := 1) (by decide)
theorem sgn_len (r : List Nat) : (Mi.sgn r).length ≤ r.length := List.length_filter_le _ _
theorem filt_at {α : Type} {l : List α} {i : Nat} {x : α} {p : α → Bool} (h : l[i]? = some x) : (l.take (i + 1)).filter p = if p x = true then (l.take i).filter p ++ [x] else (l.take i).filter p := by
  rw [take_at h, List.filter_append]
  by_cases e : p x = true
  · rw [if_pos e, List.filter_cons, if_pos e]; rfl
  · rw [if_neg e, List.filter_cons, if_neg e, List.filter_nil, List.append_nil]
theorem ok_waves (T : Txt K mg) (F : C8.Def K mg "waves_in" (top 19) f fd) (b : Binds K fd ["row"] []) (C : CalN n P w K mg base 1 "signs_of" spSigns []) : FnN n P w K mg base 2 f fd ["row"] spWaves := by
  refine fnN F.fn scWaves (fun vs H Q E h => ?_) (fun cdv A outer s H vs Q E hr h => ?_)
  · obtain ⟨r, rfl, _⟩ := h; rfl
  · obtain ⟨r, rfl, hl, k⟩ := h
    refine ⟨_, bn_cons (sn_set (i := 1) scWaves.nd rfl (.inl rfl) (en_c C hr (by decide) (by rfl) (.of (pa_cons (pv 0) pa_nil))))
      (.of (pss_one (ps_ret (pe_op op_add pe_int (pe_callB call_len_seq (by rfl) T.len PySem.boot_len (pa_cons
        (pe_lc (own := [("one", 2), ("other", 3)]) (g := gTup K 2 (gCons (gName 2) (gCons (gName 3) gNil))) (tt := tTest (tOp rNe (tVar 2) (tVar 3))) rfl scWaves.nd (pi_zipS (by rfl) T.zip (pa_cons (pv 1) (pa_cons (pe_slice C8.sl_txt (pv 1) (po_some pe_int) po_none) pa_nil))) (blkOk_by (own := [("one", 2), ("other", 3)]) (N := ["row", "signs", "one", "other"]) (sc := C8.fnScope (top 19)) (by decide +kernel))
          (fun _ _ _ _ _ => pg_tup (n := 2) rfl (pgs_cons (pg_name (i := 2) scWaves.nd rfl (Or.inl rfl)) (pgs_cons (pg_name (i := 3) scWaves.nd rfl (Or.inl rfl)) pgs_nil)))
          (fun _ _ _ _ _ => pts_one (pt_cmpR op_ne (pv 2) (pv 3) (nomark _))) (fun _ _ _ _ _ => pe_int)) pa_nil)))))), ?_⟩
    have hsl : (Mi.sgn r).length ≤ 10 := Nat.le_trans (sgn_len r) hl
    refine ⟨_, rfl, r, rfl, hl, _, rfl, _, rfl, _, rfl, _, rfl, ?_, ?_⟩
    · rw [S_len]
      exact Nat.le_trans hsl (by decide)
    rw [sub1]
    refine ⟨_, _, rfl, fun D hD => ?_⟩
    have hmin : min (S (Mi.sgn r)).cps.size (S ((Mi.sgn r).drop 1)).cps.size = ((Mi.sgn r).zip (Mi.sgn r).tail).length := by
      rw [List.length_zip, ← List.drop_one]
      simp [S]
    refine lc_pure walk_zipS hD (fun i => ((((Mi.sgn r).zip (Mi.sgn r).tail).take i).filter fun p => p.1 != p.2).map fun _ => V.int 1) rfl (fun _ _ => trivial) (fun i hi => ?_) (fun i x H1 H2 Q1 Q2 hi sm hy q1 q2 => ?_) fun H' sm hH => ?_
    · rw [List.length_map]
      refine Nat.lt_of_le_of_lt (Nat.le_trans (List.length_filter_le _ _) (Nat.le_trans (List.length_take_le' _ _) ?_)) (show 10 < sizeLine by decide)
      rw [List.length_zip]
      omega
    · obtain ⟨A1, a, c, rfl, hT, rfl, ha, hc⟩ := hy
      have hp : ((Mi.sgn r).zip (Mi.sgn r).tail)[i]? = some (a, c) := by
        rw [List.getElem?_zip_eq_some, ← List.drop_one]
        exact ⟨by simpa [S] using ha, by simpa [S] using hc⟩
      refine ⟨A1, _, rfl, SqT.of upd_same, rfl, _, _, rfl, _, _, rfl, rfl, ?_⟩
      refine ⟨rfl, _, rfl, _, rfl, rfl, _, rfl, ?_⟩
      have st := filt_at (p := fun p : Nat × Nat => p.1 != p.2) hp
      by_cases h : a = c
      · have e1 : (!decide (V.str ⟨#[a]⟩ = V.str ⟨#[c]⟩)) = false := by simp [h]
        rw [e1]
        rw [if_neg (by simp [h])] at st
        exact iteF (q2 _ (by rw [st]) (same_new hT))
      · have e1 : (!decide (V.str ⟨#[a]⟩ = V.str ⟨#[c]⟩)) = true := by simp [h]
        rw [e1]
        rw [if_pos (by simp [h])] at st
        exact iteT (q1 _ _ (by rw [st, List.map_append]; rfl) (same_new hT))
    · refine ⟨D, _, rfl, .inl (SqL.of hH), _, _, rfl, rfl, ?_⟩
      rw [hmin, List.take_length, List.length_map, ← diffs_take]
      exact k _ sm
end
end My
set_option Elab.async false
set_option linter.all false
set_option maxRecDepth 100000
set_option maxHeartbeats 4000000
namespace My
open PySem PySem.Spec PyProof.Rows L2 LamX SX
abbrev rowsV (l : List (List Nat)) : List V := l.map vR
def spSpell : Sp := fun vs H Q _ => ∃ (a : Addr) (ws : List (List Nat)), vs = [.ref a] ∧ H a = some (.lst (rowsV ws)) ∧ ws.length ≤ 5 ∧ (∀ x ∈ ws, x.length ≤ 3) ∧ ∀ H' p, Same H H' → H' p = some (.lst (rowsV (Mi.spell ws))) → Q (.ref p) H'
theorem spell_len : ∀ (ws : List (List Nat)), (∀ x ∈ ws, x.length ≤ 3) → (Mi.spell ws).length ≤ 3 ^ ws.length := by
  refine Mi.rev_ind (fun _ => by decide) fun ws x ih h => ?_
  rw [Mi.spell_snoc, List.length_flatMap]
  have h1 := ih fun y hy => h y (List.mem_append_left _ hy)
  have h2 := h x (by simp)
  have : ((Mi.spell ws).map fun t => (x.map fun s => t ++ [s]).length).sum = (Mi.spell ws).length * x.length := by
    generalize Mi.spell ws = l
    induction l with
    | nil => simp
    | cons t l ih => rw [List.map_cons, List.sum_cons, ih, List.length_map, List.length_cons, Nat.add_mul, Nat.one_mul, Nat.add_comm]
  rw [this, List.length_append, List.length_singleton, Nat.pow_succ]
  exact Nat.mul_le_mul h1 h2
theorem spell_each {ws : List (List Nat)} {t : List Nat} (h : t ∈ Mi.spell ws) : t.length = ws.length := ((Mi.mem_spell ws t).mp h).1
theorem yesT {σ : L2.St} {H : Hp} {F G : Hp → Prop} (h : F H) : tYes σ H (fun b H' => if b = true then F H' else G H') := by
  show if true = true then F H else G H
  rw [if_pos rfl]
  exact h
theorem take_le {α : Type} {l : List α} {i n : Nat} (h : l.length ≤ n) : (l.take i).length ≤ n := Nat.le_trans (List.length_take_le' _ _) h
section
variable {P : Program} {w : World} {K : PySem.W.Frag} {mg : Str → Option Value} {base : Heap} {f : Addr} {fd : FuncData} {n : Nat}
theorem scSpell : FnScope ["wishes", "found", "wish", "text", "sign"] ["wishes"] (C8.fnScope (top 30)) := C8.fnScope_by (by decide +kernel)
theorem ok_spell (T : Txt K mg) (F : C8.Def K mg "spelled" (top 30) f fd) (b : Binds K fd ["wishes"] []) : C8.Cal P w K mg base 1 "spelled" spSpell [] := by
  refine C8.cal0 F b .nil scSpell (fun vs H Q E h => ?_) (fun cdv A outer s H vs Q E hr h => ?_)
  · obtain ⟨a, ws, rfl, _⟩ := h; rfl
  · obtain ⟨a, ws, rfl, ha, hlen, h3, k⟩ := h
    refine ⟨_, pss_cons (ps_set (i := 1) scSpell.nd rfl (.inl rfl) (pe_lst (pa_cons pe_str pa_nil)))
      (pss_cons (ps_for PassesOwn.never rfl (pi_list (pv 0)) (pg_name (i := 2) scSpell.nd rfl (.inr rfl))
        (pss_one (ps_setLc2 (i := 1) (own := [("text", 3), ("sign", 4)]) (vs1 := [4]) (g := gName 3) (tt := tYes) (wi1 := iStr (tVar 2)) (g1 := gName 4) (tt1 := tYes) (te := _) rfl scSpell.nd rfl rfl (by rfl) (pi_list (pv 1))
          (blkOk_by (own := [("text", 3), ("sign", 4)]) (N := ["wishes", "found", "wish", "text", "sign"]) (sc := C8.fnScope (top 30)) (by decide +kernel)) (by decide)
          (fun _ _ _ _ _ => pg_name (i := 3) scSpell.nd rfl (Or.inl rfl)) (fun _ _ _ _ _ => pts_nil) (fun _ _ _ _ _ => pi_str (pv 2)) (fun _ _ _ _ _ => pg_name (i := 4) scSpell.nd rfl (Or.inl rfl)) (fun _ _ _ _ _ => pts_nil)
          (fun _ _ _ _ _ => pe_op op_add_str (pv 3) (pv 4)))))
      (pss_one (ps_ret (pv 1)))), ?_⟩
    refine ⟨by decide, fun p hp => ?_⟩
    refine ⟨_, rfl, a, rfl, ⟨_, SqL.of ((same_new hp) _ _ ha)⟩, ?_⟩
    refine for_list (K := K) (a := a) (xs := rowsV ws) (fun i σ H' => ∃ (p : Addr) (v : Option V), σ = [some (.ref a), some (.ref p), v, none, none] ∧ Same H H' ∧ H' p = some (.lst (rowsV (Mi.spell (ws.take i))))) ⟨p, none, rfl, same_new hp, upd_same⟩ (fun i σ H' _ ⟨_, _, _, sm, _⟩ => SqL.of (sm _ _ ha)) ?_ ?_
    · rintro i x σ H1 hx ⟨q, v, rfl, sm, hq⟩
      obtain ⟨wi, hw, rfl⟩ := map_at hx
      have hw3 := h3 wi (List.mem_of_getElem? hw)
      have hws : ∀ x ∈ ws.take i, x.length ≤ 3 := fun x hx => h3 x (List.mem_of_mem_take hx)
      have hl1 := spell_len (ws.take i) hws
      have hti : (ws.take i).length ≤ 5 := take_le hlen
      have hl2 : (Mi.spell (ws.take i)).length ≤ 243 := Nat.le_trans hl1 (Nat.pow_le_pow_right (by decide) hti)
      generalize hF : Mi.spell (ws.take i) = L at hq hl2
      have each : ∀ t ∈ L, t.length ≤ 5 := fun t ht => by
        rw [← hF] at ht
        rw [spell_each ht]
        exact hti
      refine ⟨_, rfl, q, rfl, ⟨_, SqL.of hq⟩, fun D hD => ?_⟩
      refine ⟨fun j m H2 => m = L.length - j ∧ j ≤ L.length ∧ Same H1 H2 ∧ H2 D = some (.lst (rowsV ((L.take j).flatMap fun t => wi.map fun s => t ++ [s]))), ⟨_, rfl, Nat.zero_le _, same_new hD, upd_same⟩, ?_⟩
      rintro j m H2 ⟨rfl, hj, sm2, hH2⟩
      have hq2 := sm2 _ _ hq
      by_cases hlt : j < L.length
      · refine .inr ⟨⟨rowsV L, vR L[j], SqL.of hq2, by rw [List.getElem?_map, List.getElem?_eq_getElem hlt]; rfl⟩, fun H3 => Same H1 H3 ∧ H3 D = some (.lst (rowsV ((L.take (j + 1)).flatMap fun t => wi.map fun s => t ++ [s]))), fun H' z => ⟨L.length - (j + 1), by omega, rfl, hlt, z.1, z.2⟩, fun x H' y => ?_⟩
        obtain ⟨rfl, hy⟩ := y
        have hy := hy _ (SqL.of hq2)
        rw [List.getElem?_map, List.getElem?_eq_getElem hlt] at hy
        obtain rfl := Option.some.inj hy
        refine ⟨rfl, yesT ⟨_, rfl, _, rfl, ?_⟩⟩
        have htl := each _ (List.getElem_mem hlt)
        generalize hL : L[j] = t at htl
        have hLj : L[j]? = some t := by rw [List.getElem?_eq_getElem hlt, hL]
        refine ⟨fun c m H3 => m = wi.length - c ∧ c ≤ wi.length ∧ Same H1 H3 ∧ H3 D = some (.lst (rowsV (((L.take j).flatMap fun t => wi.map fun s => t ++ [s]) ++ (wi.take c).map fun s => t ++ [s]))), ⟨_, rfl, Nat.zero_le _, sm2, by rw [List.take_zero, List.map_nil, List.append_nil]; exact hH2⟩, ?_⟩
        rintro c m H3 ⟨rfl, hc, sm3, hH3⟩
        have hsz : (S wi).cps.size = wi.length := by simp [S]
        by_cases hlc : c < wi.length
        · refine .inr ⟨by show c < (S wi).cps.size; omega, fun H4 => Same H1 H4 ∧ H4 D = some (.lst (rowsV (((L.take j).flatMap fun t => wi.map fun s => t ++ [s]) ++ (wi.take (c + 1)).map fun s => t ++ [s]))), fun H' z => ⟨wi.length - (c + 1), by omega, rfl, hlc, z.1, z.2⟩, fun x H' y => ?_⟩
          obtain ⟨rfl, sg, hsg, rfl⟩ := y
          have hsg' : wi[c]? = some sg := by simpa [S] using hsg
          refine ⟨rfl, yesT ⟨_, rfl, _, rfl, _, _, rfl, rfl, ?_, ?_⟩⟩
          · rw [S_len]
            show t.length + 1 ≤ sizeLine
            exact Nat.le_trans (Nat.add_le_add_right htl 1) (by decide)
          · refine ⟨_, hH3, ?_, same_upd sm3 hD, ?_⟩
            · rw [List.length_map, List.length_append, List.length_map]
              have e1 : ((L.take j).flatMap fun t => wi.map fun s => t ++ [s]).length ≤ 243 * 3 := by
                have e2 : ∀ l : List (List Nat), (l.flatMap fun t => wi.map fun s => t ++ [s]).length = l.length * wi.length := fun l => by
                  induction l with
                  | nil => simp
                  | cons t l ih => rw [List.flatMap_cons, List.length_append, ih, List.length_map, List.length_cons, Nat.add_mul, Nat.one_mul, Nat.add_comm]
                rw [e2]
                exact Nat.mul_le_mul (take_le hl2) hw3
              have e3 : (wi.take c).length ≤ 3 := take_le hw3
              refine Nat.lt_of_le_of_lt (Nat.add_le_add e1 e3) (by decide)
            · rw [upd_same, take_at hsg', show (S t ++ (⟨#[sg]⟩ : Str)) = S (t ++ [sg]) from S_cat t [sg]]
              simp only [rowsV, List.map_append, List.append_assoc]
              rfl
        · have e : c = wi.length := by omega
          subst e
          rw [List.take_length] at hH3
          refine .inl ⟨by show (S wi).cps.size ≤ wi.length; omega, sm3, ?_⟩
          rw [take_at hLj, List.flatMap_append, List.flatMap_cons, List.flatMap_nil, List.append_nil]
          exact hH3
      · have e : j = L.length := by omega
        subst e
        rw [List.take_length] at hH2
        refine .inl ⟨⟨_, SqL.of hq2, by rw [List.length_map]; exact Nat.le_refl _⟩, D, _, rfl, sm.trans sm2, ?_⟩
        rw [take_at hw, Mi.spell_snoc, hF]
        exact hH2
    · rintro σ H1 ⟨q, v, rfl, sm, hq⟩
      rw [List.length_map, List.take_length] at hq
      exact ⟨_, rfl, k _ _ sm hq⟩
end
end My
set_option Elab.async false
set_option linter.all false
set_option maxRecDepth 100000
set_option maxHeartbeats 4000000
namespace My
open PySem PySem.Spec PyProof.Rows L2 LamX SX
abbrev pl (m : Nat) : Prop := m ∈ [1, 2, 3, 4, 5]
theorem pl_le {m : Nat} (h : pl m) : 1 ≤ m ∧ m ≤ 5 := by
  simp only [pl, List.mem_cons, List.not_mem_nil, or_false] at h
  omega
def spAll : Sp := fun vs H Q _ => ∃ m : Nat, pl m ∧ vs = [.int m] ∧ ∀ H' q, Same H H' → H' q = some (.lst (rowsV (Mi.rowsL m))) → Q (.ref q) H'
def spBL : Sp := fun vs H Q _ => ∃ r, vs = [vR r] ∧ r.length ≤ 10 ∧ Mi.sgn r ≠ [] ∧ Q (.bl (Mi.bl r)) H
def spTold : Sp := fun vs H Q _ => ∃ m : Nat, pl m ∧ vs = [.int m] ∧ ∀ H' q, Same H H' → H' q = some (.tup (rowsV (Mi.told m))) → Q (.ref q) H'
def spMany : Sp := fun vs H Q _ => ∃ m : Nat, pl m ∧ vs = [.int m] ∧ ∀ H', Same H H' → Q (.int (Mi.told m).length) H'
def labOk (v : Int) : Prop := v ≠ 0 ∧ -1000 ≤ v ∧ v ≤ 1000
def spLabel : Sp := fun vs H Q _ => ∃ v : Int, vs = [.int v] ∧ labOk v ∧ Q (.bl true) H
theorem flat_rep (k : Nat) (v : V) : (List.replicate k [v]).flatten = List.replicate k v := by
  induction k with
  | zero => rfl
  | succ k ih => rw [List.replicate_succ, List.flatten_cons, ih, List.replicate_succ]; rfl
theorem rows_mem {m : Nat} {r : List Nat} (h : r ∈ Mi.rowsL m) : r.length = m ∧ (∀ c ∈ r, c = 43 ∨ c = 45 ∨ c = 48) ∧ Mi.sgn r ≠ [] := by
  have q := Mi.mem_rows.mp h
  exact ⟨q.1.1, q.1.2, Mi.sgn_ne q⟩
section
variable {P : Program} {w : World} {K : PySem.W.Frag} {mg : Str → Option Value} {base : Heap} {f : Addr} {fd : FuncData} {n : Nat}
theorem scAll : FnScope ["places", "row"] ["places"] (C8.fnScope (top 31)) := C8.fnScope_by (by decide +kernel)
theorem ok_all (T : Txt K mg) (F : C8.Def K mg "all_rows" (top 31) f fd) (b : Binds K fd ["places"] []) (C : C8.Cal P w K mg base 1 "spelled" spSpell []) : C8.Cal P w K mg base 2 "all_rows" spAll [] := by
  refine C8.cal0 F b .nil scAll (fun vs H Q E h => ?_) (fun cdv A outer s H vs Q E hr h => ?_)
  · obtain ⟨m, _, rfl, _⟩ := h; rfl
  · obtain ⟨m, hm, rfl, k⟩ := h
    refine ⟨_, pss_one (ps_ret (pe_lc (own := [("row", 1)]) (g := gName 1) (tt := tTest (tOp rNe (tVar 1) (tOp rMulS (tC (vR [48])) (tVar 0)))) rfl scAll.nd
      (pi_list (C8.pe_c C hr (by decide) (by rfl) (pa_cons (pe_op op_rep (pe_lst (pa_cons (C8.pe_gc (by rfl) T.gs) pa_nil)) (pv 0)) pa_nil)))
      (blkOk_by (own := [("row", 1)]) (N := ["places", "row"]) (sc := C8.fnScope (top 31)) (by decide +kernel))
      (fun _ _ _ _ _ => pg_name (i := 1) scAll.nd rfl (Or.inl rfl)) (fun _ _ _ _ _ => pts_one (pt_cmpR op_ne (pv 1) (pe_op op_mulS (C8.pe_gc (by rfl) T.gn) (pv 0)) (nomark _))) (fun _ _ _ _ _ => pv 1))), ?_⟩
    have hb := pl_le hm
    refine ⟨by decide, fun p hp => ⟨_, rfl, p, _, _, rfl, rfl, upd_same, by omega, by omega, ?_, fun p2 hp2 => ?_⟩⟩
    · show 1 * (m : Int).toNat ≤ sizeLine
      rw [Int.toNat_natCast]
      exact Nat.le_trans (show 1 * m ≤ 5 by omega) (by decide)
    have sm0 : Same H (upd (upd H p (.lst [vR Mi.sg3])) p2 (.lst (List.replicate m [vR Mi.sg3]).flatten)) := same_upd (same_new hp) (by
      cases e : H p2 with
      | none => rfl
      | some o => rw [same_new hp _ _ e] at hp2; cases hp2)
    refine ⟨p2, List.replicate m Mi.sg3, rfl, ?_, ?_, ?_, fun H2 q sm hq => ?_⟩
    · rw [upd_same, Int.toNat_natCast, flat_rep, rowsV, List.map_replicate]
    · rw [List.length_replicate]; exact hb.2
    · intro x hx
      rw [(List.mem_replicate.mp hx).2]
      decide
    have smA := sm0.trans sm
    refine ⟨q, rfl, ⟨_, SqL.of hq⟩, fun D hD => ?_⟩
    have hlen : (Mi.spell (List.replicate m Mi.sg3)).length ≤ 243 := by
      refine Nat.le_trans (spell_len _ fun x hx => by rw [(List.mem_replicate.mp hx).2]; decide) ?_
      rw [List.length_replicate]
      exact Nat.pow_le_pow_right (by decide) hb.2
    have hrow : ∀ r, r ∈ Mi.spell (List.replicate m Mi.sg3) → r.length = m := fun r hr' => by rw [spell_each hr', List.length_replicate]
    have hU : Mi.rowsL m = (Mi.spell (List.replicate m Mi.sg3)).filter fun r => r != Mi.zer m := rfl
    generalize Mi.spell (List.replicate m Mi.sg3) = L at hq hlen hrow hU
    refine lc_pure (walk_list (K := K) (a := q) (xs := rowsV L)) hD (fun i => rowsV ((L.take i).filter fun r => r != Mi.zer m)) rfl (fun H' s' => SqL.of (s' _ _ hq)) (fun i hi => ?_) (fun i x H3 H4 Q1 Q2 hi sm3 hy q1 q2 => ?_) fun H' sm3 hH => ?_
    · rw [List.length_map]
      exact Nat.lt_of_le_of_lt (Nat.le_trans (List.length_filter_le _ _) (take_le hlen)) (by decide)
    · obtain ⟨rfl, hx⟩ := hy
      obtain ⟨r, hr1, rfl⟩ := map_at hx
      have st := filt_at (p := fun r : List Nat => r != Mi.zer m) hr1
      refine ⟨rfl, _, rfl, _, rfl, 48, m, rfl, rfl, by omega, by omega, rfl, _, rfl, ?_⟩
      rw [Int.toNat_natCast]
      by_cases h : r = Mi.zer m
      · have e1 : (!decide (vR r = vR (List.replicate m 48))) = false := by rw [h]; simp [Mi.zer]
        rw [e1]
        rw [if_neg (by simp [h])] at st
        exact iteF (q2 _ (by rw [st]) (Same.refl _))
      · have e1 : (!decide (vR r = vR (List.replicate m 48))) = true := by
          have : ¬ vR r = vR (List.replicate m 48) := fun z => h (S_inj (V.str.inj z))
          rw [decide_eq_false this]
          rfl
        rw [e1]
        rw [if_pos (by simpa using h)] at st
        exact iteT ⟨_, rfl, q1 _ _ (by rw [st, rowsV, List.map_append]; rfl) (Same.refl _)⟩
    · rw [List.length_map, List.take_length, ← hU] at hH
      exact k _ _ (smA.trans sm3) hH
theorem scBL : FnScope ["row"] ["row"] (C8.fnScope (top 32)) := C8.fnScope_by (by decide +kernel)
theorem bl_at {r : List Nat} {c : Nat} {t : List Nat} (e : Mi.sgn r = c :: t) : Mi.bl r = decide (c = 43) := by
  unfold Mi.bl
  rw [e]
  by_cases h : c = 43
  · subst h; rfl
  · simp [h]
theorem ok_bl (T : Txt K mg) (F : C8.Def K mg "begins_left" (top 32) f fd) (b : Binds K fd ["row"] []) (C : CalN n P w K mg base 1 "signs_of" spSigns []) : CalN n P w K mg base 2 "begins_left" spBL [] := by
  refine ⟨f, fd, ["row"], [], fnN F.fn scBL (fun vs H Q E h => ?_) (fun cdv A outer s H vs Q E hr h => ?_), F.mgf, F.kp, b, .nil⟩
  · obtain ⟨r, rfl, _⟩ := h; rfl
  · obtain ⟨r, rfl, hl, hne, k⟩ := h
    refine ⟨_, bn_one (sn_ret (en_cmpR op_eq (en_ix ix_str (en_c C hr (by decide) (by rfl) (.of (pa_cons (pv 0) pa_nil))) (.of pe_int) (fun _ _ => rfl)) (.of (C8.pe_gc (by rfl) T.gl)) (nomark _))), ?_⟩
    cases e : Mi.sgn r with
    | nil => exact absurd e hne
    | cons c t =>
      refine ⟨_, rfl, r, rfl, hl, S (Mi.sgn r), 0, c, rfl, rfl, ?_, ?_, rfl, ?_⟩
      · rw [S_len]
        exact Nat.le_trans (Nat.le_trans (sgn_len r) hl) (by decide)
      · rw [e]
        exact atI_nat (j := 0) (xs := c :: t) rfl
      · have e1 : decide (V.str ⟨#[c]⟩ = vR [43]) = Mi.bl r := by
          rw [bl_at e]
          by_cases h : c = 43
          · subst h; simp
          · have : ¬ V.str ⟨#[c]⟩ = vR [43] := fun z => h (by
              have := S_inj (a := [c]) (b := [43]) (V.str.inj z)
              exact (List.cons.inj this).1)
            rw [decide_eq_false this, decide_eq_false h]
        rw [e1]
        exact k
theorem scTold : FnScope ["places", "row"] ["places"] (C8.fnScope (top 33)) := C8.fnScope_by (by decide +kernel)
theorem ok_told (T : Txt K mg) (F : C8.Def K mg "told_rows" (top 33) f fd) (b : Binds K fd ["places"] []) (C : C8.Cal P w K mg base 2 "all_rows" spAll []) (C2 : CalN n P w K mg base 2 "begins_left" spBL []) : CalN n P w K mg base 3 "told_rows" spTold [] := by
  refine ⟨f, fd, ["places"], [], fnN F.fn scTold (fun vs H Q E h => ?_) (fun cdv A outer s H vs Q E hr h => ?_), F.mgf, F.kp, b, .nil⟩
  · obtain ⟨m, _, rfl, _⟩ := h; rfl
  · obtain ⟨m, hm, rfl, k⟩ := h
    refine ⟨_, bn_one (sn_ret (en_callTy call_tuple_of (by rfl) T.tuple (by decide +kernel) (an_cons (en_lc (own := [("row", 1)]) (g := gName 1) (tt := tB (tCall spBL [] C8.E0 (tCons (tVar 1) tNil))) (te := tVar 1) rfl scTold.nd
      (.of (pi_list (C8.pe_c C hr (by decide) (by rfl) (pa_cons (pv 0) pa_nil)))) (blkOk_by (own := [("row", 1)]) (N := ["places", "row"]) (sc := C8.fnScope (top 33)) (by decide +kernel))
      (fun _ _ _ _ _ => pg_name (i := 1) scTold.nd rfl (Or.inl rfl)) (fun _ _ _ _ _ => cn_one (tn_val (en_c C2 hr (by decide) (by rfl) (.of (pa_cons (pv 1) pa_nil))))) (fun _ _ _ _ _ => .of (pv 1))) an_nil))), ?_⟩
    refine ⟨_, rfl, m, hm, rfl, fun H2 q sm hq => ⟨q, rfl, ⟨_, SqL.of hq⟩, fun D hD => ?_⟩⟩
    have hlen : (Mi.rowsL m).length ≤ 242 := Mi.rows_len hm
    have hrow : ∀ r, r ∈ Mi.rowsL m → r.length ≤ 10 ∧ Mi.sgn r ≠ [] := fun r hr' => ⟨by rw [(rows_mem hr').1]; have := pl_le hm; omega, (rows_mem hr').2.2⟩
    have hU : Mi.told m = (Mi.rowsL m).filter Mi.bl := rfl
    generalize Mi.rowsL m = L at hq hlen hrow hU
    refine lc_pure (walk_list (K := K) (a := q) (xs := rowsV L)) hD (fun i => rowsV ((L.take i).filter Mi.bl)) rfl (fun H' s' => SqL.of (s' _ _ hq)) (fun i hi => ?_) (fun i x H3 H4 Q1 Q2 hi sm3 hy q1 q2 => ?_) fun H' sm3 hH => ?_
    · rw [List.length_map]
      exact Nat.lt_of_le_of_lt (Nat.le_trans (List.length_filter_le _ _) (take_le hlen)) (by decide)
    · obtain ⟨rfl, hx⟩ := hy
      obtain ⟨r, hr1, rfl⟩ := map_at hx
      have st := filt_at (p := Mi.bl) hr1
      obtain ⟨h1, h2⟩ := hrow r (List.mem_of_getElem? hr1)
      refine ⟨rfl, _, rfl, r, rfl, h1, h2, _, rfl, ?_⟩
      refine ite2 (fun h => ?_) fun h => ?_
      · rw [if_pos h] at st
        exact ⟨_, rfl, q1 _ _ (by rw [st, rowsV, List.map_append]; rfl) (Same.refl _)⟩
      · rw [if_neg h] at st
        exact q2 _ (by rw [st]) (Same.refl _)
    · rw [List.length_map, List.take_length, ← hU] at hH
      refine ⟨D, _, rfl, .inl ⟨SqL.of hH, fun l hl => k _ _ ?_ upd_same⟩⟩
      exact (sm.trans sm3).trans (same_new hl)
theorem scMany : FnScope ["places"] ["places"] (C8.fnScope (top 34)) := C8.fnScope_by (by decide +kernel)
theorem ok_many (T : Txt K mg) (F : C8.Def K mg "many_left" (top 34) f fd) (b : Binds K fd ["places"] []) (C : CalN n P w K mg base 3 "told_rows" spTold []) : CalN n P w K mg base 4 "many_left" spMany [] := by
  refine ⟨f, fd, ["places"], [], fnN F.fn scMany (fun vs H Q E h => ?_) (fun cdv A outer s H vs Q E hr h => ?_), F.mgf, F.kp, b, .nil⟩
  · obtain ⟨m, _, rfl, _⟩ := h; rfl
  · obtain ⟨m, hm, rfl, k⟩ := h
    refine ⟨_, bn_one (sn_ret (en_callB call_len_seq (by rfl) T.len PySem.boot_len (an_cons (en_c C hr (by decide) (by rfl) (.of (pa_cons (pv 0) pa_nil))) an_nil))), ?_⟩
    refine ⟨_, rfl, m, hm, rfl, fun H' q sm hq => ⟨q, _, rfl, .inr (SqT.of hq), ?_⟩⟩
    rw [List.length_map]
    exact k _ sm
theorem scLabel : FnScope ["value"] ["value"] (C8.fnScope (top 35)) := C8.fnScope_by (by decide +kernel)
theorem ok_label (T : Txt K mg) (F : C8.Def K mg "is_label" (top 35) f fd) (b : Binds K fd ["value"] []) (C : C8.Cal P w K mg base 2 "is_within" spWithin []) : C8.Cal P w K mg base 3 "is_label" spLabel [] := by
  refine C8.cal0 F b .nil scLabel (fun vs H Q E h => ?_) (fun cdv A outer s H vs Q E hr h => ?_)
  · obtain ⟨v, rfl, _⟩ := h; rfl
  · obtain ⟨v, rfl, ⟨h0, h1, h2⟩, k⟩ := h
    refine ⟨_, pss_one (ps_ret (pe_and (C8.pe_c C hr (by decide) (by rfl) (pa_cons (pv 0) (pa_cons (pe_un un_neg (C8.pe_gc (by rfl) T.gm)) (pa_cons (C8.pe_gc (by rfl) T.gm) pa_nil)))) (pe_one (pe_cmpR op_ne (pv 0) pe_int (nomark _))))), ?_⟩
    refine ⟨_, rfl, _, rfl, v, _, _, rfl, true, ?_, iteT ⟨_, rfl, rfl, ?_⟩⟩
    · rw [decide_eq_true h1, decide_eq_true h2]
      rfl
    · have : ¬ V.int v = V.int 0 := fun z => h0 (V.int.inj z)
      rw [decide_eq_false this]
      exact k
end
end My
set_option Elab.async false
set_option linter.all false
set_option maxRecDepth 100000
set_option maxHeartbeats 4000000
namespace My
open PySem PySem.Spec PyProof.Rows L2 LamX SX
/-! ### dicts whose keys are rows -/
theorem merge_app : ∀ (more acc : List (Key × V)), (∀ kv ∈ more, valV acc kv.1 = none) → (more.map (·.1)).Nodup → mergeK acc more = acc ++ more
  | [], acc, _, _ => by rw [List.append_nil]; rfl
  | (k, v) :: more, acc, h, nd => by
    show mergeK (putK acc k v) more = _
    rw [List.map_cons, List.nodup_cons] at nd
    have hk : valV acc k = none := h (k, v) (List.mem_cons_self ..)
    rw [putK_new v hk, merge_app more (acc ++ [(k, v)]) (fun kv hkv => ?_) nd.2, List.append_assoc]
    · rfl
    · rw [valV_snoc k kv.1 v acc hk, if_neg (fun e => nd.1 (by rw [← e]; exact List.mem_map.mpr ⟨kv, hkv, rfl⟩))]
      exact h kv (List.mem_cons_of_mem _ hkv)
def tabK (L : List (List Nat)) (labs : List Int) : List (Key × V) := keysOf (L.map S) (labs.map V.int)
theorem tabK_cons (r : List Nat) (L : List (List Nat)) (v : Int) (labs : List Int) : tabK (r :: L) (v :: labs) = (.inr (S r), .int v) :: tabK L labs := rfl
theorem valV_tab : ∀ (L : List (List Nat)) (labs : List Int) (r : List Nat), valV (tabK L labs) (.inr (S r)) = (Mi.lookL (L.zip labs) r).map V.int
  | [], _, _ => rfl
  | _ :: _, [], _ => rfl
  | k :: L, v :: labs, r => by
    rw [tabK_cons]
    show _ = (if k = r then some v else Mi.lookL (L.zip labs) r).map V.int
    by_cases e : k = r
    · rw [if_pos e, e]
      exact valV_pos rfl
    · rw [if_neg e, valV_neg (fun z => e (S_inj (Sum.inr.inj z)))]
      exact valV_tab L labs r
theorem keys_tab : ∀ (L : List (List Nat)) (labs : List Int), (tabK L labs).map (·.1) = (L.take labs.length).map fun r => (.inr (S r) : Key)
  | [], _ => by rw [List.take_nil]; rfl
  | _ :: _, [] => rfl
  | r :: L, v :: labs => by
    rw [tabK_cons, List.map_cons, keys_tab L labs]
    rfl
theorem merge_tab {L : List (List Nat)} {labs : List Int} (nd : L.Nodup) : mergeK [] (tabK L labs) = tabK L labs := by
  refine (merge_app (tabK L labs) [] (fun _ _ => rfl) ?_).trans (List.nil_append _)
  rw [keys_tab]
  exact List.Pairwise.map _ (fun a b h z => h (S_inj (Sum.inr.inj z))) (nd.sublist (List.take_sublist ..))
/-! ### the table -/
abbrev tf (m : Nat) (lt td : Addr) : List (Str × V) := [("places", .int m), ("labels", .ref lt), ("told", .ref td)]
theorem tf_pl (m : Nat) (lt td : Addr) : (tf m lt td).lookup ("places" : Str) = some (.int m) := rfl
theorem lp1 : (("labels" : Str) == "places") = false := by decide +kernel
theorem lp2 : (("labels" : Str) == "labels") = true := by decide +kernel
theorem lp3 : (("told" : Str) == "places") = false := by decide +kernel
theorem lp4 : (("told" : Str) == "labels") = false := by decide +kernel
theorem lp5 : (("told" : Str) == "told") = true := by decide +kernel
theorem tf_la (m : Nat) (lt td : Addr) : (tf m lt td).lookup ("labels" : Str) = some (.ref lt) := by
  simp only [tf, List.lookup_cons, lp1, lp2]
theorem tf_to (m : Nat) (lt td : Addr) : (tf m lt td).lookup ("told" : Str) = some (.ref td) := by
  simp only [tf, List.lookup_cons, lp3, lp4, lp5]
theorem tf_no (m : Nat) (lt td : Addr) {x : Str} (h1 : (x == "places") = false) (h2 : (x == "labels") = false) (h3 : (x == "told") = false) : (tf m lt td).lookup x = none := by
  simp only [tf, List.lookup_cons, h1, h2, h3, List.lookup_nil]
theorem pf1 (m : Nat) : putF "places" (.int m) [] = [(("places" : Str), V.int m)] := rfl
theorem pf2 (m : Nat) (lt : Addr) : putF "labels" (.ref lt) [(("places" : Str), V.int m)] = [(("places" : Str), V.int m), (("labels" : Str), V.ref lt)] := by
  show (if ("places" : Str) = "labels" then _ else (("places" : Str), V.int m) :: putF "labels" (.ref lt) []) = _
  rw [if_neg (by decide +kernel)]
  rfl
theorem pf3 (m : Nat) (lt td : Addr) : putF "told" (.ref td) [(("places" : Str), V.int m), (("labels" : Str), V.ref lt)] = tf m lt td := by
  show (if ("places" : Str) = "told" then _ else (("places" : Str), V.int m) :: (if ("labels" : Str) = "told" then _ else (("labels" : Str), V.ref lt) :: putF "told" (.ref td) [])) = _
  rw [if_neg (by decide +kernel), if_neg (by decide +kernel)]
  rfl
def intsV (labs : List Int) : List V := labs.map V.int
/-- a table of m places with these labels stands at t -/
def TabAt (C : Addr) (H : Hp) (t : Addr) (m : Nat) (labs : List Int) : Prop :=
  pl m ∧ labs.length = (Mi.told m).length ∧ (∀ v ∈ labs, labOk v) ∧ ∃ dx lt td : Addr, H t = some (.ins C dx (tf m lt td)) ∧ H lt = some (.tup (intsV labs)) ∧ H td = some (.dK (tabK (Mi.told m) labs))
theorem TabAt.same {C : Addr} {H H' : Hp} {t : Addr} {m : Nat} {labs : List Int} (h : TabAt C H t m labs) (s : Same H H') : TabAt C H' t m labs := by
  obtain ⟨a, b, c, dx, lt, td, h1, h2, h3⟩ := h
  exact ⟨a, b, c, dx, lt, td, s _ _ h1, s _ _ h2, s _ _ h3⟩
def spInit (C : Addr) : Sp := fun vs H Q _ => ∃ (x l dx : Addr) (m : Nat) (labs : List Int), vs = [.ref x, .int m, .ref l] ∧ H x = some (.ins C dx []) ∧ H l = some (.lst (intsV labs)) ∧ pl m ∧ labs.length = (Mi.told m).length ∧ (∀ v ∈ labs, labOk v) ∧
  ∀ H' : Hp, (∀ b o, H b = some o → b ≠ x → H' b = some o) → TabAt C H' x m labs → Q .non H'
structure CTab (K : PySem.W.Frag) (mg : Str → Option Value) (C : Addr) : Prop where
  cl : Cls K C
  nP : NoAttr K C "places"
  nL : NoAttr K C "labels"
  nT : NoAttr K C "told"
  mgC : mg "Table" = some (.ref C)
  ins : C8.InsC K C
section
variable {P : Program} {w : World} {K : PySem.W.Frag} {mg : Str → Option Value} {base : Heap} {f C : Addr} {fd : FuncData} {n : Nat}
abbrev sInit : Stmt := (C8.clsBody (top 36)).getD 0 (.Pass ⟨0, 0, 0, 0⟩)
abbrev sLabAt : Stmt := (C8.clsBody (top 36)).getD 4 (.Pass ⟨0, 0, 0, 0⟩)
theorem all_true (k : Nat) : ((List.replicate k true).all id) = true := by
  induction k with
  | zero => rfl
  | succ k ih => rw [List.replicate_succ, List.all_cons, ih]; rfl
theorem scInit : FnScope ["self", "places", "labels", "label"] ["self", "places", "labels"] (C8.fnScope sInit) := C8.fnScope_by (by decide +kernel)
theorem ok_init (T : Txt K mg) (CT : CTab K mg C) (F : C8.Fun K "__init__" "Table.__init__" sInit f fd) (b : Binds K fd ["self", "places", "labels"] []) (CN : C8.Cal P w K mg base 3 "need_number" spNeedN []) (CL : C8.Cal P w K mg base 1 "is_list" (spIsList K) [])
    (CM : CalN n P w K mg base 4 "many_left" spMany []) (CB : C8.Cal P w K mg base 3 "is_label" spLabel []) (CR : CalN n P w K mg base 3 "told_rows" spTold []) : FnN n P w K mg base 5 f fd ["self", "places", "labels"] (spInit C) := by
  refine fnN F scInit (fun vs H Q E h => ?_) (fun cdv A outer s H vs Q E hr h => ?_)
  · obtain ⟨x, l, dx, m, labs, rfl, _⟩ := h; rfl
  · obtain ⟨x, l, dx, m, labs, rfl, hx, hl, hm, hlen, hok, k⟩ := h
    refine ⟨_, bn_cons (.of (ps_expr (C8.pe_c CN hr (by decide) (by rfl) (pa_cons (pv 1) (pa_cons pe_str (pa_cons pe_int (pa_cons (C8.pe_gc (by rfl) T.gp) pa_nil)))))))
      (bn_cons (sn_if (WN.tn (wn_or (.of (pt_not (pt_val (C8.pe_c CL hr (by decide) (by rfl) (pa_cons (pv 2) pa_nil)))))
          (wn_or (tn_cmpR op_ne (.of (pe_callB call_len_seq (by rfl) T.len PySem.boot_len (pa_cons (pv 2) pa_nil))) (en_c CM hr (by decide) (by rfl) (.of (pa_cons (pv 1) pa_nil))) (nomark _))
            (wn_or1 (.of (pt_not (pt_val (pe_callB (cr_all rfl) (by rfl) T.all (by decide +kernel) (pa_cons (pe_lc (own := [("label", 3)]) (g := gName 3) (tt := tYes) rfl scInit.nd (pi_list (pv 2))
              (blkOk_by (own := [("label", 3)]) (N := ["self", "places", "labels", "label"]) (sc := C8.fnScope sInit) (by decide +kernel)) (fun _ _ _ _ _ => pg_name (i := 3) scInit.nd rfl (Or.inl rfl)) (fun _ _ _ _ _ => pts_nil)
              (fun _ _ _ _ _ => C8.pe_c CB hr (by decide) (by rfl) (pa_cons (pv 3) pa_nil))) pa_nil))))))))) (.of (pss_one ps_never)) bn_nil)
      (bn_cons (.of (ps_fld (pv 0) (pv 1) rfl))
      (bn_cons (.of (ps_fld (pv 0) (pe_callTy call_tuple_of (by rfl) T.tuple (by decide +kernel) (pa_cons (pv 2) pa_nil)) rfl))
      (bn_one (sn_fld (pv 0) (en_dzip rfl (by rfl) T.dict (by rfl) T.zip (an_cons (en_c CR hr (by decide) (by rfl) (.of (pa_cons (pv 1) pa_nil))) (an_cons (.of (pe_fld (pv 0) rfl)) an_nil))) rfl))))), ?_⟩
    have hb := pl_le hm
    have htl := (Mi.told_len hm).1
    refine ⟨_, rfl, m, 1, 6, _, rfl, by omega, by omega, ?_⟩
    refine ⟨_, rfl, l, _, rfl, hl, fun H1 s1 => ⟨true, rfl, iteF ?_⟩⟩
    refine ⟨_, rfl, l, _, rfl, .inl (SqL.of (s1 _ _ hl)), _, rfl, m, hm, rfl, fun H2 s2 => ?_⟩
    have e0 : (!decide (V.int ((intsV labs).length : Nat) = V.int ((Mi.told m).length : Nat))) = false := by
      rw [intsV, List.length_map, hlen]
      simp
    refine ⟨rfl, _, rfl, ?_⟩
    rw [e0]
    refine iteF ?_
    have hl2 := s2 _ _ (s1 _ _ hl)
    refine ⟨_, rfl, l, rfl, ⟨_, SqL.of hl2⟩, fun D hD => ?_⟩
    refine lc_pure0 (walk_list (K := K) (a := l) (xs := intsV labs)) hD (fun i => (List.replicate i true).map V.bl) rfl (fun H' s' => SqL.of (s' _ _ hl2)) (fun i hi => ?_) (fun i v H3 H4 Q1 hi sm3 hy q1 => ?_) fun H3 s3 hH => ?_
    · rw [intsV, List.length_map] at hi
      rw [List.length_map, List.length_replicate]
      exact Nat.lt_of_lt_of_le hi (Nat.le_trans (by omega : labs.length ≤ 121) (by decide))
    · obtain ⟨rfl, hv⟩ := hy
      obtain ⟨u, hu, rfl⟩ := map_at hv
      refine ⟨rfl, _, rfl, u, rfl, hok u (List.mem_of_getElem? hu), q1 _ _ ?_ (Same.refl _)⟩
      rw [List.replicate_succ', List.map_append]
      rfl
    refine ⟨D, _, rfl, SqL.of hH, ?_⟩
    rw [all_true]
    refine ⟨true, rfl, iteF ?_⟩
    have sA : Same H H3 := (s1.trans s2).trans s3
    have hx3 := sA _ _ hx
    have hl3 := sA _ _ hl
    have nlx : l ≠ x := ne_of hl hx (by intro z; cases z)
    refine ⟨_, rfl, _, rfl, x, C, dx, [], rfl, hx3, CT.cl, CT.nP, by decide, ?_⟩
    rw [pf1]
    generalize eH4 : upd H3 x (.ins C dx [(("places" : Str), V.int m)]) = H4
    have hx4 : H4 x = some (.ins C dx [(("places" : Str), V.int m)]) := by rw [← eH4, upd_same]
    have hl4 : H4 l = some (.lst (intsV labs)) := by rw [← eH4, upd_ne nlx]; exact hl3
    have o4 : ∀ b o, H b = some o → b ≠ x → H4 b = some o := fun b o e nb => by rw [← eH4, upd_ne nb]; exact sA _ _ e
    refine ⟨_, rfl, l, _, rfl, .inl ⟨SqL.of hl4, fun lt hlt => ?_⟩⟩
    have nxt : x ≠ lt := ne_of_none hx4 hlt
    refine ⟨_, rfl, x, C, dx, _, rfl, by rw [upd_ne nxt]; exact hx4, CT.cl, CT.nL, by show 1 < 1000; decide, ?_⟩
    rw [pf2]
    generalize eH5 : upd (upd H4 lt (.tup (intsV labs))) x (.ins C dx [(("places" : Str), V.int m), (("labels" : Str), V.ref lt)]) = H5
    have hx5 : H5 x = some (.ins C dx [(("places" : Str), V.int m), (("labels" : Str), V.ref lt)]) := by rw [← eH5, upd_same]
    have hlt5 : H5 lt = some (.tup (intsV labs)) := by rw [← eH5, upd_ne nxt.symm, upd_same]
    have o5 : ∀ b o, H b = some o → b ≠ x → H5 b = some o := fun b o e nb => by
      rw [← eH5, upd_ne nb, upd_ne (ne_of_none (o4 b o e nb) hlt)]
      exact o4 b o e nb
    refine ⟨_, rfl, m, hm, rfl, fun H6 q s6 hq => ?_⟩
    refine ⟨_, rfl, x, C, dx, _, _, rfl, s6 _ _ hx5, CT.cl, CT.nL, ?_, q, lt, (Mi.told m).map S, intsV labs, rfl, .inl ⟨?_, SqT.of (s6 _ _ hlt5)⟩, ?_, fun td htd => ?_⟩
    · simp only [List.lookup_cons, lp1, lp2]
    · refine SqT.of ?_
      rw [List.map_map]
      exact hq
    · rw [List.length_map, intsV, List.length_map, hlen]
    have hx6 := s6 _ _ hx5
    have nxd : x ≠ td := ne_of_none hx6 htd
    refine ⟨_, rfl, x, C, dx, _, rfl, by rw [upd_ne nxd]; exact hx6, CT.cl, CT.nT, by show 2 < 1000; decide, ?_⟩
    rw [pf3]
    refine k _ (fun b o e nb => ?_) ⟨hm, hlen, hok, dx, lt, td, upd_same, ?_, ?_⟩
    · rw [upd_ne nb, upd_ne (ne_of_none (s6 _ _ (o5 b o e nb)) htd)]
      exact s6 _ _ (o5 b o e nb)
    · rw [upd_ne nxt.symm, upd_ne (ne_of_none (s6 _ _ hlt5) htd)]
      exact s6 _ _ hlt5
    · rw [upd_ne nxd.symm, upd_same]
      exact congrArg (fun z => some (HO.dK z)) (merge_tab (Mi.told_nodup hm))
end
end My
set_option Elab.async false
set_option linter.all false
set_option maxRecDepth 100000
set_option maxHeartbeats 4000000
namespace My
open PySem PySem.Spec PyProof.Rows L2 LamX SX
def spLabAt (C : Addr) : Sp := fun vs H Q _ => ∃ (x : Addr) (m : Nat) (labs : List Int) (r : List Nat), vs = [.ref x, vR r] ∧ TabAt C H x m labs ∧ Tk.Rw m r ∧ ∀ H', Same H H' → Q (.int (Mi.lab m labs r)) H'
def spNeedT (C : Addr) : Sp := fun vs H Q _ => ∃ (x dx : Addr) (fs : List (Str × V)) (p : V), vs = [.ref x, p] ∧ H x = some (.ins C dx fs) ∧ Q .non H
def spAbove : Sp := fun vs H Q _ => ∃ r : List Nat, vs = [vR r] ∧ r.length ≤ 5 ∧ ∀ H' q, Same H H' → H' q = some (.lst (rowsV (Mi.abv r))) → Q (.ref q) H'
theorem hu1 {A : Around} {k : Nat} (hr : Room k A) : A.units + 1 < cLine := hu_of hr
section
variable {P : Program} {w : World} {K : PySem.W.Frag} {mg : Str → Option Value} {base : Heap} {f C : Addr} {fd : FuncData} {n : Nat}
theorem scLabAt : FnScope ["self", "row"] ["self", "row"] (C8.fnScope sLabAt) := C8.fnScope_by (by decide +kernel)
theorem ok_labAt (T : Txt K mg) (CT : CTab K mg C) (F : C8.Fun K "label_at" "Table.label_at" sLabAt f fd) (b : Binds K fd ["self", "row"] []) (CB : CalN n P w K mg base 2 "begins_left" spBL []) (CR : C8.Cal P w K mg base 2 "turned_row" spTR []) : FnN n P w K mg base 3 f fd ["self", "row"] (spLabAt C) := by
  refine fnN F scLabAt (fun vs H Q E h => ?_) (fun cdv A outer s H vs Q E hr h => ?_)
  · obtain ⟨x, m, labs, r, rfl, _⟩ := h; rfl
  · obtain ⟨x, m, labs, r, rfl, ⟨hm, hlen, hok, dx, lt, td, hx, hlt, htd⟩, hR, k⟩ := h
    refine ⟨_, bn_one (sn_ret (en_ifExp (tn_val (en_c CB hr (by decide) (by rfl) (.of (pa_cons (pv 1) pa_nil)))) (.of (pe_dget (hu1 hr) (pe_fld (pv 0) rfl) (pv 1) (fun _ _ => rfl)))
      (.of (pe_un un_neg (pe_dget (hu1 hr) (pe_fld (pv 0) rfl) (C8.pe_c CR hr (by decide) (by rfl) (pa_cons (pv 1) pa_nil)) (fun _ _ => rfl)))))), ?_⟩
    have hrl : r.length ≤ 10 := by rw [hR.1.1]; have := pl_le hm; omega
    refine ⟨_, rfl, r, rfl, hrl, Mi.sgn_ne hR, _, rfl, ?_⟩
    rcases Mi.lab_told hlen.symm hR with ⟨e, v, hv, _, el⟩ | ⟨e, v, hv, _, el⟩
    · rw [e]
      refine iteT ⟨_, rfl, x, C, dx, _, _, rfl, hx, CT.cl, CT.nT, tf_to _ _ _, _, rfl, td, .int v, rfl, ?_, ?_⟩
      · have g := DGet.k (k := .inr (S r)) htd
        rw [valV_tab] at g
        unfold Mi.kvs at hv
        rw [hv] at g
        exact g
      · rw [← el]
        exact k _ (Same.refl _)
    · rw [e]
      refine iteF ⟨_, rfl, x, C, dx, _, _, rfl, hx, CT.cl, CT.nT, tf_to _ _ _, _, rfl, r, rfl, hrl, hR.1.2, fun H2 s2 => ⟨td, .int v, rfl, ?_, _, rfl, ?_⟩⟩
      · have g := DGet.k (k := .inr (S (Tk.neg r))) (s2 _ _ htd)
        rw [valV_tab] at g
        unfold Mi.kvs at hv
        rw [hv] at g
        exact g
      · show Q (.int (-v)) H2
        rw [← el]
        exact k _ s2
theorem scNeedT : FnScope ["value", "part"] ["value", "part"] (C8.fnScope (top 38)) := C8.fnScope_by (by decide +kernel)
theorem ok_needT (T : Txt K mg) (CT : CTab K mg C) (F : C8.Def K mg "need_table" (top 38) f fd) {ds : List Value} (b : Binds K fd ["value", "part"] ds) (d : Vals [.str "table"] ds) : C8.Cal P w K mg base 1 "need_table" (spNeedT C) [.str "table"] := by
  refine C8.cal0 F b d scNeedT (fun vs H Q E h => ?_) (fun cdv A outer s H vs Q E hr h => ?_)
  · obtain ⟨x, dx, fs, p, rfl, _⟩ := h; rfl
  · obtain ⟨x, dx, fs, p, rfl, hx, k⟩ := h
    refine ⟨_, pss_one (ps_if (pt_not (pt_val (pe_callB (C8.call_isC CT.ins) (by rfl) T.isi (by decide +kernel) (pa_cons (pv 0) (pa_cons (C8.pe_gc (v := .ref C) (by rfl) ⟨_, CT.mgC, rfl⟩) pa_nil))))) (pss_one ps_never) pss_nil), ?_⟩
    exact ⟨_, rfl, x, dx, fs, rfl, hx, true, rfl, iteF k⟩
theorem scAbove : FnScope ["row", "sign", "other"] ["row"] (C8.fnScope (top 39)) := C8.fnScope_by (by decide +kernel)
theorem ok_above (T : Txt K mg) (F : C8.Def K mg "above_in" (top 39) f fd) (b : Binds K fd ["row"] []) (CS : C8.Cal P w K mg base 1 "spelled" spSpell []) : C8.Cal P w K mg base 2 "above_in" spAbove [] := by
  refine C8.cal0 F b .nil scAbove (fun vs H Q E h => ?_) (fun cdv A outer s H vs Q E hr h => ?_)
  · obtain ⟨r, rfl, _⟩ := h; rfl
  · obtain ⟨r, rfl, hl, k⟩ := h
    refine ⟨_, pss_one (ps_ret (pe_lc (own := [("other", 2)]) (g := gName 2) (tt := tTest (tOp rNe (tVar 2) (tVar 0))) rfl scAbove.nd
      (pi_list (C8.pe_c CS hr (by decide) (by rfl) (pa_cons (pe_lc (own := [("sign", 1)]) (g := gName 1) (tt := tYes) rfl scAbove.nd (pi_str (pv 0)) (blkOk_by (own := [("sign", 1)]) (N := ["row", "sign", "other"]) (sc := C8.fnScope (top 39)) (by decide +kernel))
        (fun _ _ _ _ _ => pg_name (i := 1) scAbove.nd rfl (Or.inl rfl)) (fun _ _ _ _ _ => pts_nil) (fun _ _ _ _ _ => pe_ifExp (pt_cmpR op_eq (pv 1) (C8.pe_gc (by rfl) T.gn) (nomark _)) (C8.pe_gc (by rfl) T.gs) (pv 1))) pa_nil)))
      (blkOk_by (own := [("other", 2)]) (N := ["row", "sign", "other"]) (sc := C8.fnScope (top 39)) (by decide +kernel))
      (fun _ _ _ _ _ => pg_name (i := 2) scAbove.nd rfl (Or.inl rfl)) (fun _ _ _ _ _ => pts_one (pt_cmpR op_ne (pv 2) (pv 0) (nomark _))) (fun _ _ _ _ _ => pv 2))), ?_⟩
    refine ⟨_, rfl, _, rfl, fun D hD => ?_⟩
    refine lc_pure0 walk_str hD (fun i => (r.take i).map fun c => vR (if c = 48 then Mi.sg3 else [c])) rfl (fun _ _ => trivial) (fun i hi => ?_) (fun i x H1 H2 Q1 hi sm hy q1 => ?_) fun H1 s1 hH => ?_
    · rw [List.length_map]
      exact Nat.lt_of_le_of_lt (take_le hl) (by decide)
    · obtain ⟨rfl, c, hc1, rfl⟩ := hy
      have hr1 : r[i]? = some c := by simpa [S] using hc1
      refine ⟨rfl, _, rfl, rfl, _, rfl, ?_⟩
      have e : decide (V.str ⟨#[c]⟩ = vR [48]) = decide (c = 48) := by
        by_cases h : c = 48
        · subst h; simp
        · have : ¬ V.str ⟨#[c]⟩ = vR [48] := fun z => h (List.cons.inj (S_inj (a := [c]) (b := [48]) (V.str.inj z))).1
          rw [decide_eq_false this, decide_eq_false h]
      rw [e]
      by_cases h : c = 48
      · rw [decide_eq_true h]
        exact iteT (q1 _ _ (by rw [take_at hr1, List.map_append, List.map_cons, if_pos h]; rfl) (Same.refl _))
      · rw [decide_eq_false h]
        exact iteF ⟨_, rfl, q1 _ _ (by rw [take_at hr1, List.map_append, List.map_cons, if_neg h]; rfl) (Same.refl _)⟩
    · have e : (r.take (S r).cps.size).map (fun c => vR (if c = 48 then Mi.sg3 else [c])) = rowsV (r.map fun s => if s = 48 then Mi.sg3 else [s]) := by
        rw [show (S r).cps.size = r.length by simp [S], List.take_length, rowsV, List.map_map]
        rfl
      rw [e] at hH
      have h3 : ∀ x ∈ r.map fun s => if s = 48 then Mi.sg3 else [s], x.length ≤ 3 := fun x hx => by
        obtain ⟨c, _, rfl⟩ := List.mem_map.mp hx
        by_cases h : c = 48
        · rw [if_pos h]; decide
        · rw [if_neg h]; show 1 ≤ 3; decide
      refine ⟨D, _, rfl, hH, by rw [List.length_map]; exact hl, h3, fun H2 q s2 hq => ?_⟩
      have sA := s1.trans s2
      refine ⟨q, rfl, ⟨_, SqL.of hq⟩, fun D2 hD2 => ?_⟩
      have hlen : (Mi.spell (r.map fun s => if s = 48 then Mi.sg3 else [s])).length ≤ 243 := by
        refine Nat.le_trans (spell_len _ h3) ?_
        rw [List.length_map]
        exact Nat.pow_le_pow_right (by decide) hl
      have hU : Mi.abv r = (Mi.spell (r.map fun s => if s = 48 then Mi.sg3 else [s])).filter fun o => o != r := rfl
      generalize Mi.spell (r.map fun s => if s = 48 then Mi.sg3 else [s]) = L at hq hlen hU
      refine lc_pure (walk_list (K := K) (a := q) (xs := rowsV L)) hD2 (fun i => rowsV ((L.take i).filter fun o => o != r)) rfl (fun H' s' => SqL.of (s' _ _ hq)) (fun i hi => ?_) (fun i x H3 H4 Q1 Q2 hi sm3 hy q1 q2 => ?_) fun H' sm3 hH => ?_
      · rw [List.length_map]
        exact Nat.lt_of_le_of_lt (Nat.le_trans (List.length_filter_le _ _) (take_le hlen)) (by decide)
      · obtain ⟨rfl, hx⟩ := hy
        obtain ⟨o, ho, rfl⟩ := map_at hx
        have st := filt_at (p := fun o : List Nat => o != r) ho
        refine ⟨rfl, _, rfl, _, rfl, rfl, _, rfl, ?_⟩
        by_cases h : o = r
        · have e1 : (!decide (vR o = vR r)) = false := by rw [h]; simp
          rw [e1]
          rw [if_neg (by simp [h])] at st
          exact iteF (q2 _ (by rw [st]) (Same.refl _))
        · have e1 : (!decide (vR o = vR r)) = true := by
            rw [decide_eq_false fun z => h (S_inj (V.str.inj z))]
            rfl
          rw [e1]
          rw [if_pos (by simpa using h)] at st
          exact iteT ⟨_, rfl, q1 _ _ (by rw [st, rowsV, List.map_append]; rfl) (Same.refl _)⟩
      · rw [List.length_map, List.take_length, ← hU] at hH
        exact k _ _ (sA.trans sm3) hH
end
end My
set_option Elab.async false
set_option linter.all false
set_option maxRecDepth 100000
set_option maxHeartbeats 4000000
namespace My
open PySem PySem.Spec PyProof.Rows L2 LamX SX
def pidx (r : List Nat) : Nat := (Builtin.Str.occurrences (S r) (S [43]) 0 (S r).length 1).headD 0
def pchk (r : List Nat) : Bool := match Builtin.Str.occurrences (S r) (S [43]) 0 (S r).length 1 with
  | i :: _ => decide (i < 5)
  | [] => false
theorem pchk_all {m : Nat} (h : m ∈ [1, 2, 3, 4, 5]) : ∀ r ∈ Mi.told m, pchk r = true := by
  revert m; decide +kernel
theorem pidx_ok {m : Nat} (h : pl m) {r : List Nat} (hr : r ∈ Mi.told m) : ∃ rest, Builtin.Str.occurrences (S r) (S [43]) 0 (S r).length 1 = pidx r :: rest ∧ pidx r < 5 := by
  have q := pchk_all h r hr
  unfold pchk at q
  unfold pidx
  cases e : Builtin.Str.occurrences (S r) (S [43]) 0 (S r).length 1 with
  | nil => rw [e] at q; cases q
  | cons i rest => rw [e] at q; exact ⟨rest, rfl, of_decide_eq_true q⟩
/-! ### the lambda of place_table -/
def lamE : List Stmt → Expr
  | [.Return (some (.Call _ [_, l] _ _)) _] => l
  | _ => .Constant .none 0 ⟨0, 0, 0, 0⟩
def lamArgs : Expr → Arguments
  | .Lambda a _ _ _ => a
  | _ => ⟨[], [], none, [], [], none, []⟩
def lamBody : Expr → Expr
  | .Lambda _ b _ _ => b
  | e => e
def lamScope : Expr → Scope
  | .Lambda _ _ s _ => s
  | _ => ⟨.function, [], false, false, []⟩
abbrev pLam : Expr := lamE (C8.fnBody (top 42))
def lq : Str := "place_table.<locals>.<lambda>"
abbrev tLamB : TE := tOp (rI0 fun i j => .int (i + j)) (tM1 (fun x xs H Q => ∃ a b i rest, x = .str a ∧ xs = [.str b] ∧ Builtin.Str.occurrences a b 0 a.length 1 = i :: rest ∧ Q (.int (i : Nat)) H) (tVar 0) (tC (vR [43]))) (tC (.int 1))
section
variable {P : Program} {w : World} {K : PySem.W.Frag} {mg : Str → Option Value} {base : Heap} {f C : Addr} {fd : FuncData} {n : Nat}
theorem lam_does (T : Txt K mg) : LamDoes P w K mg base 0 ["row"] lq (lamBody pLam) (lamScope pLam) tLamB := fun A outer s H f c hr =>
  pe_op op_add (pe_m1 PySem.F.slot_str_index PySem.F.type_str_index mt_sindex (pv 0) (C8.pe_gc (by rfl) T.gl)) pe_int
def LabOf (fw : Addr) (H : Hp) (v : V) (g : List Nat → Int) : Prop :=
  (v = .ref fw ∧ g = fun r => (Mi.wav r : Int)) ∨ ∃ f c : Addr, v = .ref f ∧ H f = some (LamO lq (lamArgs pLam) (lamBody pLam) (lamScope pLam) f c) ∧ H c = some (CodeO c lq) ∧ g = fun r => (pidx r : Int) + 1
def spTabBy (C fw : Addr) : Sp := fun vs H Q _ => ∃ (m : Nat) (v : V) (g : List Nat → Int), vs = [.int m, v] ∧ pl m ∧ LabOf fw H v g ∧ (∀ r ∈ Mi.told m, labOk (g r)) ∧ ∀ H' t, Same H H' → TabAt C H' t m ((Mi.told m).map g) → Q (.ref t) H'
def spWTab (C : Addr) : Sp := fun vs H Q _ => ∃ m : Nat, vs = [.int m] ∧ pl m ∧ ∀ H' t, Same H H' → TabAt C H' t m ((Mi.told m).map fun r => (Mi.wav r : Int)) → Q (.ref t) H'
def spPTab (C : Addr) (T0 : List (Addr × Str)) : Sp := fun vs H Q _ => ∃ m : Nat, vs = [.int m] ∧ pl m ∧ Tabs T0 H ∧ ∀ H' t labs, ExtN H H' → Tabs T0 H' → TabAt C H' t m labs → Q (.ref t) H'
def tLab (fw : Addr) : TE := fun σ H Q => tCallA 1 (fun a => if a = fw then some spWaves else none) (tCons (tVar 2) tNil) σ H Q ∨ tCallLam 1 ["row"] lq (lamArgs pLam) (lamBody pLam) (lamScope pLam) tLamB (tCons (tVar 2) tNil) σ H Q
theorem scTabBy : FnScope ["places", "label", "row"] ["places", "label"] (C8.fnScope (top 40)) := C8.fnScope_by (by decide +kernel)
theorem scLam : FnScope ["row"] ["row"] (lamScope pLam) := C8.fnScope_by (by decide +kernel)
theorem bind_lam (pm cv ctv u : Value) : bindArgs (PySem.W.kla_fn "<lambda>" lq (lamArgs pLam) (lamBody pLam) (lamScope pLam) [] pm cv ctv) ⟨[u], []⟩ = pure [(("row" : Str), u)] := rfl
theorem told_row {m : Nat} (hm : pl m) {r : List Nat} (h : r ∈ Mi.told m) : r.length ≤ 10 := by
  rw [(Mi.mem_told.mp h).1.1.1]
  have := pl_le hm
  omega
theorem ok_tabBy (T : Txt K mg) {fw : Addr} (F : C8.Def K mg "table_by" (top 40) f fd) (b : Binds K fd ["places", "label"] []) (CN : C8.Cal P w K mg base 3 "need_number" spNeedN []) (CM : MakN n P w K mg base 5 "Table" C (spInit C))
    (CR : CalN n P w K mg base 3 "told_rows" spTold []) (AW : AtN n P w K mg base 2 fw spWaves) : CalN n P w K mg base 7 "table_by" (spTabBy C fw) [] := by
  refine ⟨f, fd, ["places", "label"], [], fnN F.fn scTabBy (fun vs H Q E h => ?_) (fun cdv A outer s H vs Q E hr h => ?_), F.mgf, F.kp, b, .nil⟩
  · obtain ⟨m, v, g, rfl, _⟩ := h; rfl
  · obtain ⟨m, v, g, rfl, hm, hv, hok, k⟩ := h
    have hr2 : Room 2 _ := hr.mono (by decide)
    have hr1 : Room 1 _ := hr.mono (by decide)
    refine ⟨_, bn_cons (.of (ps_expr (C8.pe_c CN hr (by decide) (by rfl) (pa_cons (pv 0) (pa_cons pe_str (pa_cons pe_int (pa_cons (C8.pe_gc (by rfl) T.gp) pa_nil)))))))
      (bn_one (sn_ret (en_mk CM hr (by decide) (by rfl) (an_cons (.of (pv 0)) (an_cons (en_lc (own := [("row", 2)]) (g := gName 2) (tt := tYes)
        (te := tLab fw) rfl scTabBy.nd
        (gn_tup (en_c CR hr (by decide) (by rfl) (.of (pa_cons (pv 0) pa_nil)))) (blkOk_by (own := [("row", 2)]) (N := ["places", "label", "row"]) (sc := C8.fnScope (top 40)) (by decide +kernel))
        (fun _ _ _ _ _ => pg_name (i := 2) scTabBy.nd rfl (Or.inl rfl)) (fun _ _ _ _ _ => .of pts_nil)
        (fun _ _ _ _ _ => EN.or (en_callA (k := 2) (fun a sp e => by
            by_cases h : a = fw
            · rw [if_pos h] at e
              cases e
              rw [h]
              exact AW
            · rw [if_neg h] at e
              cases e) hr2 rfl (by first | exact .inl rfl | exact .inr (.inl rfl) | exact .inr (.inr rfl)) (.of (pa_cons (pv 2) pa_nil)))
          (.of (pe_callLam (k := 0) (y := "row") (lam_does T) scLam hr1 bind_lam rfl (by first | exact .inl rfl | exact .inr (.inl rfl) | exact .inr (.inr rfl)) (pa_cons (pv 2) pa_nil))))) an_nil))))), ?_⟩
    have hb := pl_le hm
    have htl := (Mi.told_len hm).1
    refine ⟨_, rfl, m, 1, 6, _, rfl, by omega, by omega, ?_⟩
    refine ⟨_, rfl, _, rfl, m, hm, rfl, fun H1 q s1 hq => ⟨q, rfl, ⟨_, SqT.of hq⟩, fun D hD => ?_⟩⟩
    refine lc_pure0 (walk_tup (K := K) (a := q) (xs := rowsV (Mi.told m))) hD (fun i => ((Mi.told m).take i).map fun r => V.int (g r)) rfl (fun H' s' => SqT.of (s' _ _ hq)) (fun i hi => ?_) (fun i x H3 H4 Q1 hi sm hy q1 => ?_) fun H3 s3 hH => ?_
    · rw [List.length_map]
      exact Nat.lt_of_le_of_lt (take_le htl) (by decide)
    · obtain ⟨rfl, hx⟩ := hy
      obtain ⟨r, hr0, rfl⟩ := map_at hx
      have hmem := List.mem_of_getElem? hr0
      have st : ((Mi.told m).take (i + 1)).map (fun r => V.int (g r)) = ((Mi.told m).take i).map (fun r => V.int (g r)) ++ [V.int (g r)] := by
        rw [take_at hr0, List.map_append]
        rfl
      refine ⟨rfl, ?_⟩
      rcases hv with ⟨rfl, eg⟩ | ⟨fl, c, rfl, hf, hc, eg⟩
      · refine .inl ⟨fw, spWaves, rfl, if_pos rfl, _, rfl, r, rfl, told_row hm hmem, fun H5 s5 => q1 _ _ ?_ s5⟩
        rw [st, eg]
      · obtain ⟨rest, ho, _⟩ := pidx_ok hm hmem
        have sA : Same H H4 := s1.trans sm
        refine Or.inr ⟨fl, c, rfl, sA _ _ hf, _, rfl, _, rfl, sA _ _ hf, sA _ _ hc, ?_⟩
        refine ⟨_, rfl, ⟨_, rfl⟩, S r, S [43], pidx r, rest, rfl, rfl, ho, _, _, rfl, rfl, q1 _ _ ?_ (Same.refl _)⟩
        rw [st, eg]
    · have e : (rowsV (Mi.told m)).length = (Mi.told m).length := List.length_map _
      rw [e, List.take_length] at hH
      intro x dx nx ndx ne
      refine ⟨x, D, dx, m, (Mi.told m).map g, rfl, upd_same, ?_, hm, List.length_map _, fun v hv' => ?_, fun H' o' TA => ⟨rfl, k H' x (fun b o hb' => ?_) TA⟩⟩
      · rw [upd_ne (ne_of_none hH nx), upd_ne (ne_of_none hH ndx), intsV, List.map_map]
        exact hH
      · obtain ⟨r, hr0, rfl⟩ := List.mem_map.mp hv'
        exact hok r hr0
      · have h3 := s3 _ _ (s1 _ _ hb')
        have nbx := ne_of_none h3 nx
        refine o' b o ?_ nbx
        rw [upd_ne nbx, upd_ne (ne_of_none h3 ndx)]
        exact h3
theorem scWTab : FnScope ["places"] ["places"] (C8.fnScope (top 41)) := C8.fnScope_by (by decide +kernel)
theorem ok_wtab {fw : Addr} (hw : mg "waves_in" = some (.ref fw)) (F : C8.Def K mg "wave_table" (top 41) f fd) (b : Binds K fd ["places"] []) (CB : CalN n P w K mg base 7 "table_by" (spTabBy C fw) []) : FnN n P w K mg base 8 f fd ["places"] (spWTab C) := by
  refine fnN F.fn scWTab (fun vs H Q E h => ?_) (fun cdv A outer s H vs Q E hr h => ?_)
  · obtain ⟨m, rfl, _⟩ := h; rfl
  · obtain ⟨m, rfl, hm, k⟩ := h
    refine ⟨_, bn_one (sn_ret (en_c CB hr (by decide) (by rfl) (.of (pa_cons (pv 0) (pa_cons (C8.pe_gc (v := .ref fw) (by rfl) ⟨_, hw, rfl⟩) pa_nil))))), ?_⟩
    refine ⟨_, rfl, m, _, fun r => (Mi.wav r : Int), rfl, hm, .inl ⟨rfl, rfl⟩, fun r hr0 => ?_, k⟩
    have h1 := (Mi.wave_amounts hm).1 r hr0
    have h2 := pl_le hm
    show labOk (Mi.wav r : Int)
    unfold labOk
    omega
theorem scPTab : FnScope ["places"] ["places"] (C8.fnScope (top 42)) := C8.fnScope_by (by decide +kernel)
theorem lqe : ((("place_table" : Str) ++ ".<locals>.") ++ "<lambda>" : Str) = lq := by decide +kernel
theorem ok_ptab {fw Pt c : Addr} {oc kV doc pm ct : Value} {od an : Option Addr} {osl : Array (Option Value)} (T : Txt K mg)
    (lk : K.lookup f = some ⟨oc, od, .func (PySem.W.fnOf "place_table" "place_table" (C8.fnArgs (top 42)) (C8.fnBody (top 42)) (C8.fnScope (top 42)) .none kV doc pm an (.ref c) ct), osl⟩) (hcd : PySem.W.codeIn K (.ref c) "place_table" = true)
    (TB : TabB base mg c Pt) (CB : CalN n P w K mg base 7 "table_by" (spTabBy C fw) []) :
    FnN n P w K mg base 8 f (PySem.W.fnOf "place_table" "place_table" (C8.fnArgs (top 42)) (C8.fnBody (top 42)) (C8.fnScope (top 42)) .none kV doc pm an (.ref c) ct) ["places"] (spPTab C [(Pt, lq)]) := by
  refine ⟨fun vs H Q E h => ?_, fun A outer s H args us vs Q E hn hr e0 hb r h => ?_⟩
  · obtain ⟨m, rfl, _⟩ := h; rfl
  · obtain ⟨m, rfl, hm, hT, k⟩ := h
    refine run_ofN lk hcd scPTab rfl hn hr e0 hb r fun hr' => ?_
    have pl : PE (cxOf C8.CX0 P w K mg base ["places"] "place_table" (C8.fnScope (top 42)) f (.ref c) A outer s H E).nox pLam (tLamV [(Pt, lq)] lq (lamArgs pLam) (lamBody pLam) (lamScope pLam)) := by
      have z := pe_lam (X := (cxOf C8.CX0 P w K mg base ["places"] "place_table" (C8.fnScope (top 42)) f (.ref c) A outer s H E).nox) (T := [(Pt, lq)]) (c := c) (P := Pt) (params := lamArgs pLam) (body := lamBody pLam) (scope := lamScope pLam) (pos := (pLam).pos) TB rfl
        (by rw [show (cxOf C8.CX0 P w K mg base ["places"] "place_table" (C8.fnScope (top 42)) f (.ref c) A outer s H E).nox.env.qual ++ "<lambda>" = lq from lqe]; exact List.mem_singleton.mpr rfl)
        (fun p hp _ => by rw [show (cxOf C8.CX0 P w K mg base ["places"] "place_table" (C8.fnScope (top 42)) f (.ref c) A outer s H E).nox.env.qual ++ "<lambda>" = lq from lqe]; rw [List.mem_singleton.mp hp])
        rfl (by decide +kernel)
      rw [show (cxOf C8.CX0 P w K mg base ["places"] "place_table" (C8.fnScope (top 42)) f (.ref c) A outer s H E).nox.env.qual ++ "<lambda>" = lq from lqe] at z
      exact z
    refine ⟨_, bn_one (sn_ret (en_c CB hr' (by decide) (by rfl) (.of (pa_cons (pv 0) (pa_cons pl pa_nil))))), ?_⟩
    refine ⟨_, rfl, hT, fun fl c' H1 eN T1 hf hc' => ?_⟩
    have nfc : c' ≠ fl := ne_of_none hc' hf
    refine ⟨m, _, fun r => (pidx r : Int) + 1, rfl, hm, .inr ⟨fl, c', rfl, upd_same, by rw [upd_ne nfc]; exact hc', rfl⟩, fun r hr0 => ?_, fun H' t s' TA => k H' t _ ?_ ?_ TA⟩
    · obtain ⟨_, _, h5⟩ := pidx_ok hm hr0
      show labOk ((pidx r : Int) + 1)
      unfold labOk
      omega
    · exact eN.trans (.of ((same_new hf).trans s'))
    · exact T1.ext ((same_new hf).trans s')
end
end My
set_option Elab.async false
set_option linter.all false
set_option maxRecDepth 100000
set_option maxHeartbeats 4000000
namespace My
open PySem PySem.Spec PyProof.Rows L2 LamX SX
def spOpp (C : Addr) : Sp := fun vs H Q _ => ∃ (x : Addr) (m : Nat) (labs : List Int), vs = [.ref x] ∧ TabAt C H x m labs ∧
  (∀ H' p r o, Same H H' → r ∈ Mi.rowsL m → o ∈ Mi.abv r → Mi.lab m labs o = -Mi.lab m labs r → H' p = some (.tup [vR r, vR o]) → Q (.ref p) H') ∧
  ((∀ r ∈ Mi.rowsL m, ∀ o ∈ Mi.abv r, Mi.lab m labs o ≠ -Mi.lab m labs r) → ∀ H', Same H H' → Q .non H')
section
variable {P : Program} {w : World} {K : PySem.W.Frag} {mg : Str → Option Value} {base : Heap} {f C : Addr} {fd : FuncData} {n : Nat}
theorem scOpp : FnScope ["table", "row", "other"] ["table"] (C8.fnScope (top 43)) := C8.fnScope_by (by decide +kernel)
theorem lpn : (("label_at" : Str) == "places") = false ∧ (("label_at" : Str) == "labels") = false ∧ (("label_at" : Str) == "told") = false := by decide +kernel
theorem ok_opp (CT : CTab K mg C) (F : C8.Def K mg "opposed_pair" (top 43) f fd) (b : Binds K fd ["table"] []) (CN : C8.Cal P w K mg base 1 "need_table" (spNeedT C) [.str "table"]) (CA : C8.Cal P w K mg base 2 "all_rows" spAll []) (CV : C8.Cal P w K mg base 2 "above_in" spAbove [])
    (CL : MetN n P w K mg base 3 C "label_at" (spLabAt C)) : CalN n P w K mg base 4 "opposed_pair" (spOpp C) [] := by
  refine ⟨f, fd, ["table"], [], fnN F.fn scOpp (fun vs H Q E h => ?_) (fun cdv A outer s H vs Q E hr h => ?_), F.mgf, F.kp, b, .nil⟩
  · obtain ⟨x, m, labs, rfl, _⟩ := h; rfl
  · obtain ⟨x, m, labs, rfl, TA, k1, k2⟩ := h
    refine ⟨_, bn_cons (.of (ps_expr (C8.pe_c CN hr (by decide) (by rfl) (pa_cons (pv 0) pa_nil))))
      (bn_cons (sn_for PassesOwn.never rfl (.of (pi_list (C8.pe_c CA hr (by decide) (by rfl) (pa_cons (pe_fld (pv 0) rfl) pa_nil)))) (pg_name (i := 1) scOpp.nd rfl (.inl rfl))
        (bn_one (sn_for PassesOwn.never rfl (.of (pi_list (C8.pe_c CV hr (by decide) (by rfl) (pa_cons (pv 1) pa_nil)))) (pg_name (i := 2) scOpp.nd rfl (.inl rfl))
          (bn_one (sn_if (tn_cmpR op_eq (en_mt CL hr (by decide) (pv 0) (pa_cons (pv 2) pa_nil)) (en_un un_neg (en_mt CL hr (by decide) (pv 0) (pa_cons (pv 1) pa_nil))) (nomark _))
            (.of (pss_one (ps_ret (pe_tup (pa_cons (pv 1) (pa_cons (pv 2) pa_nil)))))) bn_nil)))))
      (.of (pss_one (ps_ret pe_non)))), ?_⟩
    have TA0 := TA
    obtain ⟨hm, hlen, hok, dx, lt, td, hx, hlt, htd⟩ := TA
    have hb := pl_le hm
    refine ⟨_, rfl, x, dx, _, _, rfl, hx, ?_⟩
    refine ⟨_, rfl, x, C, dx, _, _, rfl, hx, CT.cl, CT.nP, tf_pl _ _ _, m, hm, rfl, fun H1 q s1 hq => ⟨q, rfl, ⟨_, SqL.of hq⟩, ?_⟩⟩
    refine for_list (K := K) (a := q) (xs := rowsV (Mi.rowsL m)) (fun i σ H' => ∃ v2 v3, σ = [some (.ref x), v2, v3] ∧ Same H1 H' ∧ ∀ r ∈ (Mi.rowsL m).take i, ∀ o ∈ Mi.abv r, Mi.lab m labs o ≠ -Mi.lab m labs r) ⟨none, none, rfl, Same.refl _, fun r hr0 => by simp at hr0⟩ (fun i σ H' _ ⟨_, _, _, sm, _⟩ => SqL.of (sm _ _ hq)) ?_ ?_
    · rintro i y σ H2 hy ⟨v2, v3, rfl, s2, hno⟩
      obtain ⟨r, hr0, rfl⟩ := map_at hy
      have hmem := List.mem_of_getElem? hr0
      have hR := Mi.mem_rows.mp hmem
      have hrl : r.length ≤ 5 := by rw [hR.1.1]; exact hb.2
      refine ⟨_, rfl, r, rfl, hrl, fun H3 q2 s3 hq2 => ⟨q2, rfl, ⟨_, SqL.of hq2⟩, ?_⟩⟩
      refine for_list (K := K) (a := q2) (xs := rowsV (Mi.abv r)) (fun j σ H' => ∃ v3, σ = [some (.ref x), some (vR r), v3] ∧ Same H3 H' ∧ ∀ o ∈ (Mi.abv r).take j, Mi.lab m labs o ≠ -Mi.lab m labs r) ⟨v3, rfl, Same.refl _, fun o ho => by simp at ho⟩ (fun j σ H' _ ⟨_, _, sm, _⟩ => SqL.of (sm _ _ hq2)) ?_ ?_
      · rintro j y σ H4 hy ⟨v3, rfl, s4, hno2⟩
        obtain ⟨o, ho, rfl⟩ := map_at hy
        have hmo := List.mem_of_getElem? ho
        have hO := (Mi.mem_abv hR.1).mp hmo
        have hRo := Mi.Rw.of_ab hR hO.1 hO.2
        have sA : Same H H4 := ((s1.trans s2).trans s3).trans s4
        have TA4 := TA0.same sA
        refine ⟨_, rfl, x, dx, _, rfl, sA _ _ hx, tf_no _ _ _ lpn.1 lpn.2.1 lpn.2.2, _, rfl, x, m, labs, o, rfl, TA4, hRo, fun H5 s5 => ?_⟩
        refine ⟨_, rfl, x, dx, _, rfl, s5 _ _ (sA _ _ hx), tf_no _ _ _ lpn.1 lpn.2.1 lpn.2.2, _, rfl, x, m, labs, r, rfl, TA4.same s5, hR, fun H6 s6 => ⟨_, rfl, rfl, _, rfl, ?_⟩⟩
        refine ite2 (fun e => ?_) fun e => ?_
        · have e' := V.int.inj (of_decide_eq_true e)
          refine ⟨_, rfl, _, rfl, by show 2 ≤ sizeLine; decide, fun p hp => k1 _ p r o ?_ hmem hmo e' upd_same⟩
          exact ((sA.trans s5).trans s6).trans (same_new hp)
        · refine ⟨_, rfl, (s4.trans s5).trans s6, fun o' ho' => ?_⟩
          rw [take_at ho, List.mem_append, List.mem_singleton] at ho'
          rcases ho' with z | z
          · exact hno2 o' z
          · rw [z]
            exact fun h => e (decide_eq_true (congrArg V.int h))
      · rintro σ H4 ⟨v3, rfl, s4, hno2⟩
        rw [show (rowsV (Mi.abv r)).length = (Mi.abv r).length from List.length_map _, List.take_length] at hno2
        refine ⟨_, _, rfl, (s2.trans s3).trans s4, fun r' hr' => ?_⟩
        rw [take_at hr0, List.mem_append, List.mem_singleton] at hr'
        rcases hr' with z | z
        · exact hno r' z
        · rw [z]
          exact hno2
    · rintro σ H2 ⟨v2, v3, rfl, s2, hno⟩
      rw [show (rowsV (Mi.rowsL m)).length = (Mi.rowsL m).length from List.length_map _, List.take_length] at hno
      exact k2 hno _ (s1.trans s2)
end
end My
set_option Elab.async false
set_option linter.all false
set_option maxRecDepth 100000
set_option maxHeartbeats 4000000
namespace My
open PySem PySem.Spec PyProof.Rows L2 LamX SX
/-- the amounts of some labels, ascending -/
def Amts (labs : List Int) (ns : List Int) : Prop := ns.Pairwise (· < ·) ∧ ∀ k : Int, k ∈ ns ↔ ∃ v ∈ labs, k = (v.natAbs : Int)
def spAm (C : Addr) : Sp := fun vs H Q _ => ∃ (x : Addr) (m : Nat) (labs am : List Int), vs = [.ref x] ∧ TabAt C H x m labs ∧ am.length ≤ 40 ∧ (∀ v ∈ labs, (v.natAbs : Int) ∈ am) ∧
  ∀ H' p ns, Same H H' → Amts labs ns → H' p = some (.tup (intsV ns)) → Q (.ref p) H'
theorem absI (i : Int) : (if i < 0 then -i else i) = (i.natAbs : Int) := by
  by_cases h : i < 0
  · rw [if_pos h]; omega
  · rw [if_neg h]; omega
section
variable {P : Program} {w : World} {K : PySem.W.Frag} {mg : Str → Option Value} {base : Heap} {f C : Addr} {fd : FuncData} {n : Nat}
theorem scAm : FnScope ["table", "label"] ["table"] (C8.fnScope (top 44)) := C8.fnScope_by (by decide +kernel)
theorem fnOk_am (T : Txt K mg) (CT : CTab K mg C) (F : C8.Def K mg "amounts_of" (top 44) f fd) (CN : C8.Cal P w K mg base 1 "need_table" (spNeedT C) [.str "table"]) : FnOk P w K mg base C8.CX0 2 f fd ["table"] (spAm C) := by
  refine C8.fn0 F.fn scAm (fun vs H Q E h => ?_) (fun cdv A outer s H vs Q E hr h => ?_)
  · obtain ⟨x, m, labs, am, rfl, _⟩ := h; rfl
  · obtain ⟨x, m, labs, am, rfl, TA, hlam, ham, k⟩ := h
    refine ⟨_, pss_cons (ps_expr (C8.pe_c CN hr (by decide) (by rfl) (pa_cons (pv 0) pa_nil)))
      (pss_one (ps_ret (pe_callTy call_tuple_of (by rfl) T.tuple (by decide +kernel) (pa_cons (pe_callB (cr_sortedSet rfl) (by rfl) T.sorted (by decide +kernel) (pa_cons
        (pe_scI (own := [("label", 1)]) (g := gName 1) (tt := tYes) rfl scAm.nd (pi_tup (pe_fld (pv 0) rfl)) (blkOk_by (own := [("label", 1)]) (N := ["table", "label"]) (sc := C8.fnScope (top 44)) (by decide +kernel))
          (fun _ _ _ _ _ => pg_name (i := 1) scAm.nd rfl (Or.inl rfl)) (fun _ _ _ _ _ => pts_nil) (fun _ _ _ _ _ => pe_callB call_abs (by rfl) T.abs (by decide +kernel) (pa_cons (pv 1) pa_nil))) pa_nil)) pa_nil)))), ?_⟩
    obtain ⟨hm, hlen, hok, dx, lt, td, hx, hlt, htd⟩ := TA
    have htl := (Mi.told_len hm).1
    refine ⟨_, rfl, x, dx, _, _, rfl, hx, ?_⟩
    refine ⟨_, rfl, x, C, dx, _, _, rfl, hx, CT.cl, CT.nL, tf_la _ _ _, lt, rfl, ⟨_, SqT.of hlt⟩, fun D hD => ?_⟩
    refine sc_it (walk_tup (K := K) (a := lt) (xs := intsV labs)) (fun i H' => Same H H' ∧ ∃ (ds : List Int) (Sf : Int → Bool), ds.Nodup ∧ (∀ j, Sf j = true ↔ j ∈ ds) ∧ (∀ j, j ∈ ds ↔ ∃ v ∈ labs.take i, j = (v.natAbs : Int)) ∧ H' D = some (SetO w D Sf ds.length))
      ⟨same_new hD, [], _, .nil, fun j => by simp, fun j => by simp, upd_same⟩ (fun i H' _ p => SqT.of (p.1 _ _ hlt)) (fun i y H3 H4 hi p hy => ?_) fun H3 p => ?_
    · obtain ⟨sm, ds, Sf, nd, hS, hD2, hDD⟩ := p
      obtain ⟨rfl, hy⟩ := hy
      obtain ⟨v, hv, rfl⟩ := map_at hy
      have hlt2 : i < labs.length := (List.getElem?_eq_some_iff.mp hv).1
      have hds : ds.length ≤ 40 := Nat.le_trans (nodup_le nd fun j hj => by
        obtain ⟨u, hu, rfl⟩ := (hD2 j).mp hj
        exact ham u (List.mem_of_mem_take hu)) hlam
      refine ⟨rfl, yesT ⟨_, rfl, v, rfl, _, Sf, ds.length, rfl, hDD, by unfold scanBound; omega, same_upd sm hD, ?_⟩⟩
      rw [absI]
      by_cases e : Sf (v.natAbs : Int) = true
      · refine ⟨ds, _, nd, fun j => ?_, fun j => ?_, by rw [if_pos e]; exact upd_same⟩
        · rw [Bool.or_eq_true, decide_eq_true_eq, hS j]
          exact ⟨fun z => z.elim id fun z => by rw [z]; exact (hS _).mp e, .inl⟩
        · rw [take_at hv, hD2 j]
          constructor
          · rintro ⟨u, hu, eq⟩
            exact ⟨u, List.mem_append_left _ hu, eq⟩
          · rintro ⟨u, hu, eq⟩
            rcases List.mem_append.mp hu with z | z
            · exact ⟨u, z, eq⟩
            · rw [List.mem_singleton.mp z] at eq
              rw [eq]
              exact (hD2 _).mp ((hS _).mp e)
      · have ne : (v.natAbs : Int) ∉ ds := fun z => e ((hS _).mpr z)
        refine ⟨(v.natAbs : Int) :: ds, _, List.nodup_cons.mpr ⟨ne, nd⟩, fun j => ?_, fun j => ?_, by rw [if_neg e]; exact upd_same⟩
        · rw [Bool.or_eq_true, decide_eq_true_eq, hS j, List.mem_cons]
          exact ⟨fun z => z.elim .inr .inl, fun z => z.elim .inr .inl⟩
        · rw [take_at hv, List.mem_cons, hD2 j]
          constructor
          · rintro (z | ⟨u, hu, eq⟩)
            · exact ⟨v, List.mem_append_right _ (List.mem_singleton.mpr rfl), z⟩
            · exact ⟨u, List.mem_append_left _ hu, eq⟩
          · rintro ⟨u, hu, eq⟩
            rcases List.mem_append.mp hu with z | z
            · exact .inr ⟨u, z, eq⟩
            · rw [List.mem_singleton.mp z] at eq
              exact .inl eq
    · obtain ⟨sm, ds, Sf, nd, hS, hD2, hDD⟩ := p
      rw [show (intsV labs).length = labs.length from List.length_map _, List.take_length] at hD2
      have hds : ds.length ≤ 40 := Nat.le_trans (nodup_le nd fun j hj => by
        obtain ⟨u, hu, rfl⟩ := (hD2 j).mp hj
        exact ham u hu) hlam
      refine ⟨D, Sf, ds.length, rfl, hDD, by omega, fun ns p hp hns _ hnew => ?_⟩
      refine ⟨p, _, rfl, .inl ⟨SqL.of upd_same, fun l hl => k _ l ns ?_ ⟨hp, fun j => ((hns j).trans (hS j)).trans (hD2 j)⟩ upd_same⟩⟩
      exact same_upd (same_upd sm (sm.free hnew)) (sm.free (same_new hnew |>.free hl))
end
end My
set_option Elab.async false
set_option linter.all false
set_option maxRecDepth 100000
set_option maxHeartbeats 4000000
namespace My
open PySem PySem.Spec PyProof.Rows L2 LamX SX
/-! ### whole numbers as data -/
abbrev dI (ns : List Int) : List PyData := ns.map PyData.int
theorem dp_ints {K : PySem.W.Frag} {H : Hp} : ∀ ns : List Int, DpAll K H (intsV ns) (dI ns)
  | [] => .nil
  | n :: ns => .cons (.int n) (dp_ints ns)
theorem can_ints : ∀ ns : List Int, PyData.canLayAll0 (dI ns) = true
  | [] => rfl
  | n :: ns => by
    show (PyData.canLay0 (.int n) && PyData.canLayAll0 (dI ns)) = true
    rw [can_ints ns]
    rfl
theorem dep_ints : ∀ ns : List Int, PyData.depthAll (dI ns) = 0
  | [] => rfl
  | n :: ns => by
    show max (PyData.depth (.int n)) (PyData.depthAll (dI ns)) = 0
    rw [dep_ints ns]
    rfl
theorem shaped_l (ns : List Int) : SeqAt.shaped (.list (dI ns)) = true := by
  unfold SeqAt.shaped
  have h1 : PyData.canLay0 (.list (dI ns)) = true := (show PyData.canLay0 (.list (dI ns)) = PyData.canLayAll0 (dI ns) by rfl).trans (can_ints ns)
  have h2 : PyData.depth (.list (dI ns)) = 1 := by
    show PyData.depthAll (dI ns) + 1 = 1
    rw [dep_ints]
  rw [h1, h2]
  rfl
theorem shaped_t (ns : List Int) : SeqAt.shaped (.tuple (dI ns)) = true := by
  unfold SeqAt.shaped
  have h1 : PyData.canLay0 (.tuple (dI ns)) = true := (show PyData.canLay0 (.tuple (dI ns)) = PyData.canLayAll0 (dI ns) by rfl).trans (can_ints ns)
  have h2 : PyData.depth (.tuple (dI ns)) = 1 := by
    show PyData.depthAll (dI ns) + 1 = 1
    rw [dep_ints]
  rw [h1, h2]
  rfl
theorem eqv_nil : ∀ ns : List Int, PyData.eqv (.list (dI ns)) (.list []) = ns.isEmpty
  | [] => rfl
  | _ :: _ => rfl
/-! ### the crowd -/
/-- at c stands a crowd that was asked at most t times -/
def Crowd (H : Hp) (c l : Addr) (t : Int) : Prop := ∃ (cells : List Int) (u left : Int), H c = some (.lst [.ref l, .int u, .int left]) ∧ H l = some (.lst (intsV cells)) ∧ 0 ≤ u ∧ u ≤ t ∧ 0 ≤ left
/-- all but c as before -/
def But (c : Addr) (H H' : Hp) : Prop := ∀ b o, H b = some o → b ≠ c → H' b = some o
theorem But.refl (c : Addr) (H : Hp) : But c H H := fun _ _ h _ => h
theorem But.trans {c : Addr} {H H1 H2 : Hp} (a : But c H H1) (b : But c H1 H2) : But c H H2 := fun p o h n => b p o (a p o h n) n
theorem But.of {c : Addr} {H H' : Hp} (s : Same H H') : But c H H' := fun p o h _ => s p o h
theorem Crowd.same {H H' : Hp} {c l : Addr} {t : Int} (h : Crowd H c l t) (s : Same H H') : Crowd H' c l t := by
  obtain ⟨cells, u, left, h1, h2, h3⟩ := h
  exact ⟨cells, u, left, s _ _ h1, s _ _ h2, h3⟩
theorem Crowd.mono {H : Hp} {c l : Addr} {t t' : Int} (h : Crowd H c l t) (le : t ≤ t') : Crowd H c l t' := by
  obtain ⟨cells, u, left, h1, h2, h3, h4, h5⟩ := h
  exact ⟨cells, u, left, h1, h2, h3, Int.le_trans h4 le, h5⟩
def spCrowd (K : PySem.W.Frag) : Sp := fun vs H Q _ => ∃ (a : Addr) (ns : List Int), vs = [.ref a] ∧ SqL K H a (intsV ns) ∧ ns.length ≤ 63 ∧ ∀ H' c l, Same H H' → H c = none → H l = none → l ≠ c → Crowd H' c l 0 → Q (.ref c) H'
def spHead : Sp := fun vs H Q _ => ∃ (c l : Addr) (t many : Int), vs = [.ref c, .int many] ∧ Crowd H c l t ∧ t ≤ 1000000 ∧ 0 < many ∧ many < 1000000 ∧ ∀ H' r, But c H H' → Crowd H' c l (t + 1) → 0 ≤ r → r < many → Q (.int r) H'
def spHat (K : PySem.W.Frag) : Sp := fun vs H Q _ => ∃ (c l a : Addr) (t : Int) (xs : List V), vs = [.ref c, .ref a] ∧ Crowd H c l t ∧ t ≤ 1000000 ∧ H a = some (.lst xs) ∧ a ≠ c ∧ 0 < xs.length ∧ xs.length < 1000 ∧ ∀ H' v, But c H H' → Crowd H' c l (t + 1) → v ∈ xs → Q v H'
theorem cut_ints (ns : List Int) (lo hi : Option Int) : ∃ ms : List Int, cutV (intsV ns) lo hi = intsV ms ∧ ms.length ≤ ns.length := by
  unfold cutV intsV
  exact ⟨(ns.drop (HT.sIx (List.map V.int ns).length 0 lo)).take (HT.sIx (List.map V.int ns).length (List.map V.int ns).length hi - HT.sIx (List.map V.int ns).length 0 lo), by rw [List.map_take, List.map_drop], by rw [List.length_take, List.length_drop]; omega⟩
section
variable {P : Program} {w : World} {K : PySem.W.Frag} {mg : Str → Option Value} {base : Heap} {f C : Addr} {fd : FuncData} {n : Nat}
theorem scCrowd : FnScope ["_law_script", "_law_cell"] ["_law_script"] (C8.fnScope (top 46)) := C8.fnScope_by (by decide +kernel)
theorem ok_crowd (T : Txt K mg) (F : C8.Def K mg "_law_crowd" (top 46) f fd) (b : Binds K fd ["_law_script"] []) : C8.Cal P w K mg base 1 "_law_crowd" (spCrowd K) [] := by
  refine C8.cal0 F b .nil scCrowd (fun vs H Q E h => ?_) (fun cdv A outer s H vs Q E hr h => ?_)
  · obtain ⟨a, ns, rfl, _⟩ := h; rfl
  · obtain ⟨a, ns, rfl, ha, h63, k⟩ := h
    refine ⟨_, pss_one (ps_ret (pe_lst (pa_cons (pe_lc (own := [("_law_cell", 1)]) (g := gName 1) (tt := tYes) rfl scCrowd.nd (pi_list (pe_slice sl_list (pv 0) po_none (po_some pe_int)))
      (blkOk_by (own := [("_law_cell", 1)]) (N := ["_law_script", "_law_cell"]) (sc := C8.fnScope (top 46)) (by decide +kernel)) (fun _ _ _ _ _ => pg_name (i := 1) scCrowd.nd rfl (Or.inl rfl)) (fun _ _ _ _ _ => pts_nil)
      (fun _ _ _ _ _ => pe_callTy call_int1 (by rfl) T.int (by decide +kernel) (pa_cons (pv 1) pa_nil))) (pa_cons pe_int (pa_cons pe_int pa_nil))))), ?_⟩
    obtain ⟨ms, em, hml⟩ := cut_ints ns none (some 60)
    refine ⟨_, rfl, 60, rfl, a, _, rfl, ha, fun p hp => ?_⟩
    rw [em]
    refine ⟨p, rfl, ⟨_, SqL.of upd_same⟩, fun D hD => ?_⟩
    refine lc_pure0 (walk_list (K := K) (a := p) (xs := intsV ms)) hD (fun i => intsV (ms.take i)) rfl (fun H' s' => SqL.of (s' _ _ upd_same)) (fun i hi => ?_) (fun i x H3 H4 Q1 hi sm hy q1 => ?_) fun H3 s3 hH => ?_
    · rw [intsV, List.length_map]
      exact Nat.lt_of_le_of_lt (take_le (Nat.le_trans hml h63)) (by decide)
    · obtain ⟨rfl, hx⟩ := hy
      obtain ⟨v, hv, rfl⟩ := map_at hx
      exact ⟨rfl, _, rfl, .inl ⟨v, rfl, q1 _ _ (by rw [take_at hv, intsV, List.map_append]; rfl) (Same.refl _)⟩⟩
    · rw [show (intsV ms).length = ms.length from List.length_map _, List.take_length] at hH
      refine ⟨by show 3 ≤ sizeLine; decide, fun c hc => ?_⟩
      have sA0 : Same H (upd H p (.lst (intsV ms))) := same_new hp
      have sA : Same H H3 := sA0.trans s3
      have nDc : D ≠ c := ne_of_none hH hc
      exact k _ c D (sA.trans (same_new hc)) (sA.free hc) (sA0.free hD) nDc ⟨ms, 0, 0, upd_same, by rw [upd_ne nDc]; exact hH, Int.le_refl _, Int.le_refl _, Int.le_refl _⟩
theorem scHead : FnScope ["_law_crowd_here", "_law_many", "_law_left", "_law_turn", "_law_cell", "_law_mixed"] ["_law_crowd_here", "_law_many"] (C8.fnScope (top 47)) := C8.fnScope_by (by decide +kernel)
theorem crowd_write {H : Hp} {c l : Addr} {cells : List Int} {u left t : Int} (hl : H l = some (.lst (intsV cells))) (hn : l ≠ c) (h0 : 0 ≤ u) (h1 : u ≤ t) (h2 : 0 ≤ left) : Crowd (upd H c (.lst [.ref l, .int u, .int left])) c l t :=
  ⟨cells, u, left, upd_same, by rw [upd_ne hn]; exact hl, h0, h1, h2⟩
theorem but_upd {H H1 : Hp} {c : Addr} {o : HO} (b : But c H H1) : But c H (upd H1 c o) := fun p u e n => by
  rw [upd_ne n]
  exact b p u e n
theorem pow_fits1 {x u : Int} (h0 : 0 ≤ u) (h1 : u ≤ 1000000) : (x % 2147483563 + 56683 * u + 6079).natAbs < 2 ^ 64 := by
  have a := Int.emod_nonneg x (show (2147483563 : Int) ≠ 0 by decide)
  have b := Int.emod_lt_of_pos x (show (0 : Int) < 2147483563 by decide)
  omega
theorem pow_fits2 {y u : Int} (a : 0 ≤ y) (b : y < 2147483497) (h0 : 0 ≤ u) (h1 : u ≤ 1000000) : (y * (2 * u + 3883) + 75737 * u * u + 56683).natAbs < 2 ^ 64 := by
  have h3 : y * (2 * u + 3883) ≤ 2147483497 * 2003883 := Int.mul_le_mul (by omega) (by omega) (by omega) (by decide)
  have h4 : 0 ≤ y * (2 * u + 3883) := Int.mul_nonneg a (by omega)
  have h5 : 75737 * u * u ≤ 75737000000 * 1000000 := Int.mul_le_mul (by omega) h1 h0 (by decide)
  have h6 : 0 ≤ 75737 * u * u := Int.mul_nonneg (by omega) h0
  omega
theorem ok_head (T : Txt K mg) (F : C8.Def K mg "_law_head" (top 47) f fd) (b : Binds K fd ["_law_crowd_here", "_law_many"] []) : C8.Cal P w K mg base 1 "_law_head" spHead [] := by
  refine C8.cal0 F b .nil scHead (fun vs H Q E h => ?_) (fun cdv A outer s H vs Q E hr h => ?_)
  · obtain ⟨c, l, t, many, rfl, _⟩ := h; rfl
  · obtain ⟨c, l, t, many, rfl, ⟨cells, u, left, hc, hl, hu0, hut, hleft⟩, ht, hm0, hm1, k⟩ := h
    have cr (i : Int) := i
    refine ⟨_, pss_cons (ps_if (pt_cmpR (op_eqD hr.units) (pe_ix ix_list (pv 0) pe_int (fun _ _ => rfl)) (pe_lst pa_nil) (nomark _)) (pss_one (ps_ret pe_int)) pss_nil)
      (pss_cons (ps_if (pt_cmpR op_gt (pe_ix ix_list (pv 0) pe_int (fun _ _ => rfl)) pe_int (nomark _))
        (pss_cons (ps_set (i := 2) scHead.nd rfl (.inl rfl) (pe_callTy call_int1 (by rfl) T.int (by decide +kernel) (pa_cons (pe_ix ix_list (pv 0) pe_int (fun _ _ => rfl)) pa_nil)))
          (pss_cons (ps_asg (pe_op op_fdiv (pv 2) (pv 1)) (pg_sub (pv 0) pe_int set_list))
          (pss_one (ps_ret (pe_op op_mod (pe_callTy call_int1 (by rfl) T.int (by decide +kernel) (pa_cons (pv 2) pa_nil)) (pv 1)))))) pss_nil)
      (pss_cons (ps_set (i := 3) scHead.nd rfl (.inl rfl) (pe_ix ix_list (pv 0) pe_int (fun _ _ => rfl)))
      (pss_cons (ps_asg (pe_op op_add (pv 3) pe_int) (pg_sub (pv 0) pe_int set_list))
      (pss_cons (ps_set (i := 4) scHead.nd rfl (.inl rfl) (pe_ix ix_list (pe_ix ix_list (pv 0) pe_int (fun _ _ => rfl)) (pe_op op_mod (pe_callTy call_int1 (by rfl) T.int (by decide +kernel) (pa_cons (pv 3) pa_nil)) (pe_callB call_len_seq (by rfl) T.len PySem.boot_len (pa_cons (pe_ix ix_list (pv 0) pe_int (fun _ _ => rfl)) pa_nil))) (fun _ _ => rfl)))
      (C8.pss_cut (ps_if (PW.pt (pw_and (pt_cmpR op_lt (pv 3) (pe_callB call_len_seq (by rfl) T.len PySem.boot_len (pa_cons (pe_ix ix_list (pv 0) pe_int (fun _ _ => rfl)) pa_nil)) (nomark _))
          (pw_and1 (pt_cmpR op_ge (pe_callB call_abs (by rfl) T.abs (by decide +kernel) (pa_cons (pv 4) pa_nil)) (pe_op op_pow pe_int pe_int) (nomark _)))))
        (pss_cons (ps_set (i := 2) scHead.nd rfl (.inl rfl) (pe_op op_add (pe_op op_mul pe_int (pe_op op_sub (pe_callB call_abs (by rfl) T.abs (by decide +kernel) (pa_cons (pe_callTy call_int1 (by rfl) T.int (by decide +kernel) (pa_cons (pv 4) pa_nil)) pa_nil)) (pe_op op_pow pe_int pe_int)))
            (pe_callTy call_int1 (by rfl) T.int (by decide +kernel) (pa_cons (pe_cmpR op_lt (pv 4) pe_int (nomark _)) pa_nil))))
          (pss_cons (ps_asg (pe_op op_fdiv (pv 2) (pv 1)) (pg_sub (pv 0) pe_int set_list))
          (pss_one (ps_ret (pe_op op_mod (pe_callTy call_int1 (by rfl) T.int (by decide +kernel) (pa_cons (pv 2) pa_nil)) (pv 1)))))) pss_nil)
      (pss_cons (ps_set (i := 5) scHead.nd rfl (.inl rfl) (pe_op op_mod (pe_callTy call_int1 (by rfl) T.int (by decide +kernel) (pa_cons (pe_op op_pow (pe_op op_add (pe_op op_add (pe_op op_mod (pe_callTy call_int1 (by rfl) T.int (by decide +kernel) (pa_cons (pv 4) pa_nil)) pe_int) (pe_op op_mul pe_int (pv 3))) pe_int) pe_int) pa_nil)) pe_int))
      (pss_cons (ps_set (i := 5) scHead.nd rfl (.inl rfl) (pe_op op_mod (pe_callTy call_int1 (by rfl) T.int (by decide +kernel) (pa_cons (pe_op op_pow (pe_op op_add (pe_op op_add (pe_op op_mul (pv 5) (pe_op op_add (pe_op op_mul pe_int (pv 3)) pe_int)) (pe_op op_mul (pe_op op_mul pe_int (pv 3)) (pv 3))) pe_int) pe_int) pa_nil)) pe_int))
      (pss_one (ps_ret (pe_op op_mod (pe_callTy call_int1 (by rfl) T.int (by decide +kernel) (pa_cons (pe_op op_fdiv (pv 5) pe_int) pa_nil)) (pv 1))))))))))), ?_⟩
    refine ⟨_, rfl, c, _, 0, .ref l, rfl, rfl, SqL.of hc, rfl, Nat.zero_le _, fun p hp => ?_⟩
    have s1 : Same H (upd H p (.lst [])) := same_new hp
    refine ⟨_, _, .lst (SqL.of (s1 _ _ hl)) (dp_ints cells), .lst (SqL.of upd_same) .nil, shaped_l cells, rfl, _, rfl, ?_⟩
    rw [eqv_nil]
    have hc1 := s1 _ _ hc
    have hl1 := s1 _ _ hl
    have nlc : l ≠ c := ne_of hl hc (fun z => by
      injection z with z
      cases cells with
      | nil => cases z
      | cons x r => injection z with z _; cases z)
    generalize upd H p (.lst []) = H1 at s1 hc1 hl1 ⊢
    have bt : But c H H1 := .of s1
    by_cases he : cells.isEmpty = true
    · rw [he]
      exact iteT (k H1 0 bt ⟨cells, u, left, hc1, hl1, hu0, by omega, hleft⟩ (Int.le_refl _) hm0)
    rw [Bool.not_eq_true] at he
    rw [he]
    refine iteF ?_
    refine ⟨_, rfl, c, _, 2, .int left, rfl, rfl, SqL.of hc1, rfl, _, _, rfl, rfl, _, rfl, ?_⟩
    refine ite2 (fun hpos => ?_) fun hpos => ?_
    · refine ⟨_, rfl, c, _, 2, .int left, rfl, rfl, SqL.of hc1, rfl, .inl ⟨left, rfl, ?_⟩⟩
      refine ⟨_, rfl, _, rfl, left, many, rfl, rfl, ⟨hm0, by show many < 1073741824; omega⟩, _, rfl, c, _, 2, 2, rfl, rfl, hc1, rfl, ?_⟩
      refine ⟨_, rfl, .inl ⟨left, rfl, _, rfl, _, _, rfl, rfl, hm0, ?_⟩⟩
      exact k _ _ (but_upd bt) (crowd_write hl1 nlc hu0 (by omega) (Int.ediv_nonneg hleft (by omega))) (Int.emod_nonneg _ (by omega)) (Int.emod_lt_of_pos _ hm0)
    refine ⟨_, rfl, c, _, 1, .int u, rfl, rfl, SqL.of hc1, rfl, ?_⟩
    refine ⟨_, rfl, u, 1, rfl, rfl, _, rfl, c, _, 1, 1, rfl, rfl, hc1, rfl, ?_⟩
    have hc2 : upd H1 c (.lst [.ref l, .int (u + 1), .int left]) c = some (.lst [.ref l, .int (u + 1), .int left]) := upd_same
    have hl2 : upd H1 c (.lst [.ref l, .int (u + 1), .int left]) l = some (.lst (intsV cells)) := by rw [upd_ne nlc]; exact hl1
    have bt2 : But c H (upd H1 c (.lst [.ref l, .int (u + 1), .int left])) := but_upd bt
    show tSeq _ _ _ _ (upd H1 c (.lst [.ref l, .int (u + 1), .int left]))
    generalize upd H1 c (.lst [.ref l, .int (u + 1), .int left]) = H2 at hc2 hl2 bt2 ⊢
    have hlen : 0 < (cells.length : Int) := by
      cases cells with
      | nil => cases he
      | cons x r => rw [List.length_cons]; omega
    have hi1 := Int.emod_nonneg u (show (cells.length : Int) ≠ 0 by omega)
    have hi2 := Int.emod_lt_of_pos u hlen
    obtain ⟨j, hj⟩ : ∃ j : Nat, u % (cells.length : Int) = (j : Int) := ⟨_, (Int.toNat_of_nonneg hi1).symm⟩
    have hjl : j < cells.length := by omega
    obtain ⟨cell, hcell⟩ : ∃ x, cells[j]? = some x := ⟨_, List.getElem?_eq_getElem hjl⟩
    have hcell2 : atI (intsV cells) (u % ((intsV cells).length : Int)) = some (.int cell) := by
      rw [intsV, List.length_map, hj]
      exact atI_nat (by rw [List.getElem?_map, hcell]; rfl)
    have hlenV : (0 : Int) < ((intsV cells).length : Int) := by rw [intsV, List.length_map]; exact hlen
    refine ⟨_, rfl, c, _, 0, .ref l, rfl, rfl, SqL.of hc2, rfl, _, rfl, .inl ⟨u, rfl, ?_⟩⟩
    refine ⟨_, rfl, c, _, 0, .ref l, rfl, rfl, SqL.of hc2, rfl, l, _, rfl, .inl (SqL.of hl2), _, _, rfl, rfl, hlenV, l, _, _, .int cell, rfl, rfl, SqL.of hl2, hcell2, ?_⟩
    -- the test
    refine ⟨fun σ' H' => σ' = [some (.ref c), some (.int many), none, some (.int u), some (.int cell), none] ∧ H' = H2, ?_, ?_⟩
    · refine ⟨_, rfl, _, rfl, c, _, 0, .ref l, rfl, rfl, SqL.of hc2, rfl, l, _, rfl, .inl (SqL.of hl2), _, _, rfl, rfl, _, rfl, ?_⟩
      refine ite2 (fun h1 => ?_) fun h1 => iteF ⟨rfl, rfl⟩
      refine ⟨_, rfl, cell, rfl, _, _, rfl, rfl, ⟨by decide, by decide, by decide⟩, _, _, rfl, rfl, _, rfl, ?_⟩
      refine ite2 (fun h2 => ?_) fun h2 => ⟨rfl, rfl⟩
      have h2' := of_decide_eq_true h2
      rw [absI] at h2'
      refine ⟨_, rfl, .inl ⟨cell, rfl, cell, rfl, _, _, rfl, rfl, ⟨by decide, by decide, by decide⟩, _, _, rfl, rfl, _, _, rfl, rfl, .inl ⟨by decide, by decide⟩, ?_⟩⟩
      refine ⟨_, rfl, _, _, rfl, rfl, .inr ⟨_, rfl, _, _, rfl, rfl, ?_⟩⟩
      have hlf0 : 0 ≤ 2 * ((if cell < 0 then -cell else cell) - 10 ^ Int.toNat 18) + (if decide (cell < 0) = true then 1 else 0) := by
        rw [absI]
        by_cases h : decide (cell < 0) = true
        · rw [if_pos h]; omega
        · rw [if_neg h]; omega
      refine ⟨_, rfl, _, rfl, _, many, rfl, rfl, ⟨hm0, by show many < 1073741824; omega⟩, _, rfl, c, _, 2, 2, rfl, rfl, hc2, rfl, ?_⟩
      refine ⟨_, rfl, .inl ⟨_, rfl, _, rfl, _, _, rfl, rfl, hm0, ?_⟩⟩
      exact k _ _ (but_upd bt2) (crowd_write hl2 nlc (by omega) (by omega) (Int.ediv_nonneg hlf0 (by omega))) (Int.emod_nonneg _ (by omega)) (Int.emod_lt_of_pos _ hm0)
    · rintro σ' H' ⟨rfl, rfl⟩
      refine ⟨_, rfl, .inl ⟨cell, rfl, _, _, rfl, rfl, by show (0 : Int) < 2147483563; decide, _, rfl, _, _, rfl, rfl, .inl ⟨by decide, by decide⟩, _, _, rfl, rfl, _, _, rfl, rfl, _, _, rfl, rfl, ⟨by decide, by decide, pow_fits1 hu0 (by omega)⟩, ?_⟩⟩
      refine .inl ⟨_, rfl, _, _, rfl, rfl, by show (0 : Int) < 2147483497; decide, ?_⟩
      have y1 := Int.emod_nonneg ((cell % 2147483563 + 56683 * u + 6079) ^ Int.toNat 5) (show (2147483497 : Int) ≠ 0 by decide)
      have y2 := Int.emod_lt_of_pos ((cell % 2147483563 + 56683 * u + 6079) ^ Int.toNat 5) (show (0 : Int) < 2147483497 by decide)
      refine ⟨_, rfl, _, rfl, _, _, rfl, rfl, .inl ⟨by decide, by decide⟩, _, _, rfl, rfl, _, _, rfl, rfl, .inl ⟨by show -(2 ^ 64) < _; omega, by show _ < 2 ^ 64; omega⟩, ?_⟩
      refine ⟨_, rfl, _, _, rfl, rfl, .inl ⟨by decide, by decide⟩, _, rfl, _, _, rfl, rfl, .inl ⟨by show -(2 ^ 64) < 75737 * u; omega, by show 75737 * u < 2 ^ 64; omega⟩, _, _, rfl, rfl, _, _, rfl, rfl, _, _, rfl, rfl, ⟨by decide, by decide, pow_fits2 y1 y2 hu0 (by omega)⟩, ?_⟩
      refine .inl ⟨_, rfl, _, _, rfl, rfl, by show (0 : Int) < 2147483477; decide, ?_⟩
      refine ⟨_, rfl, _, _, rfl, rfl, ⟨by decide, by decide⟩, .inl ⟨_, rfl, _, rfl, _, _, rfl, rfl, hm0, ?_⟩⟩
      exact k _ _ bt2 ⟨cells, u + 1, left, hc2, hl2, by omega, by omega, hleft⟩ (Int.emod_nonneg _ (by omega)) (Int.emod_lt_of_pos _ hm0)
end
end My
set_option Elab.async false
set_option linter.all false
set_option maxRecDepth 100000
set_option maxHeartbeats 4000000
namespace My
open PySem PySem.Spec PyProof.Rows L2 LamX SX
def spLTold : Sp := fun vs H Q _ => ∃ m : Nat, pl m ∧ vs = [.int m] ∧ ∀ H' q, Same H H' → H q = none → H' q = some (.lst (rowsV (Mi.told m))) → Q (.ref q) H'
def spLLab : Sp := fun vs H Q _ => ∃ (d : Addr) (m : Nat) (labs : List Int) (r : List Nat), vs = [.ref d, vR r] ∧ pl m ∧ labs.length = (Mi.told m).length ∧ H d = some (.dK (tabK (Mi.told m) labs)) ∧ Tk.Rw m r ∧ ∀ H', Same H H' → Q (.int (Mi.lab m labs r)) H'
def spBelow : Sp := fun vs H Q _ => ∃ r o : List Nat, vs = [vR r, vR o] ∧ Tk.Ab r o ∧ r.length ≤ 10 ∧ ∀ H', Same H H' → Q (.bl true) H'
section
variable {P : Program} {w : World} {K : PySem.W.Frag} {mg : Str → Option Value} {base : Heap} {f C : Addr} {fd : FuncData} {n : Nat}
theorem scHat : FnScope ["_law_crowd_here", "_law_some"] ["_law_crowd_here", "_law_some"] (C8.fnScope (top 48)) := C8.fnScope_by (by decide +kernel)
theorem ok_hat (T : Txt K mg) (F : C8.Def K mg "_law_hat" (top 48) f fd) (b : Binds K fd ["_law_crowd_here", "_law_some"] []) (CH : C8.Cal P w K mg base 1 "_law_head" spHead []) : C8.Cal P w K mg base 2 "_law_hat" (spHat K) [] := by
  refine C8.cal0 F b .nil scHat (fun vs H Q E h => ?_) (fun cdv A outer s H vs Q E hr h => ?_)
  · obtain ⟨c, l, a, t, xs, rfl, _⟩ := h; rfl
  · obtain ⟨c, l, a, t, xs, rfl, hc, ht, ha, hac, hx0, hx1, k⟩ := h
    refine ⟨_, pss_one (ps_ret (pe_ix ix_list (pv 1) (C8.pe_c CH hr (by decide) (by rfl) (pa_cons (pv 0) (pa_cons (pe_callB call_len_seq (by rfl) T.len PySem.boot_len (pa_cons (pv 1) pa_nil)) pa_nil))) (fun _ _ => rfl))), ?_⟩
    refine ⟨_, rfl, _, rfl, _, rfl, a, xs, rfl, .inl (SqL.of ha), c, l, t, _, rfl, hc, ht, by omega, by omega, fun H' r bt hc' r0 r1 => ?_⟩
    obtain ⟨j, hj⟩ : ∃ j : Nat, r = (j : Int) := ⟨_, (Int.toNat_of_nonneg r0).symm⟩
    subst hj
    have hjl : j < xs.length := by omega
    exact ⟨a, xs, j, xs[j], rfl, rfl, SqL.of (bt _ _ ha hac), atI_nat (List.getElem?_eq_getElem hjl), k H' _ bt hc' (List.getElem_mem hjl)⟩
theorem scLRows : FnScope ["_law_places", "_law_found", "_law_turn", "_law_longer", "_law_row", "_law_sign"] ["_law_places"] (C8.fnScope (top 49)) := C8.fnScope_by (by decide +kernel)
theorem rep_succ (i : Nat) (w : List Nat) : List.replicate (i + 1) w = List.replicate i w ++ [w] := List.replicate_succ'
theorem spell_rep_len (i : Nat) (h : i ≤ 5) : (Mi.spell (List.replicate i Mi.sg3)).length ≤ 243 := by
  refine Nat.le_trans (spell_len _ fun x hx => by rw [(List.mem_replicate.mp hx).2]; decide) ?_
  rw [List.length_replicate]
  exact Nat.pow_le_pow_right (by decide) h
theorem fl3 : ∀ l : List (List Nat), (l.flatMap fun t => Mi.sg3.map fun s => t ++ [s]).length = l.length * 3
  | [] => rfl
  | t :: l => by
    rw [List.flatMap_cons, List.length_append, fl3 l, List.length_map]
    show 3 + l.length * 3 = (l.length + 1) * 3
    omega
theorem str3 : Str.ofString "+-0" = S Mi.sg3 := by decide +kernel
theorem ok_lrows (T : Txt K mg) (F : C8.Def K mg "_law_rows" (top 49) f fd) (b : Binds K fd ["_law_places"] []) : C8.Cal P w K mg base 1 "_law_rows" spAll [] := by
  refine C8.cal0 F b .nil scLRows (fun vs H Q E h => ?_) (fun cdv A outer s H vs Q E hr h => ?_)
  · obtain ⟨m, _, rfl, _⟩ := h; rfl
  · obtain ⟨m, hm, rfl, k⟩ := h
    refine ⟨_, pss_cons (ps_set (i := 1) scLRows.nd rfl (.inl rfl) (pe_lst (pa_cons pe_str pa_nil)))
      (pss_cons (ps_for PassesOwn.never rfl (pi_range1 (by rfl) T.range (pa_cons (pv 0) pa_nil)) (pg_name (i := 2) scLRows.nd rfl (.inl rfl))
        (pss_cons (ps_set (i := 3) scLRows.nd rfl (.inl rfl) (pe_lst pa_nil))
        (pss_cons (ps_for PassesOwn.never rfl (pi_list (pv 1)) (pg_name (i := 4) scLRows.nd rfl (.inr rfl))
          (pss_one (ps_expr (pe_bm PySem.F.plainAttrs_list PySem.F.slot_list_extend PySem.F.type_list_extend mt_extend (pv 3) (pa_cons
            (pe_lc (own := [("_law_sign", 5)]) (g := gName 5) (tt := tYes) rfl scLRows.nd (pi_str pe_str) (blkOk_by (own := [("_law_sign", 5)]) (N := ["_law_places", "_law_found", "_law_turn", "_law_longer", "_law_row", "_law_sign"]) (sc := C8.fnScope (top 49)) (by decide +kernel))
              (fun _ _ _ _ _ => pg_name (i := 5) scLRows.nd rfl (Or.inl rfl)) (fun _ _ _ _ _ => pts_nil) (fun _ _ _ _ _ => pe_op op_add_str (pv 4) (pv 5))) pa_nil)))))
        (pss_one (ps_set (i := 1) scLRows.nd rfl (.inl rfl) (pv 3))))))
      (pss_one (ps_ret (pe_lc (own := [("_law_row", 4)]) (g := gName 4) (tt := tTest (tOp rNe (tVar 4) (tOp rMulS (tC (vR [48])) (tVar 0)))) rfl scLRows.nd (pi_list (pv 1))
        (blkOk_by (own := [("_law_row", 4)]) (N := ["_law_places", "_law_found", "_law_turn", "_law_longer", "_law_row", "_law_sign"]) (sc := C8.fnScope (top 49)) (by decide +kernel))
        (fun _ _ _ _ _ => pg_name (i := 4) scLRows.nd rfl (Or.inl rfl)) (fun _ _ _ _ _ => pts_one (pt_cmpR op_ne (pv 4) (pe_op op_mulS pe_str (pv 0)) (nomark _))) (fun _ _ _ _ _ => pv 4))))), ?_⟩
    have hb := pl_le hm
    refine ⟨by show 1 ≤ sizeLine; decide, fun p hp => ?_⟩
    refine ⟨_, rfl, (m : Int), rfl, by omega, by omega, ?_⟩
    rw [Int.toNat_natCast]
    refine for_range (lo := 0) (n := m) (fun i σ H' => ∃ (q : Addr) (v2 v3 v4 : Option V), σ = [some (.int m), some (.ref q), v2, v3, v4, none] ∧ Same H H' ∧ H' q = some (.lst (rowsV (Mi.spell (List.replicate i Mi.sg3))))) ⟨p, none, none, none, rfl, same_new hp, upd_same⟩ ?_ ?_
    · rintro i σ H1 him ⟨q, v2, v3, v4, rfl, sm, hq⟩
      have hl2 := spell_rep_len i (by omega)
      have hnext : Mi.spell (List.replicate (i + 1) Mi.sg3) = (Mi.spell (List.replicate i Mi.sg3)).flatMap fun t => Mi.sg3.map fun s => t ++ [s] := by rw [rep_succ, Mi.spell_snoc]
      have each : ∀ t ∈ Mi.spell (List.replicate i Mi.sg3), t.length ≤ 5 := fun t ht => by
        rw [spell_each ht, List.length_replicate]
        omega
      generalize Mi.spell (List.replicate i Mi.sg3) = L at hq hl2 hnext each
      refine ⟨Nat.zero_le _, fun lg hlg => ?_⟩
      have hq1 := same_new (o := .lst []) hlg _ _ hq
      refine ⟨_, rfl, q, rfl, ⟨_, SqL.of hq1⟩, ?_⟩
      refine for_list (K := K) (a := q) (xs := rowsV L) (fun j σ H' => ∃ v4, σ = [some (.int m), some (.ref q), some (.int (0 + (i : Int))), some (.ref lg), v4, none] ∧ Same H1 H' ∧ H' lg = some (.lst (rowsV ((L.take j).flatMap fun t => Mi.sg3.map fun s => t ++ [s])))) ⟨v4, rfl, same_new hlg, upd_same⟩ (fun j σ H' _ ⟨_, _, s', _⟩ => SqL.of (s' _ _ hq)) ?_ ?_
      · rintro j y σ H2 hy ⟨v4, rfl, s2, hL2⟩
        obtain ⟨t, ht, rfl⟩ := map_at hy
        have ht5 := each t (List.mem_of_getElem? ht)
        refine ⟨_, rfl, .inl ⟨rfl, _, SqL.of hL2⟩, _, rfl, fun D hD => ?_⟩
        refine lc_pure0 walk_str hD (fun a => (Mi.sg3.take a).map fun s => vR (t ++ [s])) rfl (fun _ _ => trivial) (fun a ha => ?_) (fun a x H3 H4 Q1 ha s3 hy q1 => ?_) fun H3 s3 hH => ?_
        · rw [List.length_map]
          exact Nat.lt_of_le_of_lt (take_le (show Mi.sg3.length ≤ 3 by decide)) (by decide)
        · obtain ⟨rfl, sg, hsg, rfl⟩ := hy
          have hsg' : Mi.sg3[a]? = some sg := by
            rw [str3] at hsg
            simpa [S] using hsg
          refine ⟨rfl, _, rfl, _, rfl, _, _, rfl, rfl, ?_, ?_⟩
          · rw [S_len]
            show t.length + 1 ≤ sizeLine
            exact Nat.le_trans (Nat.add_le_add_right ht5 1) (by decide)
          · rw [show (S t ++ (⟨#[sg]⟩ : Str)) = S (t ++ [sg]) from S_cat t [sg]]
            exact q1 _ _ (by rw [take_at hsg', List.map_append]; rfl) (Same.refl _)
        · have hL3 := s3 _ _ hL2
          have e1 : (Mi.sg3.take (Str.ofString "+-0").cps.size).map (fun s => vR (t ++ [s])) = rowsV (Mi.sg3.map fun s => t ++ [s]) := by
            rw [show Mi.sg3.take (Str.ofString "+-0").cps.size = Mi.sg3 by decide +kernel, rowsV, List.map_map]
            rfl
          rw [e1] at hH
          have nDl : lg ≠ D := ne_of_none hL2 hD
          refine ⟨lg, D, _, _, rfl, rfl, hL3, hH, ?_, ?_⟩
          · rw [List.length_map, List.length_map, List.length_map]
            rw [fl3]
            exact Nat.le_trans (Nat.add_le_add (Nat.mul_le_mul_right 3 (take_le hl2)) (Nat.le_refl _)) (by decide)
          · refine ⟨_, rfl, fun b o e => ?_, ?_⟩
            · have nb : b ≠ lg := ne_of_none e hlg
              rw [upd_ne nb]
              exact s3 _ _ (s2 _ _ e)
            · rw [upd_same, take_at ht, List.flatMap_append, List.flatMap_cons, List.flatMap_nil, List.append_nil, rowsV, rowsV, rowsV, List.map_append]
      · rintro σ H2 ⟨v4, rfl, s2, hL2⟩
        rw [show (rowsV L).length = L.length from List.length_map _, List.take_length] at hL2
        refine ⟨_, rfl, lg, _, _, _, rfl, sm.trans s2, ?_⟩
        rw [hnext]
        exact hL2
    · rintro σ H1 ⟨q, v2, v3, v4, rfl, sm, hq⟩
      have hlen := spell_rep_len m hb.2
      have hU : Mi.rowsL m = (Mi.spell (List.replicate m Mi.sg3)).filter fun r => r != Mi.zer m := rfl
      generalize Mi.spell (List.replicate m Mi.sg3) = L at hq hlen hU
      refine ⟨_, rfl, q, rfl, ⟨_, SqL.of hq⟩, fun D hD => ?_⟩
      refine lc_pure (walk_list (K := K) (a := q) (xs := rowsV L)) hD (fun i => rowsV ((L.take i).filter fun r => r != Mi.zer m)) rfl (fun H' s' => SqL.of (s' _ _ hq)) (fun i hi => ?_) (fun i x H3 H4 Q1 Q2 hi sm3 hy q1 q2 => ?_) fun H' sm3 hH => ?_
      · rw [List.length_map]
        exact Nat.lt_of_le_of_lt (Nat.le_trans (List.length_filter_le _ _) (take_le hlen)) (by decide)
      · obtain ⟨rfl, hx⟩ := hy
        obtain ⟨r, hr1, rfl⟩ := map_at hx
        have st := filt_at (p := fun r : List Nat => r != Mi.zer m) hr1
        refine ⟨rfl, _, rfl, _, rfl, 48, m, rfl, rfl, by omega, by omega, rfl, _, rfl, ?_⟩
        rw [Int.toNat_natCast]
        by_cases h : r = Mi.zer m
        · have e1 : (!decide (vR r = vR (List.replicate m 48))) = false := by rw [h]; simp [Mi.zer]
          rw [e1]
          rw [if_neg (by simp [h])] at st
          exact iteF (q2 _ (by rw [st]) (Same.refl _))
        · have e1 : (!decide (vR r = vR (List.replicate m 48))) = true := by
            have : ¬ vR r = vR (List.replicate m 48) := fun z => h (S_inj (V.str.inj z))
            rw [decide_eq_false this]
            rfl
          rw [e1]
          rw [if_pos (by simpa using h)] at st
          exact iteT ⟨_, rfl, q1 _ _ (by rw [st, rowsV, List.map_append]; rfl) (Same.refl _)⟩
      · rw [List.length_map, List.take_length, ← hU] at hH
        exact k _ _ (sm.trans sm3) hH
end
end My
set_option Elab.async false
set_option linter.all false
set_option maxRecDepth 100000
set_option maxHeartbeats 4000000
namespace My
open PySem PySem.Spec PyProof.Rows L2 LamX SX
section
variable {P : Program} {w : World} {K : PySem.W.Frag} {mg : Str → Option Value} {base : Heap} {f C : Addr} {fd : FuncData} {n : Nat}
theorem scLTold : FnScope ["_law_places", "_law_row"] ["_law_places"] (C8.fnScope (top 50)) := C8.fnScope_by (by decide +kernel)
theorem bl_test {r : List Nat} {c : Nat} {t : List Nat} (e : Mi.sgn r = c :: t) : decide (V.str ⟨#[c]⟩ = vR [43]) = Mi.bl r := by
  rw [bl_at e]
  by_cases h : c = 43
  · subst h; simp
  · have : ¬ V.str ⟨#[c]⟩ = vR [43] := fun z => h (List.cons.inj (S_inj (a := [c]) (b := [43]) (V.str.inj z))).1
    rw [decide_eq_false this, decide_eq_false h]
theorem ok_ltold (h1n : 1 ≤ n) (F : C8.Def K mg "_law_told" (top 50) f fd) (b : Binds K fd ["_law_places"] []) (CR : C8.Cal P w K mg base 1 "_law_rows" spAll []) : CalN n P w K mg base 2 "_law_told" spLTold [] := by
  refine ⟨f, fd, ["_law_places"], [], fnN F.fn scLTold (fun vs H Q E h => ?_) (fun cdv A outer s H vs Q E hr h => ?_), F.mgf, F.kp, b, .nil⟩
  · obtain ⟨m, _, rfl, _⟩ := h; rfl
  · obtain ⟨m, hm, rfl, k⟩ := h
    refine ⟨_, bn_one (sn_ret (en_lc (own := [("_law_row", 1)]) (g := gName 1) (tt := tTest (tOp rEq (tOp rIxS (tRplG (tVar 1) (S [48]) (S [])) (tC (.int 0))) (tC (vR [43])))) (te := tVar 1) rfl scLTold.nd
      (.of (pi_list (C8.pe_c CR hr (by decide) (by rfl) (pa_cons (pv 0) pa_nil)))) (blkOk_by (own := [("_law_row", 1)]) (N := ["_law_places", "_law_row"]) (sc := C8.fnScope (top 50)) (by decide +kernel))
      (fun _ _ _ _ _ => pg_name (i := 1) scLTold.nd rfl (Or.inl rfl)) (fun _ _ _ _ _ => cn_one (tn_cmpR op_eq (en_ix ix_str (en_replL (y := S [48]) (z := S []) (.of (pv 1)) h1n) (.of pe_int) (fun _ _ => rfl)) (.of pe_str) (nomark _))) (fun _ _ _ _ _ => .of (pv 1)))), ?_⟩
    refine ⟨_, rfl, m, hm, rfl, fun H2 q sm hq => ⟨q, rfl, ⟨_, SqL.of hq⟩, fun D hD => ?_⟩⟩
    have hlen : (Mi.rowsL m).length ≤ 242 := Mi.rows_len hm
    have hrow : ∀ r, r ∈ Mi.rowsL m → r.length ≤ 10 ∧ Mi.sgn r ≠ [] := fun r hr' => ⟨by rw [(rows_mem hr').1]; have := pl_le hm; omega, (rows_mem hr').2.2⟩
    have hU : Mi.told m = (Mi.rowsL m).filter Mi.bl := rfl
    generalize Mi.rowsL m = L at hq hlen hrow hU
    refine lc_pure (walk_list (K := K) (a := q) (xs := rowsV L)) hD (fun i => rowsV ((L.take i).filter Mi.bl)) rfl (fun H' s' => SqL.of (s' _ _ hq)) (fun i hi => ?_) (fun i x H3 H4 Q1 Q2 hi sm3 hy q1 q2 => ?_) fun H' sm3 hH => ?_
    · rw [List.length_map]
      exact Nat.lt_of_le_of_lt (Nat.le_trans (List.length_filter_le _ _) (take_le hlen)) (by decide)
    · obtain ⟨rfl, hx⟩ := hy
      obtain ⟨r, hr1, rfl⟩ := map_at hx
      have st := filt_at (p := Mi.bl) hr1
      obtain ⟨hr10, hne⟩ := hrow r (List.mem_of_getElem? hr1)
      cases e : Mi.sgn r with
      | nil => exact absurd e hne
      | cons c t =>
        refine ⟨rfl, _, rfl, S r, rfl, ?_, ?_⟩
        · rw [S_len, S_len]
          show r.length + (r.length + 1) * 0 ≤ 16777216
          omega
        rw [replace_sgn]
        refine ⟨S (Mi.sgn r), 0, c, rfl, rfl, ?_, ?_, rfl, ?_⟩
        · rw [S_len]
          exact Nat.le_trans (Nat.le_trans (sgn_len r) hr10) (by decide)
        · rw [e]
          exact atI_nat (j := 0) (xs := c :: t) rfl
        rw [bl_test e]
        refine ⟨_, rfl, ite2 (fun h => ?_) fun h => ?_⟩
        · rw [if_pos h] at st
          exact ⟨_, rfl, q1 _ _ (by rw [st, rowsV, List.map_append]; rfl) (Same.refl _)⟩
        · rw [if_neg h] at st
          exact q2 _ (by rw [st]) (Same.refl _)
    · rw [List.length_map, List.take_length, ← hU] at hH
      exact k _ _ (sm.trans sm3) (sm.free hD) hH
theorem scOppo : FnScope ["_law_row", "_law_sign"] ["_law_row"] (C8.fnScope (top 51)) := C8.fnScope_by (by decide +kernel)
theorem ok_oppo (F : C8.Def K mg "_law_opposite" (top 51) f fd) (b : Binds K fd ["_law_row"] []) : C8.Cal P w K mg base 1 "_law_opposite" spTR [] := by
  refine C8.cal0 F b .nil scOppo (fun vs H Q E h => ?_) (fun cdv A outer s H vs Q E hr h => ?_)
  · obtain ⟨r, rfl, _⟩ := h; rfl
  · obtain ⟨r, rfl, hl, hc, k⟩ := h
    refine ⟨_, pss_one (ps_ret (pe_join pe_str (pe_lc (own := [("_law_sign", 1)]) (g := gName 1) (tt := tYes) rfl scOppo.nd (pi_str (pv 0)) (blkOk_by (own := [("_law_sign", 1)]) (N := ["_law_row", "_law_sign"]) (sc := C8.fnScope (top 51)) (by decide +kernel))
      (fun _ _ _ _ _ => pg_name (i := 1) scOppo.nd rfl (Or.inl rfl)) (fun _ _ _ _ _ => pts_nil)
      (fun _ _ _ _ _ => pe_dget (hu1 hr) (pe_disp (pps_cons pe_str pe_str (pps_cons pe_str pe_str (pps_cons pe_str pe_str pps_nil))) (by rfl) (by rfl) (fun z => by cases z) (by decide)) (pv 1) (fun _ _ => rfl))))), ?_⟩
    refine ⟨⟨_, rfl⟩, _, rfl, _, rfl, fun D hD => ?_⟩
    refine lc_pure0 walk_str hD (fun i => (r.take i).map fun c => vR [Tk.tn c]) rfl (fun _ _ => trivial) (fun i hi => ?_) (fun i x H1 H2 Q1 hi sm hy q1 => ?_) fun H' sm hH => ?_
    · rw [List.length_map, List.length_take]
      exact Nat.lt_of_le_of_lt (Nat.le_trans (Nat.min_le_right _ _) hl) (by decide)
    · obtain ⟨rfl, c, hc1, rfl⟩ := hy
      have hr1 : r[i]? = some c := by simpa [S] using hc1
      have hcc := hc c (List.mem_of_getElem? hr1)
      refine ⟨rfl, fun p hp => ⟨upd_same, [(.inr (S [43]), vR [45]), (.inr (S [45]), vR [43]), (.inr (S [48]), vR [48])], rfl, by decide, _, rfl, ?_⟩⟩
      have sm2 : Same H2 (upd (upd H2 p (.dK [])) p (.dK (mergeK [] [((.inr (S [43]) : Key), vR [45]), (.inr (S [45]), vR [43]), (.inr (S [48]), vR [48])]))) := by rw [upd_upd]; exact same_new hp
      have hv : valV (mergeK [] [((.inr (S [43]) : Key), vR [45]), (.inr (S [45]), vR [43]), (.inr (S [48]), vR [48])]) (.inr (S [c])) = some (vR [Tk.tn c]) := by
        rcases hcc with e | e | e <;> subst e <;> decide +kernel
      have g := DGet.k (k := .inr (S [c])) (H := upd (upd H2 p (.dK [])) p (.dK (mergeK [] [((.inr (S [43]) : Key), vR [45]), (.inr (S [45]), vR [43]), (.inr (S [48]), vR [48])]))) (a := p) upd_same
      rw [hv] at g
      exact ⟨p, _, rfl, g, q1 _ _ (by rw [take_at hr1, List.map_append]; rfl) sm2⟩
    · have e : (r.take (S r).cps.size).map (fun c => vR [Tk.tn c]) = ((r.map fun c => [Tk.tn c]).map S).map V.str := by
        rw [show (S r).cps.size = r.length by simp [S], List.take_length, List.map_map, List.map_map]
        rfl
      rw [e] at hH
      refine ⟨_, D, _, rfl, rfl, .inl (SqL.of hH), ?_, ?_⟩
      · rw [lens, List.length_map, List.length_map, sum_ones]
        show r.length + r.length * 0 ≤ 16777216
        omega
      · have e2 : Txt.join ("" : Str) ((r.map fun c => [Tk.tn c]).map S) = S (Tk.neg r) := by
          refine (join_S [] _).trans ?_
          rw [joinL_flat, flat_one]
          rfl
        rw [e2]
        exact k _ sm
theorem scLLab : FnScope ["_law_table", "_law_row"] ["_law_table", "_law_row"] (C8.fnScope (top 52)) := C8.fnScope_by (by decide +kernel)
theorem ok_llab (F : C8.Def K mg "_law_label" (top 52) f fd) (b : Binds K fd ["_law_table", "_law_row"] []) (CO : C8.Cal P w K mg base 1 "_law_opposite" spTR []) : C8.Cal P w K mg base 2 "_law_label" spLLab [] := by
  refine C8.cal0 F b .nil scLLab (fun vs H Q E h => ?_) (fun cdv A outer s H vs Q E hr h => ?_)
  · obtain ⟨d, m, labs, r, rfl, _⟩ := h; rfl
  · obtain ⟨d, m, labs, r, rfl, hm, hlen, hd, hR, k⟩ := h
    refine ⟨_, pss_one (ps_ret (pe_ifExp (pt_cmp (pc_din (hu1 hr) (pv 1) (pv 0))) (pe_dget (hu1 hr) (pv 0) (pv 1) (fun _ _ => rfl))
      (pe_un un_neg (pe_dget (hu1 hr) (pv 0) (C8.pe_c CO hr (by decide) (by rfl) (pa_cons (pv 1) pa_nil)) (fun _ _ => rfl))))), ?_⟩
    have hrl : r.length ≤ 10 := by rw [hR.1.1]; have := pl_le hm; omega
    have g0 := DGet.k (k := .inr (S r)) hd
    rw [valV_tab] at g0
    refine ⟨_, rfl, _, rfl, d, _, rfl, g0, _, rfl, ?_⟩
    rcases Mi.lab_told hlen.symm hR with ⟨e, v, hv, _, el⟩ | ⟨e, v, hv, _, el⟩
    · unfold Mi.kvs at hv
      rw [hv] at g0 ⊢
      refine iteT ⟨_, rfl, _, rfl, d, .int v, rfl, g0, ?_⟩
      show Q (.int v) H
      rw [← el]
      exact k _ (Same.refl _)
    · have hno : Mi.lookL ((Mi.told m).zip labs) r = none := Mi.lookL_none fun h => by
        rw [(Mi.mem_told.mp h).2] at e
        cases e
      rw [hno]
      unfold Mi.kvs at hv
      refine iteF ⟨_, rfl, _, rfl, r, rfl, hrl, hR.1.2, fun H2 s2 => ⟨d, .int v, rfl, ?_, _, rfl, ?_⟩⟩
      · have g := DGet.k (k := .inr (S (Tk.neg r))) (s2 _ _ hd)
        rw [valV_tab, hv] at g
        exact g
      · show Q (.int (-v)) H2
        rw [← el]
        exact k _ s2
theorem scBelow : FnScope ["_law_one", "_law_other", "_law_mine", "_law_its"] ["_law_one", "_law_other"] (C8.fnScope (top 53)) := C8.fnScope_by (by decide +kernel)
theorem ok_below (T : Txt K mg) (F : C8.Def K mg "_law_is_below" (top 53) f fd) (b : Binds K fd ["_law_one", "_law_other"] []) : C8.Cal P w K mg base 1 "_law_is_below" spBelow [] := by
  refine C8.cal0 F b .nil scBelow (fun vs H Q E h => ?_) (fun cdv A outer s H vs Q E hr h => ?_)
  · obtain ⟨r, o, rfl, _⟩ := h; rfl
  · obtain ⟨r, o, rfl, hab, hl, k⟩ := h
    refine ⟨_, pss_one (ps_ret (pe_and (pe_cmpR op_ne (pv 0) (pv 1) (nomark _)) (pe_one (pe_cmpR (op_eqD hr.units)
      (pe_lc (own := [("_law_mine", 2), ("_law_its", 3)]) (g := gTup K 2 (gCons (gName 2) (gCons (gName 3) gNil))) (tt := tAnd (tTest (tOp rNe (tVar 2) (tC (vR [48])))) (tTest (tOp rNe (tVar 2) (tVar 3)))) rfl scBelow.nd (pi_zipS (by rfl) T.zip (pa_cons (pv 0) (pa_cons (pv 1) pa_nil)))
        (blkOk_by (own := [("_law_mine", 2), ("_law_its", 3)]) (N := ["_law_one", "_law_other", "_law_mine", "_law_its"]) (sc := C8.fnScope (top 53)) (by decide +kernel))
        (fun _ _ _ _ _ => pg_tup (n := 2) rfl (pgs_cons (pg_name (i := 2) scBelow.nd rfl (Or.inl rfl)) (pgs_cons (pg_name (i := 3) scBelow.nd rfl (Or.inl rfl)) pgs_nil)))
        (fun _ _ _ _ _ => pts_one (PW.pt (pw_and (pt_cmpR op_ne (pv 2) pe_str (nomark _)) (pw_and1 (pt_cmpR op_ne (pv 2) (pv 3) (nomark _)))))) (fun _ _ _ _ _ => pe_int)) (pe_lst pa_nil) (nomark _))))), ?_⟩
    have e0 : (!decide (vR r = vR o)) = true := by
      rw [decide_eq_false fun z => hab.1 (S_inj (V.str.inj z))]
      rfl
    refine ⟨_, rfl, _, rfl, rfl, true, e0 ▸ rfl, iteT ?_⟩
    refine ⟨_, rfl, _, rfl, _, _, rfl, fun D hD => ?_⟩
    refine lc_pure walk_zipS hD (fun _ => []) rfl (fun _ _ => trivial) (fun i hi => by show 0 < sizeLine; decide) (fun i x H1 H2 Q1 Q2 hi sm hy q1 q2 => ?_) fun H' sm hH => ?_
    · obtain ⟨A1, a, c, rfl, hT, rfl, ha, hc⟩ := hy
      have ha' : r[i]? = some a := by simpa [S] using ha
      have hc' : o[i]? = some c := by simpa [S] using hc
      refine ⟨A1, _, rfl, SqT.of upd_same, rfl, _, _, rfl, _, _, rfl, rfl, rfl, _, rfl, rfl, _, rfl, ?_⟩
      refine ite2 (fun h => ⟨_, rfl, _, rfl, rfl, _, rfl, ?_⟩) fun h => iteF (q2 _ rfl (same_new hT))
      have h48 : a ≠ 48 := fun z => by
        subst z
        exact absurd h (by decide)
      have hac : a = c := by
        rcases hab.2.2 i with z | z
        · rw [ha'] at z
          exact absurd (Option.some.inj z) h48
        · rw [ha', hc'] at z
          exact Option.some.inj z
      rw [show (!decide (V.str ⟨#[a]⟩ = V.str ⟨#[c]⟩)) = false by rw [hac]; simp]
      exact iteF (q2 _ rfl (same_new hT))
    · refine ⟨Nat.zero_le _, fun p hp => ⟨.list [], .list [], .lst (SqL.of ?_) .nil, .lst (SqL.of upd_same) .nil, rfl, rfl, ?_⟩⟩
      · exact same_new hp _ _ hH
      · exact k _ (sm.trans (same_new hp))
end
end My
set_option Elab.async false
set_option linter.all false
set_option maxRecDepth 100000
set_option maxHeartbeats 4000000
namespace My
open PySem PySem.Spec PyProof.Rows L2 LamX SX
/-! ### a comprehension each turn of which asks the crowd -/
def OkL (am : List Int) (v : Int) : Prop := labOk v ∧ (v.natAbs : Int) ∈ am
theorem But.upd_new {c D : Addr} {H H1 : Hp} {o : HO} (b : But c H H1) (hD : H D = none) : But c H (upd H1 D o) := fun p u e n => by
  rw [upd_ne (ne_of_none e hD)]
  exact b p u e n
theorem Crowd.upd {H : Hp} {c l D : Addr} {t : Int} {o : HO} (h : Crowd H c l t) (n1 : D ≠ c) (n2 : D ≠ l) : Crowd (upd H D o) c l t := by
  obtain ⟨cells, u, left, h1, h2, h3⟩ := h
  exact ⟨cells, u, left, by rw [upd_ne n1.symm]; exact h1, by rw [upd_ne n2.symm]; exact h2, h3⟩
theorem lc_it0 {J : It} {n : Nat} {G : Hp → Prop} {Y : Nat → Hp → V → Hp → Prop} (wk : Walk J n G Y) {g : TG} {te : TE} {vs : List Nat} {σ : L2.St} {H1 : Hp} {D : Addr} {Qd : Hp → Prop} (Pv : Nat → Hp → Prop) (h0 : Pv 0 (upd H1 D (.lst []))) (hG : ∀ i H, i ≤ n → Pv i H → G H)
    (hs : ∀ i x H H', i < n → Pv i H → Y i H x H' → g x (wipe σ vs) H' fun σ2 H2 => wipe σ2 vs = wipe σ vs ∧ te σ2 H2 fun y H4 => ∃ acc, H4 D = some (.lst acc) ∧ acc.length < sizeLine ∧ Pv (i + 1) (upd H4 D (.lst (acc ++ [y])))) (hd : ∀ H, Pv n H → Qd H) :
    ∃ W : Nat → Nat → Hp → Prop, (∃ m, W 0 m (upd H1 D (.lst []))) ∧ ∀ i m H, W i m H →
      (J.stop i H ∧ Qd H) ∨ (J.go i H ∧ ∃ Nx : Hp → Prop, (∀ H', Nx H' → ∃ m', m' < m ∧ W (i + 1) m' H') ∧ ∀ x H', J.yld i H x H' → g x (wipe σ vs) H' fun σ2 H2 => wipe σ2 vs = wipe σ vs ∧ tYes σ2 H2 fun b H3 =>
        if b = true then te σ2 H3 fun y H4 => ∃ acc, H4 D = some (.lst acc) ∧ acc.length < sizeLine ∧ Nx (upd H4 D (.lst (acc ++ [y]))) else Nx H3) := by
  refine lc_it (tt := tYes) wk Pv h0 hG (fun i x H H' hi p y => ?_) hd
  have e : (fun (σ2 : L2.St) (H2 : Hp) => wipe σ2 vs = wipe σ vs ∧ tYes σ2 H2 fun b H3 => if b = true then te σ2 H3 fun y H4 => ∃ acc, H4 D = some (.lst acc) ∧ acc.length < sizeLine ∧ Pv (i + 1) (upd H4 D (.lst (acc ++ [y]))) else Pv (i + 1) H3) =
      fun σ2 H2 => wipe σ2 vs = wipe σ vs ∧ te σ2 H2 fun y H4 => ∃ acc, H4 D = some (.lst acc) ∧ acc.length < sizeLine ∧ Pv (i + 1) (upd H4 D (.lst (acc ++ [y]))) := by
    funext σ2 H2
    show (_ ∧ if true = true then (te σ2 H2 fun y H4 => ∃ acc, H4 D = some (.lst acc) ∧ acc.length < sizeLine ∧ Pv (i + 1) (upd H4 D (.lst (acc ++ [y])))) else Pv (i + 1) H2) = _
    rw [if_pos rfl]
  rw [e]
  exact hs i x H H' hi p y
theorem lc_crowd {J : It} {n : Nat} {G : Hp → Prop} {Y : Nat → Hp → V → Hp → Prop} (wk : Walk J n G Y) {g : TG} {te : TE} {vs : List Nat} {σ : L2.St} {H1 : Hp} {D c l : Addr} {t : Int} {am : List Int} {Qd : Hp → Prop} (hD : H1 D = none) (hc : Crowd H1 c l t) (hlc : l ≠ c) (hn : n ≤ 200)
    (hG : ∀ H, But c H1 H → G H)
    (hs : ∀ i x H H' (Q1 : VK), i < n → But c H1 H → Crowd H c l (t + 2 * i) → Y i H x H' → (∀ v H4, But c H H4 → Crowd H4 c l (t + 2 * i + 2) → OkL am v → Q1 (.int v) H4) → g x (wipe σ vs) H' fun σ2 H2 => wipe σ2 vs = wipe σ vs ∧ te σ2 H2 Q1)
    (hd : ∀ H acc, But c H1 H → Crowd H c l (t + 2 * n) → H D = some (.lst (intsV acc)) → acc.length = n → (∀ v ∈ acc, OkL am v) → Qd H) :
    ∃ W : Nat → Nat → Hp → Prop, (∃ m, W 0 m (upd H1 D (.lst []))) ∧ ∀ i m H, W i m H →
      (J.stop i H ∧ Qd H) ∨ (J.go i H ∧ ∃ Nx : Hp → Prop, (∀ H', Nx H' → ∃ m', m' < m ∧ W (i + 1) m' H') ∧ ∀ x H', J.yld i H x H' → g x (wipe σ vs) H' fun σ2 H2 => wipe σ2 vs = wipe σ vs ∧ tYes σ2 H2 fun b H3 =>
        if b = true then te σ2 H3 fun y H4 => ∃ acc, H4 D = some (.lst acc) ∧ acc.length < sizeLine ∧ Nx (upd H4 D (.lst (acc ++ [y]))) else Nx H3) := by
  obtain ⟨cells0, u0, left0, hc0, hl0, _⟩ := id hc
  have nDc : D ≠ c := (ne_of_none hc0 hD).symm
  have nDl : D ≠ l := (ne_of_none hl0 hD).symm
  refine lc_it0 wk (fun i H => But c H1 H ∧ Crowd H c l (t + 2 * i) ∧ ∃ acc, H D = some (.lst (intsV acc)) ∧ acc.length = i ∧ ∀ v ∈ acc, OkL am v)
    ⟨.of (same_new hD), by
      have := hc.upd (o := .lst []) nDc nDl
      simpa using this, [], upd_same, rfl, fun v hv => by cases hv⟩ (fun i H _ p => hG H p.1) (fun i x H H' hi p y => ?_) fun H p => ?_
  · obtain ⟨bt, cr, acc, hacc, hl, hok⟩ := p
    refine hs i x H H' _ hi bt cr y fun v H4 b4 c4 ok4 => ⟨intsV acc, b4 _ _ hacc nDc, ?_, (bt.trans b4).upd_new hD, ?_, acc ++ [v], ?_, ?_, ?_⟩
    · rw [intsV, List.length_map, hl]
      exact Nat.lt_of_lt_of_le hi (Nat.le_trans hn (by decide))
    · refine (c4.mono ?_).upd nDc nDl
      omega
    · rw [upd_same, intsV, intsV, List.map_append]; rfl
    · rw [List.length_append, hl]; rfl
    · intro u hu
      rcases List.mem_append.mp hu with z | z
      · exact hok u z
      · rw [List.mem_singleton.mp z]; exact ok4
  · obtain ⟨bt, cr, acc, hacc, hl, hok⟩ := p
    exact hd H acc bt cr hacc hl hok
/-! ### _law_few -/
def ButN (c : Addr) (H H' : Hp) : Prop := ∀ b o, H b = some o → b ≠ c → (∀ ps, o ≠ .tbl ps) → H' b = some o
theorem ButN.of {c : Addr} {H H' : Hp} (b : But c H H') : ButN c H H' := fun p o h n _ => b p o h n
theorem ButN.trans {c : Addr} {H H1 H2 : Hp} (a : ButN c H H1) (b : ButN c H1 H2) : ButN c H H2 := fun p o h n z => b p o (a p o h n z) n z
theorem ButN.ext {c : Addr} {H H' : Hp} (b : ExtN H H') : ButN c H H' := fun p o h _ z => b p o h z
theorem tabs_but {T : List (Addr × Str)} {H H' : Hp} {c : Addr} {xs : List V} (t : Tabs T H) (hc : H c = some (.lst xs)) (b : But c H H') : Tabs T H' := fun p hp => by
  obtain ⟨ps, h1, h2, h3⟩ := t p hp
  refine ⟨ps, b _ _ h1 (ne_of h1 hc (by intro z; cases z)), h2, fun pos cv e => ?_⟩
  obtain ⟨c0, e0, h0⟩ := h3 pos cv e
  exact ⟨c0, e0, b _ _ h0 (ne_of h0 hc (by intro z; cases z))⟩
theorem Crowd.ext {H H' : Hp} {c l : Addr} {t : Int} (h : Crowd H c l t) (s : ExtN H H') : Crowd H' c l t := by
  obtain ⟨cells, u, left, h1, h2, h3⟩ := h
  exact ⟨cells, u, left, s _ _ h1 (fun ps z => by cases z), s _ _ h2 (fun ps z => by cases z), h3⟩
theorem Crowd.at {H : Hp} {c l : Addr} {t : Int} (h : Crowd H c l t) : ∃ xs, H c = some (.lst xs) := by
  obtain ⟨cells, u, left, h1, h2, h3⟩ := h
  exact ⟨_, h1⟩
def spFew (T0 : List (Addr × Str)) : Sp := fun vs H Q _ => ∃ (c l rl : Addr) (m : Nat) (t : Int), vs = [.ref c, .int m, .ref rl] ∧ pl m ∧ 2 ≤ m ∧ Crowd H c l t ∧ l ≠ c ∧ t ≤ 500000 ∧ H rl = some (.lst (rowsV (Mi.told m))) ∧ rl ≠ c ∧ Tabs T0 H ∧
  ∀ H' q labs am, ButN c H H' → Tabs T0 H' → Crowd H' c l (t + 1000) → H' q = some (.lst (intsV labs)) → labs.length = (Mi.told m).length → (∀ v ∈ labs, OkL am v) → am.length + 1 = m → Q (.ref q) H'
abbrev NFew : List Str := ["_law_crowd_here", "_law_places", "_law_rows_here", "_law_way", "_law_most", "_law_amounts", "_law_last", "_law_at", "_law_labels", "_law_first", "_law_sides", "_law_row", "_law_label_here"]
section
variable {P : Program} {w : World} {K : PySem.W.Frag} {mg : Str → Option Value} {base : Heap} {f C : Addr} {fd : FuncData} {n : Nat}
theorem scFew : FnScope NFew ["_law_crowd_here", "_law_places", "_law_rows_here"] (C8.fnScope (top 54)) := C8.fnScope_by (by decide +kernel)
def tFewEnd (K : PySem.W.Frag) : TE := tOp (rI CMul fun i j => .int (i * j)) (tOp (rIxL K) (tVar 5) (tCall spHead [] C8.E0 (tCons (tVar 0) (tCons (tVar 4) tNil)))) (tIf (tTest (tOp rEq (tOp rIxS (tRplG (tVar 11) (S [48]) (S [])) (tC (.int 0))) (tC (vR [43])))) (tC (.int 1)) (tUn (rU fun i => .int (-i)) (tC (.int 1))))
abbrev rMin1 : List V → Hp → VK → Prop := fun xs H Q => ∃ i j, xs = [.int i, .int j] ∧ Q (.int (if j < i then j else i)) H
abbrev rMax1 : List V → Hp → VK → Prop := fun xs H Q => ∃ i j, xs = [.int i, .int j] ∧ Q (.int (if j > i then j else i)) H
abbrev rAbs1 : List V → Hp → VK → Prop := fun xs H Q => ∃ i, xs = [.int i] ∧ Q (.int (if i < 0 then -i else i)) H
abbrev tCnt (c : Nat) : TE := tM1 (fun x xs H Q => ∃ a b, x = .str a ∧ xs = [.str b] ∧ Q (.int (Txt.count a b)) H) (tVar 11) (tC (vR [c]))
abbrev tPick (K : PySem.W.Frag) (ti : TE) (ts : TT) : TE := tOp (rI CMul fun i j => .int (i * j)) (tOp (rIxL K) (tVar 5) (tOp (rI0 fun i j => .int (i - j)) (tCB rMin1 (tCons ti (tCons (tVar 4) tNil))) (tC (.int 1)))) (tIf ts (tC (.int 1)) (tUn (rU fun i => .int (-i)) (tC (.int 1))))
def tW1 (K : PySem.W.Frag) : TE := tPick K (tCB rAbs1 (tCons (tVar 12) tNil)) (tTest (tOp (rI0 fun i j => .bl (decide (j < i))) (tVar 12) (tC (.int 0))))
def tW2 (K : PySem.W.Frag) : TE := tPick K (tCB rMax1 (tCons (tCnt 43) (tCons (tCnt 45) tNil))) (tTest (tOp (rI0 fun i j => .bl (decide (j ≤ i))) (tCnt 43) (tCnt 45)))
/-! #### picks -/
def pick (am : List Int) (i : Int) : Int := am.getD i.toNat 0
theorem pick_at {am : List Int} {i : Int} (h0 : 0 ≤ i) (h1 : i < am.length) : pick am i ∈ am ∧ atI (intsV am) i = some (.int (pick am i)) := by
  obtain ⟨j, rfl⟩ : ∃ j : Nat, i = (j : Int) := ⟨_, (Int.toNat_of_nonneg h0).symm⟩
  have hj : j < am.length := by omega
  have e : pick am (j : Int) = am[j] := by
    unfold pick
    rw [Int.toNat_natCast, List.getD_eq_getElem?_getD, List.getElem?_eq_getElem hj]
    rfl
  rw [e]
  exact ⟨List.getElem_mem hj, atI_nat (by rw [intsV, List.getElem?_map, List.getElem?_eq_getElem hj]; rfl)⟩
theorem ok_mul {am : List Int} {a s : Int} (ha : a ∈ am) (hb : 1 ≤ a ∧ a ≤ 1000) (hs : s = 1 ∨ s = -1) : OkL am (a * s) := by
  rcases hs with e | e
  · subst e
    rw [Int.mul_one]
    refine ⟨by unfold labOk; omega, ?_⟩
    have : (a.natAbs : Int) = a := by omega
    rw [this]
    exact ha
  · subst e
    rw [show a * -1 = -a by omega]
    refine ⟨by unfold labOk; omega, ?_⟩
    have : ((-a).natAbs : Int) = a := by omega
    rw [this]
    exact ha
theorem cmul1 {a s : Int} (hb : 1 ≤ a ∧ a ≤ 1000) : CMul a s := .inl ⟨by show -(2 ^ 64) < a; omega, by show a < 2 ^ 64; omega⟩
theorem cnt_nn (c : Nat) : ∀ r : List Nat, 0 ≤ PyProof.Rows.cnt c r
  | [] => by rw [PyProof.Rows.cnt_nil]; decide
  | a :: r => by
    rw [PyProof.Rows.cnt_cons]
    have := cnt_nn c r
    by_cases h : a = c
    · rw [if_pos h]; omega
    · rw [if_neg h]; omega
theorem cnt_pos {c : Nat} : ∀ {r : List Nat}, c ∈ r → 1 ≤ PyProof.Rows.cnt c r
  | a :: r, h => by
    rw [PyProof.Rows.cnt_cons]
    rcases List.mem_cons.mp h with e | e
    · rw [if_pos e.symm]
      have := cnt_nn c r
      omega
    · have := cnt_pos e
      by_cases h : a = c
      · rw [if_pos h]; omega
      · rw [if_neg h]; omega
theorem told_plus {m : Nat} {r : List Nat} (h : r ∈ Mi.told m) : 43 ∈ r := by
  have q := (Mi.mem_told.mp h).2
  unfold Mi.bl at q
  have e : (Mi.sgn r).head? = some 43 := eq_of_beq q
  have hm : 43 ∈ Mi.sgn r := List.mem_of_mem_head? e
  exact (List.mem_filter.mp hm).1
theorem rot_sgn {m : Nat} {r : List Nat} (h : r ∈ Mi.told m) (k : Nat) : Mi.sgn (r.drop k ++ r.take k) ≠ [] := fun e => by
  have hp := told_plus h
  have : 43 ∈ Mi.sgn (r.drop k ++ r.take k) := by
    refine List.mem_filter.mpr ⟨?_, by decide⟩
    rw [← List.take_append_drop k r] at hp
    rcases List.mem_append.mp hp with z | z
    · exact List.mem_append_right _ z
    · exact List.mem_append_left _ z
  rw [e] at this
  cases this
def g1 (m : Nat) (am : List Int) (v : Int) : Int := pick am ((if ((m : Int) - 1) < (v.natAbs : Int) then (m : Int) - 1 else (v.natAbs : Int)) - 1) * (if decide (0 < v) = true then 1 else -1)
def g2 (m : Nat) (am : List Int) (r : List Nat) : Int :=
  pick am ((if ((m : Int) - 1) < (if Txt.count (S r) (S [45]) > Txt.count (S r) (S [43]) then Txt.count (S r) (S [45]) else Txt.count (S r) (S [43])) then (m : Int) - 1 else (if Txt.count (S r) (S [45]) > Txt.count (S r) (S [43]) then Txt.count (S r) (S [45]) else Txt.count (S r) (S [43]))) - 1) *
    (if decide (Txt.count (S r) (S [45]) ≤ Txt.count (S r) (S [43])) = true then 1 else -1)
theorem cut_min {m : Nat} {am : List Int} (hm : 2 ≤ m) (hl : am.length + 1 = m) {x : Int} (h : 1 ≤ x) : 0 ≤ (if ((m : Int) - 1) < x then (m : Int) - 1 else x) - 1 ∧ (if ((m : Int) - 1) < x then (m : Int) - 1 else x) - 1 < (am.length : Int) := by
  by_cases z : ((m : Int) - 1) < x
  · rw [if_pos z]; omega
  · rw [if_neg z]; omega
theorem sgn_ite {p : Prop} [Decidable p] : (if p then (1 : Int) else -1) = 1 ∨ (if p then (1 : Int) else -1) = -1 := by
  by_cases h : p
  · exact .inl (if_pos h)
  · exact .inr (if_neg h)
def SFew (C fw fp : Addr) (T0 : List (Addr × Str)) (a : Addr) : Option Sp := if a = fw then some (spWTab C) else if a = fp then some (spPTab C T0) else none
theorem ok_few (T : Txt K mg) (CT : CTab K mg C) (h1n : 1 ≤ n) {fw fp : Addr} {T0 : List (Addr × Str)} (hw : mg "wave_table" = some (.ref fw)) (hp : mg "place_table" = some (.ref fp)) (AW : AtN n P w K mg base 8 fw (spWTab C)) (AP : AtN n P w K mg base 8 fp (spPTab C T0))
    (F : C8.Def K mg "_law_few" (top 54) f fd) (b : Binds K fd ["_law_crowd_here", "_law_places", "_law_rows_here"] []) (CH : C8.Cal P w K mg base 1 "_law_head" spHead []) (CHat : C8.Cal P w K mg base 2 "_law_hat" (spHat K) []) :
    CalN n P w K mg base 9 "_law_few" (spFew T0) [] := by
  refine ⟨f, fd, _, [], fnN F.fn scFew (fun vs H Q E h => ?_) (fun cdv A outer s H vs Q E hr h => ?_), F.mgf, F.kp, b, .nil⟩
  · obtain ⟨c, l, rl, m, t, rfl, _⟩ := h; rfl
  · obtain ⟨c, l, rl, m, t, rfl, hm, hm2, hc, hlc, ht, hrl, nrc, hT, k⟩ := h
    have AS : ∀ a sp, SFew C fw fp T0 a = some sp → AtN n P w K mg base 8 a sp := fun a sp e => by
      unfold SFew at e
      by_cases h1 : a = fw
      · rw [if_pos h1] at e
        cases e
        rw [h1]
        exact AW
      · rw [if_neg h1] at e
        by_cases h2 : a = fp
        · rw [if_pos h2] at e
          cases e
          rw [h2]
          exact AP
        · rw [if_neg h2] at e
          cases e
    refine ⟨_, bn_cons (.of (ps_asg (pe_tup (pa_cons (C8.pe_c CH hr (by decide) (by rfl) (pa_cons (pv 0) (pa_cons pe_int pa_nil))) (pa_cons (pe_op op_sub (pv 1) pe_int) pa_nil))) (pg_tup (n := 2) rfl (pgs_cons (pg_name (i := 3) scFew.nd rfl (.inl rfl)) (pgs_cons (pg_name (i := 4) scFew.nd rfl (.inr rfl)) pgs_nil)))))
      (bn_cons (.of (ps_asg (pe_tup (pa_cons (pe_lst pa_nil) (pa_cons pe_int pa_nil))) (pg_tup (n := 2) rfl (pgs_cons (pg_name (i := 5) scFew.nd rfl (.inr rfl)) (pgs_cons (pg_name (i := 6) scFew.nd rfl (.inl rfl)) pgs_nil)))))
      (bn_cons (.of (ps_for PassesOwn.never rfl (pi_range1 (by rfl) T.range (pa_cons (pv 4) pa_nil)) (pg_name (i := 7) scFew.nd rfl (.inl rfl))
        (pss_cons (ps_set (i := 6) scFew.nd rfl (.inl rfl) (pe_op op_add (pe_op op_add (pv 6) pe_int) (C8.pe_c CH hr (by decide) (by rfl) (pa_cons (pv 0) (pa_cons pe_int pa_nil)))))
          (pss_one (ps_expr (pe_bm PySem.F.plainAttrs_list PySem.F.slot_list_append PySem.F.type_list_append mt_append (pv 5) (pa_cons (pv 6) pa_nil)))))))
      (bn_cons (sn_if (.of (pt_cmpR op_eq (pv 3) pe_int (nomark _))) (.of (pss_one (ps_ret (pe_lc (own := [("_law_row", 11)]) (g := gName 11) (tt := tYes) rfl scFew.nd (pi_list (pv 2)) (blkOk_by (own := [("_law_row", 11)]) (N := NFew) (sc := C8.fnScope (top 54)) (by decide +kernel))
          (fun _ _ _ _ _ => pg_name (i := 11) scFew.nd rfl (Or.inl rfl)) (fun _ _ _ _ _ => pts_nil)
          (fun _ _ _ _ _ => pe_op op_mul (C8.pe_c CHat hr (by decide) (by rfl) (pa_cons (pv 0) (pa_cons (pv 5) pa_nil))) (C8.pe_c CHat hr (by decide) (by rfl) (pa_cons (pv 0) (pa_cons (pe_lst (pa_cons pe_int (pa_cons (pe_un un_neg pe_int) pa_nil))) pa_nil)))))))) bn_nil)
      (bn_cons (sn_if (.of (pt_cmpR op_eq (pv 3) pe_int (nomark _)))
        (bn_cut (sn_set (i := 8) scFew.nd rfl (.inl rfl) (en_fld (en_callE (k := 8) AS (hr.mono (by decide)) (.of (C8.pe_c CHat hr (by decide) (by rfl) (pa_cons (pv 0) (pa_cons (pe_lst (pa_cons (C8.pe_gc (v := .ref fw) (by rfl) ⟨_, hw, rfl⟩) (pa_cons (C8.pe_gc (v := .ref fp) (by rfl) ⟨_, hp, rfl⟩) pa_nil))) pa_nil)))) (.of (pa_cons (pv 1) pa_nil))) rfl))
          (.of (pss_one (ps_ret (pe_lc (own := [("_law_label_here", 12)]) (g := gName 12) (tt := tYes) (te := tW1 K) rfl scFew.nd (pi_tup (pv 8)) (blkOk_by (own := [("_law_label_here", 12)]) (N := NFew) (sc := C8.fnScope (top 54)) (by decide +kernel))
            (fun _ _ _ _ _ => pg_name (i := 12) scFew.nd rfl (Or.inl rfl)) (fun _ _ _ _ _ => pts_nil)
            (fun _ _ _ _ _ => pe_op op_mul (pe_ix ix_list (pv 5) (pe_op op_sub (pe_callB (call_min2 rfl) (by rfl) T.min (by decide +kernel) (pa_cons (pe_callB call_abs (by rfl) T.abs (by decide +kernel) (pa_cons (pv 12) pa_nil)) (pa_cons (pv 4) pa_nil))) pe_int) (fun _ _ => rfl))
              (pe_ifExp (pt_cmpR op_gt (pv 12) pe_int (nomark _)) pe_int (pe_un un_neg pe_int)))))))) bn_nil)
      (bn_cons (sn_if (.of (pt_cmpR op_eq (pv 3) pe_int (nomark _))) (.of (pss_one (ps_ret (pe_lc (own := [("_law_row", 11)]) (g := gName 11) (tt := tYes) (te := tW2 K) rfl scFew.nd (pi_list (pv 2)) (blkOk_by (own := [("_law_row", 11)]) (N := NFew) (sc := C8.fnScope (top 54)) (by decide +kernel))
          (fun _ _ _ _ _ => pg_name (i := 11) scFew.nd rfl (Or.inl rfl)) (fun _ _ _ _ _ => pts_nil)
          (fun _ _ _ _ _ => pe_op op_mul (pe_ix ix_list (pv 5) (pe_op op_sub (pe_callB (call_min2 rfl) (by rfl) T.min (by decide +kernel) (pa_cons (pe_callB (call_max2 rfl) (by rfl) T.max (by decide +kernel) (pa_cons
                (pe_m1 PySem.F.slot_str_count PySem.F.type_str_count mt_count (pv 11) pe_str) (pa_cons (pe_m1 PySem.F.slot_str_count PySem.F.type_str_count mt_count (pv 11) pe_str) pa_nil))) (pa_cons (pv 4) pa_nil))) pe_int) (fun _ _ => rfl))
              (pe_ifExp (pt_cmpR op_ge (pe_m1 PySem.F.slot_str_count PySem.F.type_str_count mt_count (pv 11) pe_str) (pe_m1 PySem.F.slot_str_count PySem.F.type_str_count mt_count (pv 11) pe_str) (nomark _)) pe_int (pe_un un_neg pe_int))))))) bn_nil)
      (bn_cons (.of (ps_set (i := 9) scFew.nd rfl (.inr rfl) (C8.pe_c CH hr (by decide) (by rfl) (pa_cons (pv 0) (pa_cons (pv 1) pa_nil)))))
      (bn_cons (.of (ps_setLc (i := 10) (own := [("_law_row", 11)]) (g := gName 11) (tt := tYes) rfl scFew.nd rfl rfl (sw_true rfl rfl rfl (by decide +kernel)) (pi_list (pv 2)) (blkOk_by (own := [("_law_row", 11)]) (N := NFew) (sc := C8.fnScope (top 54)) (by decide +kernel))
          (fun _ _ _ _ _ => pg_name (i := 11) scFew.nd rfl (Or.inl rfl)) (fun _ _ _ _ _ => pts_nil)
          (fun _ _ _ _ _ => pe_op op_add_str (pe_slice C8.sl_txt (pv 11) (po_some (pv 9)) po_none) (pe_slice C8.sl_txt (pv 11) po_none (po_some (pv 9))))))
      (bn_one (sn_ret (en_lc (own := [("_law_row", 11)]) (g := gName 11) (tt := tYes) (te := tFewEnd K) rfl scFew.nd (.of (pi_list (pv 10))) (blkOk_by (own := [("_law_row", 11)]) (N := NFew) (sc := C8.fnScope (top 54)) (by decide +kernel))
          (fun _ _ _ _ _ => pg_name (i := 11) scFew.nd rfl (Or.inl rfl)) (fun _ _ _ _ _ => .of pts_nil)
          (fun _ _ _ _ _ => en_op op_mul (.of (pe_ix ix_list (pv 5) (C8.pe_c CH hr (by decide) (by rfl) (pa_cons (pv 0) (pa_cons (pv 4) pa_nil))) (fun _ _ => rfl)))
            (en_ifExp (tn_cmpR op_eq (en_ix ix_str (en_replL (y := S [48]) (z := S []) (.of (pv 11)) h1n) (.of pe_int) (fun _ _ => rfl)) (.of pe_str) (nomark _)) (.of pe_int) (.of (pe_un un_neg pe_int)))))))))))))), ?_⟩
    have hb := pl_le hm
    have htl := Mi.told_len hm
    obtain ⟨hcx, hcc⟩ := hc.at
    refine ⟨_, rfl, c, l, t, 4, rfl, hc, by omega, by decide, by decide, fun H1 way b1 c1 w0 w1 => ?_⟩
    refine ⟨_, rfl, _, _, rfl, rfl, by show 2 ≤ sizeLine; decide, fun p1 hp1 => ⟨p1, _, rfl, SqT.of upd_same, rfl, _, _, rfl, _, _, rfl, rfl, ?_⟩⟩
    have b2 : But c H (upd H1 p1 (.tup [.int way, .int ((m : Int) - 1)])) := b1.trans (.of (same_new hp1))
    have c2 := c1.same (same_new (o := .tup [.int way, .int ((m : Int) - 1)]) hp1)
    show tSeq _ _ _ _ (upd H1 p1 (.tup [.int way, .int ((m : Int) - 1)]))
    generalize upd H1 p1 (.tup [.int way, .int ((m : Int) - 1)]) = H2 at b2 c2 ⊢
    refine ⟨Nat.zero_le _, fun al hal => ⟨by show 2 ≤ sizeLine; decide, fun p2 hp2 => ⟨p2, _, rfl, SqT.of upd_same, rfl, _, _, rfl, _, _, rfl, rfl, ?_⟩⟩⟩
    obtain ⟨cells2, u2, left2, hcc2, hcl2, _⟩ := id c2
    have nac : al ≠ c := (ne_of_none hcc2 hal).symm
    have nal : al ≠ l := (ne_of_none hcl2 hal).symm
    have s3 : Same H2 (upd (upd H2 al (.lst [])) p2 (.tup [.ref al, .int 0])) := (same_new hal).trans (same_new hp2)
    have hal3 : upd (upd H2 al (.lst [])) p2 (.tup [.ref al, .int 0]) al = some (.lst (intsV [])) := by
      rw [upd_ne (ne_of_none (upd_same (H := H2) (a := al) (o := .lst [])) hp2), upd_same]
      rfl
    show tSeq _ _ _ _ (upd (upd H2 al (.lst [])) p2 (.tup [.ref al, .int 0]))
    generalize upd (upd H2 al (.lst [])) p2 (.tup [.ref al, .int 0]) = H3 at s3 hal3 ⊢
    refine ⟨_, rfl, ((m : Int) - 1), rfl, by omega, by omega, ?_⟩
    have hnat : ((m : Int) - 1).toNat = m - 1 := by omega
    rw [hnat]
    refine for_range (lo := 0) (n := m - 1) (fun i σ H' => ∃ (am : List Int) (last : Int) (v7 : Option V), σ = [some (.ref c), some (.int m), some (.ref rl), some (.int way), some (.int ((m : Int) - 1)), some (.ref al), some (.int last), v7, none, none, none, none, none] ∧
      But c H2 H' ∧ Crowd H' c l (t + 1 + i) ∧ H' al = some (.lst (intsV am)) ∧ am.length = i ∧ 0 ≤ last ∧ last ≤ 240 * i ∧ ∀ a ∈ am, 1 ≤ a ∧ a ≤ 240 * i) ⟨[], 0, none, rfl, .of s3, by simpa using c2.same s3, hal3, rfl, by decide, by simp, fun a ha => by cases ha⟩ ?_ ?_
    · rintro i σ H4 hi ⟨am, last, v7, rfl, b4, c4, hal4, hl4, h0, h240, ham⟩
      refine ⟨_, rfl, _, _, rfl, rfl, _, rfl, c, l, t + 1 + i, 240, rfl, c4, by omega, by decide, by decide, fun H5 r b5 c5 r0 r1 => ?_⟩
      have hal5 := b5 _ _ hal4 nac
      refine ⟨_, _, rfl, rfl, ?_⟩
      refine ⟨_, rfl, .inl ⟨rfl, _, SqL.of hal5⟩, _, rfl, al, _, _, rfl, rfl, hal5, ?_, ?_⟩
      · rw [intsV, List.length_map, hl4]
        exact Nat.lt_of_lt_of_le (by omega : i < 5) (by decide)
      · refine ⟨am ++ [last + 1 + r], last + 1 + r, _, rfl, (b4.trans b5).upd_new hal, ?_, ?_, ?_, by omega, by omega, ?_⟩
        · refine (c5.mono ?_).upd nac nal
          omega
        · rw [upd_same, intsV, intsV, List.map_append]; rfl
        · rw [List.length_append, hl4]; rfl
        · intro a ha
          rcases List.mem_append.mp ha with z | z
          · have := ham a z
            omega
          · rw [List.mem_singleton.mp z]
            omega
    rintro σ H5 ⟨am, last, v7, rfl, b25, c5, hal5, hl5, _, _, ham⟩
    have hlam : am.length + 1 = m := by omega
    have hamb : ∀ a ∈ am, 1 ≤ a ∧ a ≤ 1000 := fun a ha => by
      have := ham a ha
      omega
    have b5 : But c H H5 := b2.trans b25
    have c5' : Crowd H5 c l (t + 10) := c5.mono (by omega)
    have hrl5 := b5 _ _ hrl nrc
    have hT5 : Tabs T0 H5 := tabs_but hT hcc b5
    obtain ⟨xs5, hcc5⟩ := c5'.at
    have hal0 : 0 < (intsV am).length := by rw [intsV, List.length_map]; omega
    have hal1 : (intsV am).length < 1000 := by rw [intsV, List.length_map]; omega
    -- way == 0
    refine ⟨_, rfl, rfl, _, rfl, ite2 (fun _ => ?_) fun _ => ?_⟩
    · refine ⟨_, rfl, rl, rfl, ⟨_, SqL.of hrl5⟩, fun D hD => ?_⟩
      refine lc_crowd (am := am) (walk_list (K := K) (a := rl) (xs := rowsV (Mi.told m))) hD c5' hlc (by rw [List.length_map]; omega) (fun H' b' => SqL.of (b' _ _ hrl5 nrc)) (fun i x H6 H7 Q1 hi b6 c6 hy q1 => ?_) fun H6 acc b6 c6 hacc hlen hok => ?_
      · rw [List.length_map] at hi
        obtain ⟨rfl, hx⟩ := hy
        refine ⟨rfl, _, rfl, _, rfl, c, l, al, _, _, rfl, c6, by omega, b6 _ _ hal5 nac, nac, hal0, hal1, fun H8 v8 b8 c8 hv8 => ?_⟩
        obtain ⟨a, ha, rfl⟩ := List.mem_map.mp hv8
        refine ⟨_, rfl, _, rfl, by show 2 ≤ sizeLine; decide, fun p hp => ?_⟩
        obtain ⟨xs8, hcc8⟩ := c8.at
        refine ⟨c, l, p, _, _, rfl, c8.same (same_new hp), by omega, upd_same, (ne_of_none hcc8 hp).symm, by decide, by decide, fun H9 v9 b9 c9 hv9 => ?_⟩
        have hs : ∃ s : Int, v9 = .int s ∧ (s = 1 ∨ s = -1) := by
          rcases List.mem_cons.mp hv9 with z | z
          · exact ⟨1, z, .inl rfl⟩
          · exact ⟨-1, List.mem_singleton.mp z, .inr rfl⟩
        obtain ⟨s9, rfl, hs9⟩ := hs
        exact ⟨a, s9, rfl, rfl, cmul1 (hamb a ha), q1 _ _ ((b8.trans (.of (same_new hp))).trans b9) (c9.mono (by omega)) (ok_mul ha (hamb a ha) hs9)⟩
      · rw [List.length_map] at hlen c6
        exact k H6 D acc am (.of (b5.trans b6)) (tabs_but hT5 hcc5 b6) (c6.mono (by omega)) hacc hlen hok hlam
    -- way == 1
    refine ⟨_, rfl, rfl, _, rfl, ite2 (fun _ => ?_) fun _ => ?_⟩
    · refine ⟨fun σ' H' => ∃ (lt : Addr) (labs0 : List Int), σ' = [some (.ref c), some (.int m), some (.ref rl), some (.int way), some (.int ((m : Int) - 1)), some (.ref al), some (.int last), v7, some (.ref lt), none, none, none, none] ∧ H' lt = some (.tup (intsV labs0)) ∧ labs0.length = (Mi.told m).length ∧ (∀ v ∈ labs0, labOk v) ∧
        ButN c H5 H' ∧ Tabs T0 H' ∧ Crowd H' c l (t + 11), ?_, ?_⟩
      · refine ⟨_, rfl, by show 2 ≤ sizeLine; decide, fun p hp => ?_⟩
        refine ⟨c, l, p, _, _, rfl, c5'.same (same_new hp), by omega, upd_same, (ne_of_none hcc5 hp).symm, by show 0 < 2; decide, by show 2 < 1000; decide, fun H6 v6 b6 c6 hv6 => ?_⟩
        have b56 : But c H5 H6 := (But.of (same_new hp)).trans b6
        have hT6 := tabs_but hT5 hcc5 b56
        have fin : ∀ H7 tb labs0, ButN c H5 H7 → Tabs T0 H7 → Crowd H7 c l (t + 11) → TabAt C H7 tb m labs0 → ∃ a C dx fs v, V.ref tb = .ref a ∧ H7 a = some (.ins C dx fs) ∧ Cls K C ∧ NoAttr K C "labels" ∧ fs.lookup ("labels" : Str) = some v ∧
            ∃ (lt : Addr) (labs1 : List Int), ([some (.ref c), some (.int m), some (.ref rl), some (.int way), some (.int ((m : Int) - 1)), some (.ref al), some (.int last), v7, none, none, none, none, none] : L2.St).set 8 (some v) = [some (.ref c), some (.int m), some (.ref rl), some (.int way), some (.int ((m : Int) - 1)), some (.ref al), some (.int last), v7, some (.ref lt), none, none, none, none] ∧ H7 lt = some (.tup (intsV labs1)) ∧ labs1.length = (Mi.told m).length ∧ (∀ v ∈ labs1, labOk v) ∧
              ButN c H5 H7 ∧ Tabs T0 H7 ∧ Crowd H7 c l (t + 11) := fun H7 tb labs0 b7 t7 c7 TA => by
          obtain ⟨_, hl0, hok0, dx, lt, td, h1, h2, h3⟩ := TA
          exact ⟨tb, C, dx, _, _, rfl, h1, CT.cl, CT.nL, tf_la _ _ _, lt, labs0, rfl, h2, hl0, hok0, b7, t7, c7⟩
        rcases List.mem_cons.mp hv6 with z | z
        · refine ⟨fw, spWTab C, z, if_pos rfl, _, rfl, m, rfl, hm, fun H7 tb s7 TA => fin H7 tb _ ?_ (hT6.ext s7) ((c6.same s7).mono (by omega)) TA⟩
          exact .of (b56.trans (.of s7))
        · by_cases hfe : fp = fw
          · refine ⟨fw, spWTab C, by rw [List.mem_singleton.mp z, hfe], if_pos rfl, _, rfl, m, rfl, hm, fun H7 tb s7 TA => fin H7 tb _ ?_ (hT6.ext s7) ((c6.same s7).mono (by omega)) TA⟩
            exact .of (b56.trans (.of s7))
          · refine ⟨fp, spPTab C T0, List.mem_singleton.mp z, (if_neg hfe).trans (if_pos rfl), _, rfl, m, rfl, hm, hT6, fun H7 tb labs0 e7 t7 TA => fin H7 tb labs0 ?_ t7 ((c6.ext e7).mono (by omega)) TA⟩
            exact (ButN.of b56).trans (.ext e7)
      · rintro σ' H7 ⟨lt, labs0, rfl, hlt, hl0, hok0, b7, t7, c7⟩
        have hal7 := b7 _ _ hal5 nac (fun ps z => by cases z)
        refine ⟨_, rfl, lt, rfl, ⟨_, SqT.of hlt⟩, fun D hD => ?_⟩
        refine lc_pure0 (walk_tup (K := K) (a := lt) (xs := intsV labs0)) hD (fun i => intsV ((labs0.take i).map (g1 m am))) rfl (fun H' s' => SqT.of (s' _ _ hlt)) (fun i hi => ?_) (fun i x H8 H9 Q1 hi s8 hy q1 => ?_) fun H8 s8 hH => ?_
        · rw [intsV, List.length_map, List.length_map]
          exact Nat.lt_of_le_of_lt (take_le (by omega : labs0.length ≤ 121)) (by decide)
        · obtain ⟨rfl, hx⟩ := hy
          obtain ⟨v, hv, rfl⟩ := map_at hx
          have hvo := hok0 v (List.mem_of_getElem? hv)
          have hv1 : 1 ≤ (v.natAbs : Int) := by have := hvo.1; omega
          obtain ⟨p0, p1⟩ := cut_min hm2 hlam hv1
          obtain ⟨q0, q2⟩ := pick_at p0 p1
          refine ⟨rfl, _, rfl, _, rfl, v, rfl, _, rfl, _, _, rfl, ?_⟩
          rw [absI]
          refine ⟨_, _, rfl, rfl, al, _, _, _, rfl, rfl, SqL.of (s8 _ _ hal7), q2, _, rfl, _, _, rfl, rfl, _, rfl, ?_⟩
          have fin : Q1 (.int (g1 m am v)) H9 := q1 _ _ (by rw [take_at hv, List.map_append, intsV, intsV, List.map_append]; rfl) (Same.refl _)
          unfold g1 at fin
          by_cases hp : 0 < v
          · rw [if_pos (decide_eq_true hp)] at fin
            rw [decide_eq_true hp]
            exact iteT ⟨_, _, rfl, rfl, cmul1 (hamb _ q0), fin⟩
          · rw [decide_eq_false hp, if_neg Bool.false_ne_true] at fin
            rw [decide_eq_false hp]
            exact iteF ⟨_, rfl, _, _, rfl, rfl, cmul1 (hamb _ q0), fin⟩
        · rw [show (intsV labs0).length = labs0.length from List.length_map _, List.take_length] at hH
          refine k H8 D _ am ((ButN.of b5).trans (b7.trans (.of (.of s8)))) (t7.ext s8) ((c7.same s8).mono (by omega)) hH (by rw [List.length_map]; exact hl0) (fun u hu => ?_) hlam
          obtain ⟨v, hv, rfl⟩ := List.mem_map.mp hu
          have hvo := hok0 v hv
          have hv1 : 1 ≤ (v.natAbs : Int) := by have := hvo.1; omega
          obtain ⟨p0, p1⟩ := cut_min hm2 hlam hv1
          have q0 := (pick_at p0 p1).1
          exact ok_mul q0 (hamb _ q0) sgn_ite
    -- way == 2
    refine ⟨_, rfl, rfl, _, rfl, ite2 (fun _ => ?_) fun _ => ?_⟩
    · refine ⟨_, rfl, rl, rfl, ⟨_, SqL.of hrl5⟩, fun D hD => ?_⟩
      have mx : ∀ r ∈ Mi.told m, 1 ≤ (if Txt.count (S r) (S [45]) > Txt.count (S r) (S [43]) then Txt.count (S r) (S [45]) else Txt.count (S r) (S [43])) := fun r hr0 => by
        have h1 : 1 ≤ Txt.count (S r) (S [43]) := by
          rw [PyProof.Rows.count_cnt]
          exact cnt_pos (told_plus hr0)
        by_cases z : Txt.count (S r) (S [45]) > Txt.count (S r) (S [43])
        · rw [if_pos z]; omega
        · rw [if_neg z]; omega
      refine lc_pure0 (walk_list (K := K) (a := rl) (xs := rowsV (Mi.told m))) hD (fun i => intsV (((Mi.told m).take i).map (g2 m am))) rfl (fun H' s' => SqL.of (s' _ _ hrl5)) (fun i hi => ?_) (fun i x H8 H9 Q1 hi s8 hy q1 => ?_) fun H8 s8 hH => ?_
      · rw [intsV, List.length_map, List.length_map]
        exact Nat.lt_of_le_of_lt (take_le htl.1) (by decide)
      · obtain ⟨rfl, hx⟩ := hy
        obtain ⟨r, hr0, rfl⟩ := map_at hx
        have hmem := List.mem_of_getElem? hr0
        obtain ⟨p0, p1⟩ := cut_min hm2 hlam (mx r hmem)
        obtain ⟨q0, q2⟩ := pick_at p0 p1
        refine ⟨rfl, _, rfl, _, rfl, ⟨_, rfl⟩, S r, S [43], rfl, rfl, _, rfl, ⟨_, rfl⟩, S r, S [45], rfl, rfl, _, _, rfl, _, rfl, _, _, rfl, ?_⟩
        refine ⟨_, _, rfl, rfl, al, _, _, _, rfl, rfl, SqL.of (s8 _ _ hal5), q2, _, rfl, ⟨_, rfl⟩, S r, S [43], rfl, rfl, _, rfl, ⟨_, rfl⟩, S r, S [45], rfl, rfl, _, _, rfl, rfl, _, rfl, ?_⟩
        have fin : Q1 (.int (g2 m am r)) H9 := q1 _ _ (by rw [take_at hr0, List.map_append, intsV, intsV, List.map_append]; rfl) (Same.refl _)
        unfold g2 at fin
        by_cases hp : Txt.count (S r) (S [45]) ≤ Txt.count (S r) (S [43])
        · rw [if_pos (decide_eq_true hp)] at fin
          rw [decide_eq_true hp]
          exact iteT ⟨_, _, rfl, rfl, cmul1 (hamb _ q0), fin⟩
        · rw [decide_eq_false hp, if_neg Bool.false_ne_true] at fin
          rw [decide_eq_false hp]
          exact iteF ⟨_, rfl, _, _, rfl, rfl, cmul1 (hamb _ q0), fin⟩
      · rw [show (rowsV (Mi.told m)).length = (Mi.told m).length from List.length_map _, List.take_length] at hH
        refine k H8 D _ am (.of (b5.trans (.of s8))) (hT5.ext s8) ((c5'.same s8).mono (by omega)) hH (by rw [List.length_map]) (fun u hu => ?_) hlam
        obtain ⟨r, hr0, rfl⟩ := List.mem_map.mp hu
        obtain ⟨p0, p1⟩ := cut_min hm2 hlam (mx r hr0)
        have q0 := (pick_at p0 p1).1
        exact ok_mul q0 (hamb _ q0) sgn_ite
    -- sides
    refine ⟨_, rfl, _, rfl, c, l, t + 10, m, rfl, c5', by omega, by omega, by omega, fun H6 first b6 c6 f0 f1 => ?_⟩
    have hrl6 := b6 _ _ hrl5 nrc
    have hal6 := b6 _ _ hal5 nac
    have hT6 := tabs_but hT5 hcc5 b6
    refine ⟨_, rfl, rl, rfl, ⟨_, SqL.of hrl6⟩, fun D hD => ?_⟩
    refine lc_pure0 (walk_list (K := K) (a := rl) (xs := rowsV (Mi.told m))) hD (fun i => rowsV (((Mi.told m).take i).map fun r => r.drop first.toNat ++ r.take first.toNat)) rfl (fun H' s' => SqL.of (s' _ _ hrl6)) (fun i hi => ?_) (fun i x H8 H9 Q1 hi s8 hy q1 => ?_) fun H7 s7 hsd => ?_
    · rw [rowsV, List.length_map, List.length_map]
      exact Nat.lt_of_le_of_lt (take_le htl.1) (by decide)
    · obtain ⟨rfl, hx⟩ := hy
      obtain ⟨r, hr0, rfl⟩ := map_at hx
      have hr10 := told_row hm (List.mem_of_getElem? hr0)
      have hz : (S r).length ≤ sizeLine := by
        rw [S_len]
        exact Nat.le_trans hr10 (by decide)
      refine ⟨rfl, _, rfl, _, rfl, first, rfl, S r, rfl, hz, ?_⟩
      rw [slice_from f0]
      refine ⟨_, rfl, _, rfl, first, rfl, S r, rfl, hz, ?_⟩
      rw [slice_to f0]
      refine ⟨_, _, rfl, rfl, ?_, ?_⟩
      · rw [S_len, S_len, List.length_drop, List.length_take]
        exact Nat.le_trans (by omega : _ ≤ 10) (show 10 ≤ sizeLine by decide)
      · rw [S_cat]
        exact q1 _ _ (by rw [take_at hr0, List.map_append, rowsV, rowsV, List.map_append]; rfl) (Same.refl _)
    rw [show (rowsV (Mi.told m)).length = (Mi.told m).length from List.length_map _, List.take_length] at hsd
    have hal7 := s7 _ _ hal6
    have c7 : Crowd H7 c l (t + 20) := (c6.same s7).mono (by omega)
    have hT7 : Tabs T0 H7 := hT6.ext s7
    have b7 : But c H H7 := (b5.trans b6).trans (.of s7)
    obtain ⟨xs7, hcc7⟩ := c7.at
    have nDc : D ≠ c := fun z => by
      obtain ⟨xs6, hcc6⟩ := c6.at
      rw [z, hcc6] at hD
      cases hD
    have sides : ∀ r' ∈ (Mi.told m).map (fun r => r.drop first.toNat ++ r.take first.toNat), r'.length ≤ 10 ∧ Mi.sgn r' ≠ [] := fun r' hr' => by
      obtain ⟨r, hr0, rfl⟩ := List.mem_map.mp hr'
      refine ⟨?_, rot_sgn hr0 _⟩
      have := told_row hm hr0
      rw [List.length_append, List.length_drop, List.length_take]
      omega
    have slen : ((Mi.told m).map (fun r => r.drop first.toNat ++ r.take first.toNat)).length = (Mi.told m).length := List.length_map _
    generalize (Mi.told m).map (fun r => r.drop first.toNat ++ r.take first.toNat) = sd at hsd sides slen
    refine ⟨_, rfl, D, rfl, ⟨_, SqL.of hsd⟩, fun D2 hD2 => ?_⟩
    refine lc_crowd (am := am) (walk_list (K := K) (a := D) (xs := rowsV sd)) hD2 c7 hlc (by rw [List.length_map, slen]; omega) (fun H' b' => SqL.of (b' _ _ hsd nDc)) (fun i x H8 H9 Q1 hi b8 c8 hy q1 => ?_) fun H8 acc b8 c8 hacc hlen hok => ?_
    · rw [List.length_map] at hi
      obtain ⟨rfl, hx⟩ := hy
      obtain ⟨r, hr0, rfl⟩ := map_at hx
      obtain ⟨hr10, hne⟩ := sides r (List.mem_of_getElem? hr0)
      refine ⟨rfl, _, rfl, _, rfl, _, rfl, c, l, _, _, rfl, c8, by omega, by omega, by omega, fun HA ri bA cA r0 r1 => ?_⟩
      obtain ⟨q0, q2⟩ := pick_at (am := am) r0 (by omega)
      refine ⟨al, _, _, _, rfl, rfl, SqL.of (bA _ _ (b8 _ _ hal7 nac) nac), q2, _, rfl, S r, rfl, ?_, ?_⟩
      · rw [S_len, S_len]
        show r.length + (r.length + 1) * 0 ≤ 16777216
        omega
      rw [replace_sgn]
      cases e : Mi.sgn r with
      | nil => exact absurd e hne
      | cons ch ct =>
        refine ⟨S (ch :: ct), 0, ch, rfl, rfl, ?_, atI_nat (j := 0) (xs := ch :: ct) rfl, rfl, _, rfl, ?_⟩
        · rw [S_len, ← e]
          exact Nat.le_trans (Nat.le_trans (sgn_len r) hr10) (by decide)
        refine ite2 (fun _ => ?_) fun _ => ?_
        · exact ⟨_, _, rfl, rfl, cmul1 (hamb _ q0), q1 _ _ bA (cA.mono (by omega)) (ok_mul q0 (hamb _ q0) (.inl rfl))⟩
        · exact ⟨_, rfl, _, _, rfl, rfl, cmul1 (hamb _ q0), q1 _ _ bA (cA.mono (by omega)) (ok_mul q0 (hamb _ q0) (.inr rfl))⟩
    · rw [List.length_map] at hlen c8
      exact k H8 D2 acc am (.of (b7.trans b8)) (tabs_but hT7 hcc7 b8) (c8.mono (by omega)) hacc (hlen.trans slen) hok hlam
end
end My
set_option Elab.async false
set_option linter.all false
set_option maxRecDepth 100000
set_option maxHeartbeats 4000000
namespace My
open PySem PySem.Spec PyProof.Rows L2
section
variable {X : Cx}
/-- x in t, t a tuple of plain data -/
def rInT (X : Cx) : R2 := fun x y H Q => ∃ d ds, Dp X.K H x d ∧ Dp X.K H y (.tuple ds) ∧ PyData.plainAll ds = true ∧ d.plain = true ∧ min (PyData.depthAll ds) d.depth ≤ 8 ∧ Q (.bl (ds.any fun z => PyData.eqv z d)) H
theorem op_inT (hu : X.A.units + 64 < cLine) : OpR X (compareOp .In) (rInT X) := by
  intro pins s σ H x y v u Q I rx ry h
  obtain ⟨d, ds, hd, he, sd, se, hm, q⟩ := h
  obtain ⟨as, r1⟩ := Dp.reads I d x v hd rx
  obtain ⟨bs, r2⟩ := Dp.reads I (.tuple ds) y u he ry
  exact SeqAt.in_tuple_data r2 r1 sd se (by omega) ⟨.bl _, H, I, rfl, q⟩
variable {CX : CXT} {k : Nat} {f : Addr} {fd : FuncData} {ps ks : List Str} {sp : Sp} {E : XK} {x : Str} {p pos : Pos} {kws : List Keyword} {tk : TA} {g : List Value → List Value → List Value} {gV : List V → List V → List V}
/-- f(k = v, ..) -/
theorem pe_callK0 (F : FnOk X.prog X.w X.K X.mg X.base CX k f fd ps sp) (hr : Room k X.A) (hg : Gl X x) (hm : X.mg x = some (.ref f)) (hk : PySem.W.keepIn X.K (.ref f) = true) (hb : KBinds X.K fd ps ks g gV) (hx : Passes CX X E)
    (hkw : PK X kws tk) (hall : (backToKw pos (keywordEach kws X.env)).all (·.1.isSome) = true := by rfl) (hks : (backToKw pos (keywordEach kws X.env)).filterMap (·.1) = ks := by rfl)
    (hdb : (x == ("__debug__" : Str)) = false := by decide) (hpl : ((backTo pos (starEach [] X.env)).any (·.1) || (backToKw pos (keywordEach kws X.env)).any (·.1.isNone)) = false := by rfl) :
    PE X (.Call (.Name x p) [] kws pos) (tCallK sp gV E tNil tk) := by
  refine ⟨fun pins s σ H Q I h => ?_⟩
  refine wpAny_Call_Name_kw (ld_glob I hg hm ?_ hdb)
  refine PySem.W.callWith_KW0 (h₀ := X.base) I.ok.mod.kin hk hall (thn (hkw.run pos pins s σ H _ I h) fun ws s2 ⟨zs, H2, I2, rz, q2⟩ => ⟨I2.kIn, ?_⟩) hpl
  rw [hks]
  exact run_fnk (us := []) (vs := []) F hr hb hx I2 .nil rz q2
end
end My
set_option Elab.async false
set_option linter.all false
set_option maxRecDepth 100000
set_option maxHeartbeats 4000000
namespace My
open PySem PySem.Spec PyProof.Rows L2 LamX SX
/-! ### amounts as data -/
theorem asc_eq : ∀ {a b : List Int}, a.Pairwise (· < ·) → b.Pairwise (· < ·) → (∀ k, k ∈ a ↔ k ∈ b) → a = b
  | [], [], _, _, _ => rfl
  | [], y :: b, _, _, h => by have := (h y).mpr (List.mem_cons_self ..); cases this
  | x :: a, [], _, _, h => by have := (h x).mp (List.mem_cons_self ..); cases this
  | x :: a, y :: b, ha, hb, h => by
    rw [List.pairwise_cons] at ha hb
    have e : x = y := by
      rcases List.mem_cons.mp ((h x).mp (List.mem_cons_self ..)) with z | z
      · exact z
      · rcases List.mem_cons.mp ((h y).mpr (List.mem_cons_self ..)) with z2 | z2
        · exact z2.symm
        · have h1 := hb.1 x z
          have h2 := ha.1 y z2
          omega
    subst e
    refine congrArg (x :: ·) (asc_eq ha.2 hb.2 fun k => ?_)
    constructor
    · intro z
      rcases List.mem_cons.mp ((h k).mp (List.mem_cons_of_mem _ z)) with q | q
      · subst q
        have := ha.1 k z
        omega
      · exact q
    · intro z
      rcases List.mem_cons.mp ((h k).mpr (List.mem_cons_of_mem _ z)) with q | q
      · subst q
        have := hb.1 k z
        omega
      · exact q
theorem amts_eq {labs a b : List Int} (ha : Amts labs a) (hb : Amts labs b) : a = b := asc_eq ha.1 hb.1 fun k => (ha.2 k).trans (hb.2 k).symm
theorem asc_nodup {a : List Int} (h : a.Pairwise (· < ·)) : a.Nodup := List.Pairwise.imp (fun h => by omega) h
def smallA (ns : List Int) : Prop := ns.length ≤ 4 ∧ ∀ k ∈ ns, 1 ≤ k ∧ k ≤ 1000
theorem num_len : ∀ i ∈ List.range 1001, (PyData.shown (.int (i : Nat))).length ≤ 4 := by decide +kernel
theorem num_len2 {k : Int} (h : 1 ≤ k ∧ k ≤ 1000) : (PyData.shown (.int k)).length ≤ 4 := by
  have := num_len k.toNat (List.mem_range.mpr (by omega))
  rwa [Int.toNat_of_nonneg (by omega)] at this
theorem piled_small : ∀ {ns : List Int}, (∀ k ∈ ns, 1 ≤ k ∧ k ≤ 1000) → piled (PyData.shownAll (dI ns)) ≤ 6 * ns.length
  | [], _ => Nat.zero_le _
  | n :: ns, h => by
    show piled (PyData.shown (.int n) :: PyData.shownAll (dI ns)) ≤ _
    rw [piled_cons, List.length_cons]
    have h1 := num_len2 (h n (List.mem_cons_self ..))
    have h2 := piled_small fun k hk => h k (List.mem_cons_of_mem _ hk)
    omega
theorem tup_len {ns : List Int} (h : smallA ns) : (PyData.shown (.tuple (dI ns))).length ≤ 40 := by
  show (tupleText (PyData.shownAll (dI ns))).length ≤ 40
  unfold tupleText
  rw [strLen_append, strLen_append]
  have h1 := piled_small h.2
  have h0 := h.1
  have e1 : ((("(" : String) : Str)).length = 1 := by decide +kernel
  have e3 : (((if (PyData.shownAll (dI ns)).length == 1 then ",)" else ")" : String) : Str)).length ≤ 2 := by split <;> decide +kernel
  have e2 : (Str.join ", " (PyData.shownAll (dI ns))).length ≤ 24 := by
    by_cases z : PyData.shownAll (dI ns) = []
    · rw [z]; decide +kernel
    · have := join_length_add _ z
      omega
  omega
def d2 (ns : List Int) : PyData := .list [.tuple (dI ns), .tuple (dI ns)]
theorem d2_len {ns : List Int} (h : smallA ns) : (d2 ns).shown.length ≤ sizeLine := by
  have e : (d2 ns).shown = textFrom 2 ((("[" : Str) ++ (if (0 : Nat) > 0 then ", " else "" : String) ++ PyData.shown (.tuple (dI ns))) ++ (if (1 : Nat) > 0 then ", " else "" : String) ++ PyData.shown (.tuple (dI ns))) [] ++ "]" := rfl
  rw [e, strLen_append, textFrom_length_pos [] 2 _ (by decide), piled_nil, strLen_append, strLen_append, strLen_append, strLen_append]
  have h1 := tup_len h
  have e1 : ((("[" : String) : Str)).length = 1 := by decide +kernel
  have e2 : ((("]" : String) : Str)).length = 1 := by decide +kernel
  have e3 : (((if (0 : Nat) > 0 then ", " else "" : String) : Str)).length = 0 := by decide +kernel
  have e4 : (((if (1 : Nat) > 0 then ", " else "" : String) : Str)).length = 2 := by decide +kernel
  have := sizeLine_eq
  omega
theorem show_ints : ∀ {ns : List Int}, (∀ k ∈ ns, 1 ≤ k ∧ k ≤ 1000) → PyData.showableAll (dI ns) = true
  | [], _ => rfl
  | n :: ns, h => by
    show (decide (n.natAbs.log2 < 1920) && PyData.showableAll (dI ns)) = true
    rw [show_ints fun k hk => h k (List.mem_cons_of_mem _ hk), Bool.and_true, decide_eq_true_eq]
    have h1 := h n (List.mem_cons_self ..)
    have h2 : n.natAbs.log2 < 10 := (Nat.log2_lt (by omega)).mpr (by omega)
    omega
theorem nod_ints : ∀ ns : List Int, PyData.hasDictAll (dI ns) = false
  | [] => rfl
  | n :: ns => nod_ints ns
theorem d2_show {ns : List Int} (h : smallA ns) : (d2 ns).showable = true ∧ (d2 ns).hasDict = false ∧ (d2 ns).depth ≤ 60 := by
  refine ⟨?_, ?_, ?_⟩
  · show (PyData.showableAll (dI ns) && (PyData.showableAll (dI ns) && true)) = true
    rw [show_ints h.2]
    rfl
  · show (PyData.hasDictAll (dI ns) || (PyData.hasDictAll (dI ns) || false)) = false
    rw [nod_ints]
    rfl
  · show max (PyData.depthAll (dI ns) + 1) (max (PyData.depthAll (dI ns) + 1) 0) + 1 ≤ 60
    rw [dep_ints]
    decide
theorem dp_tup {K : PySem.W.Frag} {H : Hp} {a : Addr} {ns : List Int} (h : H a = some (.tup (intsV ns))) : Dp K H (.ref a) (.tuple (dI ns)) := .tup (SqT.of h) (dp_ints ns)
end My
set_option Elab.async false
set_option linter.all false
set_option maxRecDepth 100000
set_option maxHeartbeats 4000000
namespace My
open PySem PySem.Spec PyProof.Rows L2 LamX SX
abbrev absL (labs : List Int) : List Int := labs.map fun v => (v.natAbs : Int)
abbrev NLaw : List Str := ["_law_script", "_law_crowd_here", "_law_turn", "_law_places", "_law_rows_here", "_law_labels", "_law_table", "_law_own", "_law_due", "_law_told_here", "_law_label_here"]
def rng (m : Nat) : List Int := (List.range m).map fun i : Nat => 1 + (i : Int)
theorem rng_rg (m : Nat) : rgV 1 ((m : Int) + 1) = intsV (rng m) := by
  unfold rgV rng intsV
  rw [List.map_map, show ((m : Int) + 1 - 1).toNat = m by omega]
  rfl
theorem rng_asc (m : Nat) : (rng m).Pairwise (· < ·) := by
  unfold rng
  refine List.Pairwise.map _ (fun a b h => ?_) List.pairwise_lt_range
  show (1 : Int) + a < 1 + b
  omega
abbrev wlabs (m : Nat) : List Int := (Mi.told m).map fun r => (Mi.wav r : Int)
theorem rng_amts {m : Nat} (h : pl m) : Amts (wlabs m) (rng m) := by
  refine ⟨rng_asc m, fun k => ?_⟩
  obtain ⟨h1, h2⟩ := Mi.wave_amounts h
  unfold rng
  constructor
  · intro z
    obtain ⟨i, hi, rfl⟩ := List.mem_map.mp z
    obtain ⟨r, hr, e⟩ := h2 i hi
    exact ⟨_, List.mem_map.mpr ⟨r, hr, rfl⟩, by rw [e]; omega⟩
  · rintro ⟨v, hv, rfl⟩
    obtain ⟨r, hr, rfl⟩ := List.mem_map.mp hv
    have := h1 r hr
    exact List.mem_map.mpr ⟨Mi.wav r - 1, List.mem_range.mpr (by omega), by omega⟩
theorem one_amts (z : Int) : Amts [z] [(z.natAbs : Int)] := by
  refine ⟨List.pairwise_singleton _ _, fun k => ?_⟩
  rw [List.mem_singleton]
  exact ⟨fun e => ⟨z, List.mem_singleton.mpr rfl, e⟩, fun ⟨v, hv, e⟩ => by rw [List.mem_singleton.mp hv] at e; exact e⟩
theorem tself {ns : List Int} : PyData.eqv (.tuple (dI ns)) (.tuple (dI ns)) = true := SeqAt.eqv_refl _ (SeqAt.canLay_of_shaped (shaped_t ns))
section
variable {P : Program} {w : World} {K : PySem.W.Frag} {mg : Str → Option Value} {base : Heap} {f C : Addr} {fd : FuncData} {n : Nat}
theorem scLaw : FnScope NLaw ["_law_script"] (C8.fnScope (top 55)) := C8.fnScope_by (by decide +kernel)
/-- what the law calls -/
structure LCalls (n : Nat) (P : Program) (w : World) (K : PySem.W.Frag) (mg : Str → Option Value) (base : Heap) (C : Addr) (T0 : List (Addr × Str)) : Prop where
  crowd : C8.Cal P w K mg base 1 "_law_crowd" (spCrowd K) []
  head : C8.Cal P w K mg base 1 "_law_head" spHead []
  hat : C8.Cal P w K mg base 2 "_law_hat" (spHat K) []
  told : CalN n P w K mg base 2 "_law_told" spLTold []
  few : CalN n P w K mg base 9 "_law_few" (spFew T0) []
  mkT : MakN n P w K mg base 5 "Table" C (spInit C)
  am : ∃ (f : Addr) (fd : FuncData), FnOk P w K mg base C8.CX0 2 f fd ["table"] (spAm C) ∧ mg "amounts_of" = some (.ref f) ∧ PySem.W.keepIn K (.ref f) = true ∧ Binds K fd ["table"] [] ∧ KBinds K fd ["table"] ["table"] (fun us ws => us ++ ws) (fun vs zs => vs ++ zs)
  opp : CalN n P w K mg base 4 "opposed_pair" (spOpp C) []
  below : C8.Cal P w K mg base 1 "_law_is_below" spBelow []
  lab : C8.Cal P w K mg base 2 "_law_label" spLLab []
  wave : CalN n P w K mg base 8 "wave_table" (spWTab C) []
theorem law_body (T : Txt K mg) (CT : CTab K mg C) {T0 : List (Addr × Str)} (L : LCalls n P w K mg base C T0) {cdv : Value} {A : Around} {outer : List Env} {s : Shared} {H : Hp} {a : Addr} {ns : List Int} {Q : VK} {E : XK}
    (hr : Room 10 (A.deeper (envOfC "law" (C8.fnScope (top 55)) s.heap.objs.size f cdv))) (hg : (A.deeper (envOfC "law" (C8.fnScope (top 55)) s.heap.objs.size f cdv)).guards = some []) (ha : SqL K H a (intsV ns)) (h63 : ns.length ≤ 63) (hT : Tabs T0 H) (k : ∀ H', Q (.bl true) H') :
    ∃ t, BN n (cxOf C8.CX0 P w K mg base NLaw "law" (C8.fnScope (top 55)) f cdv A outer s H E).nox (C8.fnBody (top 55)) t ∧ t { nx := fun _ H' => Q .non H', rt := Q } (start NLaw [.ref a]) H := by
  obtain ⟨fa, fda, FA, hma, kpa, ba, kba⟩ := L.am
  have CAm : CalN n P w K mg base 2 "amounts_of" (spAm C) [] := ⟨fa, fda, _, [], .of FA, hma, kpa, ba, .nil⟩
  have hr2 : Room 2 _ := hr.mono (by decide)
  refine ⟨_, bn_cons (.of (ps_set (i := 1) scLaw.nd rfl (.inl rfl) (C8.pe_c L.crowd hr (by decide) (by rfl) (pa_cons (pv 0) pa_nil))))
    (bn_cons (sn_for PassesOwn.never rfl (.of (pi_range1 (by rfl) T.range (pa_cons pe_int pa_nil))) (pg_name (i := 2) scLaw.nd rfl (.inl rfl))
      (bn_cons (.of (ps_set (i := 3) scLaw.nd rfl (.inl rfl) (C8.pe_c L.hat hr (by decide) (by rfl) (pa_cons (pv 1) (pa_cons (pe_lst (pa_cons pe_int (pa_cons pe_int (pa_cons pe_int (pa_cons pe_int pa_nil))))) pa_nil)))))
      (bn_cut (.of (ps_if (pt_cmpR op_eq (C8.pe_c L.head hr (by decide) (by rfl) (pa_cons (pv 1) (pa_cons pe_int pa_nil))) pe_int (nomark _)) (pss_one (ps_set (i := 3) scLaw.nd rfl (.inl rfl) pe_int)) pss_nil))
      (bn_cons (sn_set (i := 4) scLaw.nd rfl (.inl rfl) (en_c L.told hr (by decide) (by rfl) (.of (pa_cons (pv 3) pa_nil))))
      (bn_cons (sn_set (i := 5) scLaw.nd rfl (.inl rfl) (en_c L.few hr (by decide) (by rfl) (.of (pa_cons (pv 1) (pa_cons (pv 3) (pa_cons (pv 4) pa_nil))))))
      (bn_cons (sn_par (i := 6) (j := 7) rfl scLaw.nd rfl rfl (by decide) rfl rfl (an_cons (en_mk L.mkT hr (by decide) (by rfl) (.of (pa_cons (pv 3) (pa_cons (pv 5) pa_nil)))) (an_cons (en_dzip rfl (by rfl) T.dict (by rfl) T.zip (.of (pa_cons (pv 4) (pa_cons (pv 5) pa_nil)))) an_nil)) (by rfl))
      (bn_cons (.of (ps_set (i := 8) scLaw.nd rfl (.inl rfl) (pe_callTy call_tuple_of (by rfl) T.tuple (by decide +kernel) (pa_cons (pe_callB (cr_sortedSet rfl) (by rfl) T.sorted (by decide +kernel) (pa_cons (pe_callTy (cr_setL rfl) (by rfl) T.set (by decide +kernel) (pa_cons
          (pe_lc (own := [("_law_label_here", 10)]) (g := gName 10) (tt := tYes) rfl scLaw.nd (pi_list (pv 5)) (blkOk_by (own := [("_law_label_here", 10)]) (N := NLaw) (sc := C8.fnScope (top 55)) (by decide +kernel)) (fun _ _ _ _ _ => pg_name (i := 10) scLaw.nd rfl (Or.inl rfl)) (fun _ _ _ _ _ => pts_nil)
            (fun _ _ _ _ _ => pe_callB call_abs (by rfl) T.abs (by decide +kernel) (pa_cons (pv 10) pa_nil))) pa_nil)) pa_nil)) pa_nil))))
      (bn_cons (.of (ps_if (PW.pt (pw_or (pt_cmpR op_ne (pe_callB (cr_repr hg hr.units) (by rfl) T.repr (by decide +kernel) (pa_cons (pe_lst (pa_cons (C8.pe_c ⟨fa, fda, _, [], FA, hma, kpa, ba, .nil⟩ hr (by decide) (by rfl) (pa_cons (pv 6) pa_nil)) (pa_cons (pe_callK0 (E := C8.E0) FA hr2 (by rfl) hma kpa kba C8.pass0 (pk_cons (pv 6) pk_nil)) pa_nil))) pa_nil))
            (pe_callB (cr_repr hg hr.units) (by rfl) T.repr (by decide +kernel) (pa_cons (pe_lst (pa_cons (pv 8) (pa_cons (pv 8) pa_nil))) pa_nil)) (nomark _))
          (pw_or1 (pt_cmpR op_ge (pe_callB call_len_seq (by rfl) T.len PySem.boot_len (pa_cons (pv 8) pa_nil)) (pv 3) (nomark _))))) (pss_one (ps_ret pe_bl)) pss_nil))
      (bn_cons (sn_set (i := 9) scLaw.nd rfl (.inl rfl) (en_c L.opp hr (by decide) (by rfl) (.of (pa_cons (pv 6) pa_nil))))
      (bn_cons (.of (ps_if (PW.pt (pw_or (pt_cmpR op_isN (pv 9) pe_non (nomark _)) (pw_or (pt_not (pt_val (pe_callB call_isi (by rfl) T.isi (by decide +kernel) (pa_cons (pv 9) (pa_cons (pe_bltn (v := .ty "tuple") (by rfl) T.tuple (by decide +kernel) rfl) pa_nil)))))
          (pw_or (pt_cmpR op_ne (pe_callB call_len_seq (by rfl) T.len PySem.boot_len (pa_cons (pv 9) pa_nil)) pe_int (nomark _))
          (pw_or1 (pt_not (pt_val (C8.pe_c L.below hr (by decide) (by rfl) (pa_cons (pe_ix ix_tup (pv 9) pe_int (fun _ _ => rfl)) (pa_cons (pe_ix ix_tup (pv 9) pe_int (fun _ _ => rfl)) pa_nil)))))))))) (pss_one (ps_ret pe_bl)) pss_nil))
      (bn_cons (.of (ps_if (pt_cmpR op_ne (C8.pe_c L.lab hr (by decide) (by rfl) (pa_cons (pv 7) (pa_cons (pe_ix ix_tup (pv 9) pe_int (fun _ _ => rfl)) pa_nil))) (pe_un un_neg (C8.pe_c L.lab hr (by decide) (by rfl) (pa_cons (pv 7) (pa_cons (pe_ix ix_tup (pv 9) pe_int (fun _ _ => rfl)) pa_nil)))) (nomark _)) (pss_one (ps_ret pe_bl)) pss_nil))
      (bn_one (sn_if (WN.tn (wn_or (tn_cmpR (op_neD hr.units) (en_c CAm hr (by decide) (by rfl) (an_cons (en_c L.wave hr (by decide) (by rfl) (.of (pa_cons (pv 3) pa_nil))) an_nil)) (.of (pe_tupRg rfl (by rfl) T.tuple (prg_2 (by rfl) T.range pe_int (pe_op op_add (pv 3) pe_int)))) (nomark _))
          (wn_or1 (tn_cmpR op_notN (en_c L.opp hr (by decide) (by rfl) (an_cons (en_c L.wave hr (by decide) (by rfl) (.of (pa_cons (pv 3) pa_nil))) an_nil)) (.of pe_non) (nomark _))))) (.of (pss_one (ps_ret pe_bl))) bn_nil)))))))))))))
    (bn_one (sn_ret (en_cmpR (op_inT hr.units) (en_c CAm hr (by decide) (by rfl) (an_cons (en_mk L.mkT hr (by decide) (by rfl) (.of (pa_cons pe_int (pa_cons (pe_lst (pa_cons (C8.pe_c L.hat hr (by decide) (by rfl) (pa_cons (pv 1) (pa_cons (pe_lst (pa_cons (pe_un un_neg pe_int) (pa_cons pe_int (pa_cons pe_int pa_nil)))) pa_nil))) pa_nil)) pa_nil)))) an_nil))
      (.of (pe_tup (pa_cons (pe_tup (pa_cons pe_int pa_nil)) (pa_cons (pe_tup (pa_cons pe_int pa_nil)) (pa_cons (pe_tup (pa_cons pe_int pa_nil)) pa_nil))))) (by rfl))))), ?_⟩
  refine ⟨_, rfl, a, ns, rfl, ha, h63, fun H1 c l s1 hc0 hl0 nlc cr => ?_⟩
  refine ⟨4, rfl, by decide, by decide, for_range (lo := 0) (n := 4) (fun i σ H' => ∃ v2 v3 v4 v5 v6 v7 v8 v9, σ = [some (.ref a), some (.ref c), v2, v3, v4, v5, v6, v7, v8, v9, none] ∧ Tabs T0 H' ∧ Crowd H' c l (2000 * i)) ⟨none, none, none, none, none, none, none, none, rfl, hT.ext s1, by simpa using cr⟩ ?_ ?_⟩
  · rintro i σ H2 hi ⟨v2, v3, v4, v5, v6, v7, v8, v9, rfl, hT2, c2⟩
    obtain ⟨xs2, hcc2⟩ := c2.at
    refine ⟨_, rfl, by show 4 ≤ sizeLine; decide, fun p hp => ?_⟩
    refine ⟨c, l, p, _, _, rfl, c2.same (same_new hp), by omega, upd_same, (ne_of_none hcc2 hp).symm, by show 0 < 4; decide, by show 4 < 1000; decide, fun H3 w3 b3 c3 hw3 => ?_⟩
    have hm0 : ∃ m : Nat, w3 = .int m ∧ pl m ∧ 2 ≤ m := by
      rcases List.mem_cons.mp hw3 with z | z
      · exact ⟨2, z, by decide, by decide⟩
      rcases List.mem_cons.mp z with z | z
      · exact ⟨3, z, by decide, by decide⟩
      rcases List.mem_cons.mp z with z | z
      · exact ⟨4, z, by decide, by decide⟩
      · exact ⟨3, List.mem_singleton.mp z, by decide, by decide⟩
    obtain ⟨m0, rfl, hpl0, hm20⟩ := hm0
    have b23 : But c H2 H3 := (But.of (same_new hp)).trans b3
    have hT3 := tabs_but hT2 hcc2 b23
    obtain ⟨xs3, hcc3⟩ := c3.at
    refine ⟨fun σ' H' => ∃ m : Nat, pl m ∧ 2 ≤ m ∧ σ' = [some (.ref a), some (.ref c), some (.int (0 + (i : Int))), some (.int m), v4, v5, v6, v7, v8, v9, none] ∧ Tabs T0 H' ∧ Crowd H' c l (2000 * i + 2), ?_, ?_⟩
    · refine ⟨_, rfl, c, l, _, 10, rfl, c3, by omega, by decide, by decide, fun H4 r b4 c4 r0 r1 => ⟨rfl, _, rfl, ?_⟩⟩
      have hT4 := tabs_but hT3 hcc3 b4
      exact ite2 (fun _ => ⟨5, by decide, by decide, rfl, hT4, c4.mono (by omega)⟩) fun _ => ⟨m0, hpl0, hm20, rfl, hT4, c4.mono (by omega)⟩
    rintro σ' H4 ⟨m, hm, hm2, rfl, hT4, c4⟩
    have hb := pl_le hm
    have htl := Mi.told_len hm
    obtain ⟨xs4, hcc4⟩ := c4.at
    refine ⟨_, rfl, m, hm, rfl, fun H5 q s5 hq0 hq => ?_⟩
    have nqc : q ≠ c := (ne_of_none hcc4 hq0).symm
    refine ⟨_, rfl, _, rfl, _, rfl, c, l, q, m, _, rfl, hm, hm2, c4.same s5, nlc, by omega, hq, nqc, hT4.ext s5, fun H6 lb labs am b6 t6 c6 hlb hll hok hlam => ?_⟩
    have hq6 := b6 _ _ hq nqc (fun ps z => by cases z)
    refine ⟨_, rfl, _, rfl, fun x dx nx ndx nxd => ⟨x, lb, dx, m, labs, rfl, upd_same, ?_, hm, hll, fun v hv => (hok v hv).1, fun H7 o7 TA => ⟨rfl, _, rfl, _, rfl, ?_⟩⟩⟩
    · rw [upd_ne (ne_of_none hlb nx), upd_ne (ne_of_none hlb ndx)]
      exact hlb
    have s67 : Same H6 H7 := fun b o e => by
      have nbx := ne_of_none e nx
      refine o7 b o ?_ nbx
      rw [upd_ne nbx, upd_ne (ne_of_none e ndx)]
      exact e
    refine ⟨q, lb, (Mi.told m).map S, intsV labs, rfl, .inr ⟨?_, SqL.of (s67 _ _ hlb)⟩, ?_, fun d hd => ⟨_, _, rfl, ?_⟩⟩
    · refine SqL.of ?_
      rw [List.map_map]
      exact s67 _ _ hq6
    · rw [List.length_map, intsV, List.length_map, hll]
    have e8 : mergeK [] (keysOf ((Mi.told m).map S) (intsV labs)) = tabK (Mi.told m) labs := merge_tab (Mi.told_nodup hm)
    rw [e8]
    have s8 : Same H7 (upd H7 d (.dK (tabK (Mi.told m) labs))) := same_new hd
    have hd8 : upd H7 d (.dK (tabK (Mi.told m) labs)) d = some (.dK (tabK (Mi.told m) labs)) := upd_same
    generalize upd H7 d (.dK (tabK (Mi.told m) labs)) = H8 at s8 hd8 ⊢
    have TA8 := TA.same s8
    have hlb8 := s8 _ _ (s67 _ _ hlb)
    have hT8 : Tabs T0 H8 := (t6.ext s67).ext s8
    have c8 : Crowd H8 c l (2000 * i + 1100) := ((c6.same s67).same s8).mono (by omega)
    have ham : ∀ v ∈ labs, (v.natAbs : Int) ∈ am := fun v hv => (hok v hv).2
    -- the amounts by own look
    refine ⟨_, rfl, lb, rfl, ⟨_, SqL.of hlb8⟩, fun D hD => ?_⟩
    refine lc_pure0 (walk_list (K := K) (a := lb) (xs := intsV labs)) hD (fun i => intsV ((labs.take i).map fun v => (v.natAbs : Int))) rfl (fun H' s' => SqL.of (s' _ _ hlb8)) (fun i hi => ?_) (fun i y H9 HA Q1 hi s9 hy q1 => ?_) fun H9 s9 hH => ?_
    · rw [intsV, List.length_map, List.length_map]
      exact Nat.lt_of_le_of_lt (take_le (by omega : labs.length ≤ 121)) (by decide)
    · obtain ⟨rfl, hx⟩ := hy
      obtain ⟨v, hv, rfl⟩ := map_at hx
      refine ⟨rfl, _, rfl, v, rfl, ?_⟩
      rw [absI]
      exact q1 _ _ (by rw [take_at hv, List.map_append, intsV, intsV, List.map_append]; rfl) (Same.refl _)
    rw [show (intsV labs).length = labs.length from List.length_map _, List.take_length] at hH
    refine ⟨D, absL labs, rfl, SqL.of hH, by rw [List.length_map]; omega, fun ps cnt hcnt hps => ?_⟩
    have hcam : cnt ≤ am.length := hcnt am fun j hj => by
      obtain ⟨v, hv, rfl⟩ := List.mem_map.mp hj
      exact ham v hv
    refine ⟨ps, _, cnt, rfl, upd_same, by omega, fun nsr p2 hpw hns hnl hp2 => ⟨p2, _, rfl, .inl ⟨SqL.of upd_same, fun du hdu => ?_⟩⟩⟩
    have hA : Amts labs nsr := ⟨hpw, fun k => by
      rw [hns k, decide_eq_true_eq, List.mem_map]
      exact ⟨fun ⟨v, hv, e⟩ => ⟨v, hv, e.symm⟩, fun ⟨v, hv, e⟩ => ⟨v, hv, e.symm⟩⟩⟩
    have hsub : ∀ k ∈ nsr, k ∈ am := fun k hk => by
      obtain ⟨v, hv, rfl⟩ := (hA.2 k).mp hk
      exact ham v hv
    have hnsl : nsr.length ≤ am.length := nodup_le (asc_nodup hpw) hsub
    have hsm : smallA nsr := ⟨by omega, fun k hk => by
      obtain ⟨v, hv, rfl⟩ := (hA.2 k).mp hk
      have := (hok v hv).1
      unfold labOk at this
      omega⟩
    have sB : Same H8 (upd (upd (upd H9 ps (SetO w ps (fun j => decide (j ∈ absL labs)) cnt)) p2 (.lst (intsV nsr))) du (.tup (intsV nsr))) :=
      ((s9.trans (same_new hps)).trans (same_new hp2)).trans (same_new hdu)
    have hdu2 : upd (upd (upd H9 ps (SetO w ps (fun j => decide (j ∈ absL labs)) cnt)) p2 (.lst (intsV nsr))) du (.tup (intsV nsr)) du = some (.tup (intsV nsr)) := upd_same
    show tSeq _ _ _ _ (upd (upd (upd H9 ps (SetO w ps (fun j => decide (j ∈ absL labs)) cnt)) p2 (.lst (intsV nsr))) du (.tup (intsV nsr)))
    generalize upd (upd (upd H9 ps (SetO w ps (fun j => decide (j ∈ absL labs)) cnt)) p2 (.lst (intsV nsr))) du (.tup (intsV nsr)) = HB at sB hdu2 ⊢
    have TAB := TA8.same sB
    have hT9 := hT8.ext sB
    have c9 := c8.same sB
    have hd9 := sB _ _ hd8
    -- what amounts_of tells
    refine ⟨_, rfl, x, m, labs, am, rfl, TAB, by omega, ham, fun HC p1 n1 sC A1 hp1 => ?_⟩
    refine ⟨_, rfl, x, m, labs, am, rfl, TAB.same sC, by omega, ham, fun HD q1 n2 sD A2 hq1 => ?_⟩
    obtain rfl := amts_eq hA A1
    obtain rfl := amts_eq hA A2
    obtain ⟨sh1, sh2, sh3⟩ := d2_show hsm
    have sh4 := d2_len hsm
    refine ⟨by show 2 ≤ sizeLine; decide, fun lr hlr => ⟨lr, d2 nsr, rfl, ?_, sh1, sh2, sh3, sh4, ?_⟩⟩
    · exact .lst (SqL.of upd_same) (.cons (dp_tup (same_new hlr _ _ (sD _ _ hp1))) (.cons (dp_tup (same_new hlr _ _ hq1)) .nil))
    have sE : Same HB (upd HD lr (.lst [.ref p1, .ref q1])) := (sC.trans sD).trans (same_new hlr)
    generalize upd HD lr (.lst [.ref p1, .ref q1]) = HE at sE ⊢
    have hdu3 := sE _ _ hdu2
    refine ⟨_, rfl, _, rfl, by show 2 ≤ sizeLine; decide, fun lr2 hlr2 => ⟨lr2, d2 nsr, rfl, ?_, sh1, sh2, sh3, sh4, rfl, _, rfl, ?_⟩⟩
    · exact .lst (SqL.of upd_same) (.cons (dp_tup (same_new hlr2 _ _ hdu3)) (.cons (dp_tup (same_new hlr2 _ _ hdu3)) .nil))
    rw [show (!decide (V.str (d2 nsr).shown = V.str (d2 nsr).shown)) = false by simp]
    have sF : Same HB (upd HE lr2 (.lst [.ref du, .ref du])) := sE.trans (same_new hlr2)
    have hdu4 := same_new (o := .lst [.ref du, .ref du]) hlr2 _ _ hdu3
    refine iteF ?_
    generalize upd HE lr2 (.lst [.ref du, .ref du]) = HF at sF hdu4 ⊢
    refine ⟨_, rfl, du, _, rfl, .inr (SqT.of hdu4), _, rfl, _, _, rfl, rfl, _, rfl, ?_⟩
    rw [show decide ((m : Int) ≤ ((intsV nsr).length : Int)) = false from decide_eq_false (by rw [intsV, List.length_map]; omega)]
    refine iteF ?_
    have TAF := TAB.same sF
    -- the opposed pair
    refine ⟨_, rfl, x, m, labs, rfl, TAF, fun HG pr r o sG hr0 ho0 eo hpr => ?_, fun hno => ?_⟩
    rotate_left
    · obtain ⟨r, o, hr0, ho0, e⟩ := Mi.few_oppose (n := m) (labs := labs) (am := am.map Int.toNat) hll.symm (fun v hv => (hok v hv).1.1) (fun v hv => List.mem_map.mpr ⟨_, ham v hv, Int.toNat_natCast _⟩) (by rw [List.length_map]; omega)
      exact absurd e (hno r hr0 o ho0)
    have hRr := Mi.mem_rows.mp hr0
    have hab := (Mi.mem_abv hRr.1).mp ho0
    have hRo := Mi.Rw.of_ab hRr hab.1 hab.2
    have sBG : Same HB HG := sF.trans sG
    refine ⟨_, rfl, rfl, _, rfl, ?_⟩
    rw [show decide (V.ref pr = V.non) = false from decide_eq_false (by intro z; cases z)]
    refine iteF ⟨_, rfl, _, _, _, _, true, rfl, .ty _, .base (.tup hpr), kit_ty (by decide +kernel), true, rfl, iteF ?_⟩
    refine ⟨_, rfl, pr, _, rfl, .inr (SqT.of hpr), rfl, _, rfl, ?_⟩
    rw [show (!decide (V.int (([vR r, vR o].length : Nat) : Int) = V.int 2)) = false from rfl]
    refine iteF ⟨_, rfl, pr, _, 0, vR r, rfl, rfl, SqT.of hpr, rfl, _, rfl, pr, _, 1, vR o, rfl, rfl, SqT.of hpr, rfl, r, o, rfl, hab.1, by rw [hRr.1.1]; omega, fun HH sH => ⟨true, rfl, iteF ?_⟩⟩
    have sBH : Same HB HH := sBG.trans sH
    refine ⟨_, rfl, _, rfl, pr, _, 0, vR r, rfl, rfl, SqT.of (sH _ _ hpr), rfl, d, m, labs, r, rfl, hm, hll, sBH _ _ hd9, hRr, fun HI sI => ?_⟩
    refine ⟨_, rfl, _, rfl, pr, _, 1, vR o, rfl, rfl, SqT.of (sI _ _ (sH _ _ hpr)), rfl, d, m, labs, o, rfl, hm, hll, sI _ _ (sBH _ _ hd9), hRo, fun HJ sJ => ⟨_, rfl, rfl, _, rfl, ?_⟩⟩
    rw [show (!decide (V.int (Mi.lab m labs r) = V.int (-Mi.lab m labs o))) = false by rw [eo, Int.neg_neg]; simp]
    refine iteF ?_
    have sBJ : Same HB HJ := (sBH.trans sI).trans sJ
    -- the wave table
    have hamW : ∀ v ∈ wlabs m, (v.natAbs : Int) ∈ rng m := fun v hv => ((rng_amts hm).2 _).mpr ⟨v, hv, rfl⟩
    have hrl : (rng m).length ≤ 40 := by
      unfold rng
      rw [List.length_map, List.length_range]
      omega
    refine ⟨_, rfl, m, rfl, hm, fun HK t1 sK TAK => ⟨t1, m, wlabs m, rng m, rfl, TAK, hrl, hamW, fun HL pw nw sL AL hpw => ?_⟩⟩
    obtain rfl := amts_eq (rng_amts hm) AL
    refine ⟨_, rfl, _, _, rfl, rfl, _, _, rfl, rfl, RgOk.of_le (by decide) (by omega) (by decide) (by omega), fun qr hqr => ?_⟩
    rw [rng_rg]
    refine ⟨.tuple (dI (rng m)), .tuple (dI (rng m)), dp_tup (same_new hqr _ _ hpw), dp_tup upd_same, shaped_t _, shaped_t _, _, rfl, ?_⟩
    rw [tself]
    have sM : Same HB (upd HL qr (.tup (intsV (rng m)))) := ((sBJ.trans sK).trans sL).trans (same_new hqr)
    refine iteF ?_
    generalize upd HL qr (.tup (intsV (rng m))) = HM at sM ⊢
    refine ⟨_, rfl, m, rfl, hm, fun HN t2 sN TAN => ⟨t2, m, wlabs m, rfl, TAN, fun _ _ r' o' _ hr' ho' e' _ => absurd e' (Mi.wave_table_none hm r' hr' o' ho'), fun _ HO1 sO => ⟨rfl, _, rfl, ?_⟩⟩⟩
    rw [show (!decide (V.non = V.non)) = false from rfl]
    refine iteF ⟨_, _, _, _, _, _, _, _, rfl, ?_, ?_⟩
    · exact hT9.ext ((sM.trans sN).trans sO)
    · refine (c9.same ((sM.trans sN).trans sO)).mono ?_
      omega
  · rintro σ H2 ⟨v2, v3, v4, v5, v6, v7, v8, v9, rfl, hT2, c2⟩
    obtain ⟨xs2, hcc2⟩ := c2.at
    refine ⟨_, rfl, _, rfl, by show 3 ≤ sizeLine; decide, fun p hp => ?_⟩
    refine ⟨c, l, p, _, _, rfl, c2.same (same_new hp), by omega, upd_same, (ne_of_none hcc2 hp).symm, by show 0 < 3; decide, by show 3 < 1000; decide, fun H3 w3 b3 c3 hw3 => ?_⟩
    have hz : ∃ z : Int, w3 = .int z ∧ (z = -7 ∨ z = 1 ∨ z = 1000) := by
      rcases List.mem_cons.mp hw3 with z | z
      · exact ⟨-7, z, .inl rfl⟩
      rcases List.mem_cons.mp z with z | z
      · exact ⟨1, z, .inr (.inl rfl)⟩
      · exact ⟨1000, List.mem_singleton.mp z, .inr (.inr rfl)⟩
    obtain ⟨z, rfl, hz⟩ := hz
    refine ⟨by show 1 ≤ sizeLine; decide, fun l1 hl1 => fun x dx nx ndx nxd => ⟨x, l1, dx, 1, [z], rfl, upd_same, ?_, by decide, by show 1 = (Mi.told 1).length; decide +kernel, fun v hv => ?_, fun H4 o4 TA4 => ⟨rfl, ?_⟩⟩⟩
    · rw [upd_ne (ne_of_none (upd_same (H := H3) (a := l1) (o := .lst [.int z])) nx), upd_ne (ne_of_none (upd_same (H := H3) (a := l1) (o := .lst [.int z])) ndx), upd_same]
      rfl
    · rw [List.mem_singleton.mp hv]
      unfold labOk
      omega
    refine ⟨x, 1, [z], [(z.natAbs : Int)], rfl, TA4, by show 1 ≤ 40; decide, fun v hv => by rw [List.mem_singleton.mp hv]; exact List.mem_singleton.mpr rfl, fun H5 p5 n5 s5 A5 hp5 => ?_⟩
    obtain rfl := amts_eq (one_amts z) A5
    refine ⟨by show 1 ≤ sizeLine; decide, fun u1 hu1 => ⟨by show 1 ≤ sizeLine; decide, fun u2 hu2 => ⟨by show 1 ≤ sizeLine; decide, fun u3 hu3 => ⟨by show 3 ≤ sizeLine; decide, fun u4 hu4 => ?_⟩⟩⟩⟩
    have sa := same_new (o := .tup [.int 7]) hu1
    have sb := same_new (o := .tup [.int 1]) hu2
    have sc := same_new (o := .tup [.int 1000]) hu3
    have sd := same_new (o := .tup [.ref u1, .ref u2, .ref u3]) hu4
    have k1 := sd _ _ (sc _ _ (sb _ _ (upd_same (H := H5) (a := u1) (o := .tup (intsV [7])))))
    have k2 := sd _ _ (sc _ _ (upd_same (H := upd H5 u1 (.tup [.int 7])) (a := u2) (o := .tup (intsV [1]))))
    have k3 := sd _ _ (upd_same (H := upd (upd H5 u1 (.tup [.int 7])) u2 (.tup [.int 1])) (a := u3) (o := .tup (intsV [1000])))
    have k5 := sd _ _ (sc _ _ (sb _ _ (sa _ _ hp5)))
    refine ⟨.tuple (dI [(z.natAbs : Int)]), [.tuple (dI [7]), .tuple (dI [1]), .tuple (dI [1000])], dp_tup k5, .tup (SqT.of upd_same) (.cons (dp_tup k1) (.cons (dp_tup k2) (.cons (dp_tup k3) .nil))), rfl, rfl, Nat.le_trans (Nat.min_le_left _ _) (by decide), ?_⟩
    rcases hz with e | e | e <;> subst e <;> exact k _
end
end My
set_option Elab.async false
set_option linter.all false
set_option maxRecDepth 100000
set_option maxHeartbeats 4000000
namespace My
open PySem PySem.Spec PyProof.Rows L2 LamX SX
/-- what the law's call does at the top's end: one table of code objects, the tokens in view, the around the caller's -/
def LawN (P : Program) (w : World) (mg : Str → Option Value) (fa : Addr) (h : Heap) (t : Nat) : Prop :=
  ∃ (K : PySem.W.Frag) (c Pt : Addr), K.In h ∧ K.lookup Pt = none ∧ h.get? Pt = some { cls := .none, data := .fields #[] } ∧ PySem.W.CodeHd h c Pt ∧
    ∀ base : Heap, K.In base → base.Ns mainGlobals mg → TabB base mg c Pt → ∀ (s : Shared) (H : Hp) (a : Addr) (ns : List Int), t ≤ s.toks → ns.length ≤ 63 → H Pt = some (.tbl #[]) → SqL K H a (ns.map V.int) → Env0 P w K mg base callerA [] s H →
      codeAny (model P w) callerA (.call (.ref fa) ⟨[.ref a], []⟩) (CR C8.CX0 [] P w H s (fun v _ => v = .bl true) C8.E0) s
theorem law_callN {P : Program} {w : World} {mg mb : Str → Option Value} {fa a : Addr} {s₁ : Shared} {vs : List Value} {ns : List Int} {t : Nat} (LN : LawN P w mg fa s₁.heap t) (ht : t ≤ s₁.toks)
    (hns : s₁.heap.Ns mainGlobals mg) (hb : s₁.heap.Ns builtinsNs mb) (hbb : ∀ x : Str, x ≠ "__name__" → mb x = bootBuiltins x) (hlim : s₁.heap.NoLimit) (hg : s₁.gens = #[])
    (hbm : ∃ (bm : Addr) (ob : Obj), mg "__builtins__" = some (.ref bm) ∧ bm ≠ builtinsNs ∧ s₁.heap.get? bm = some ob ∧ ob.cls = .type "module" ∧ ob.dict = some builtinsNs ∧ ob.data = .plain)
    (ha : s₁.heap.get? a = some { cls := .type "list", data := .seq vs.toArray }) (hi : IntsAre vs ns) (hl : ns.length ≤ 63) :
    codeAny (model P w) callerA (.call (.ref fa) ⟨[.ref a], []⟩) (fun r s' => r = .ok (.ret (.bool true)) ∧ OldK s₁.heap s'.heap ∧ s'.os = s₁.os ∧ AllBare s'.gens) s₁ := by
  obtain ⟨K, c, Pt, KX, nT, hT, C, F⟩ := LN
  have rv := vals_ints hi
  have lenV := hi.length
  have hlz : ns.length ≤ sizeLine := Nat.le_trans hl (by decide)
  have aT : a ≠ Pt := fun z => by
    rw [z, hT] at ha
    cases ha
  have core : ∀ H : Hp, H Pt = some (.tbl #[]) → (∀ b, H b = none ∨ b = Pt ∨ ∃ o xs, H b = some (.frz o (.lst xs))) → SqL K H a (ns.map V.int) → HOk P w H s₁.heap → (∀ b, H b ≠ none → b = a ∨ b = Pt) → (H a ≠ none → K.lookup a = none) →
      codeAny (model P w) callerA (.call (.ref fa) ⟨[.ref a], []⟩) (fun r s' => r = .ok (.ret (.bool true)) ∧ OldK s₁.heap s'.heap ∧ s'.os = s₁.os ∧ AllBare s'.gens) s₁ := by
    intro H hH hO hS hok hA hK
    -- an object of another kind than the script and the table is not tracked
    have free : ∀ {b : Addr} {o : Obj}, s₁.heap.get? b = some o → (∀ us m, o.data ≠ .seq us m) → o.data ≠ .fields #[] → H b = none := fun {b o} e h1 h2 => by
      cases q : H b with
      | none => rfl
      | some u =>
        rcases hA b (by rw [q]; exact Option.some_ne_none _) with z | z
        · rw [z, ha] at e
          cases e
          exact (h1 _ _ rfl).elim
        · rw [z, hT] at e
          cases e
          exact (h2 rfl).elim
    have freeD : ∀ {b : Addr} {o : Obj} {es : Array DictEntry} {ep : Nat}, s₁.heap.get? b = some o → o.data = .dict es ep → H b = none := fun {b o es ep} e z =>
      free e (fun us m y => by rw [z] at y; cases y) fun y => by rw [z] at y; cases y
    have kept : ∀ {b : Addr} {m : Str → Option Value}, s₁.heap.Ns b m → (hidT s₁.heap H).Ns b m := fun {b m} ⟨o, es, ep, e, z, r⟩ => ⟨o, es, ep, hidT_get e (freeD e z), z, r⟩
    have hKb : K.In (hidT s₁.heap H) := fun b o e => hidT_get (KX b o e) (by
      cases q : H b with
      | none => rfl
      | some u =>
        rcases hA b (by rw [q]; exact Option.some_ne_none _) with z | z
        · rw [z] at e q
          rw [hK (by rw [q]; exact Option.some_ne_none _)] at e
          cases e
        · rw [z, nT] at e
          cases e)
    have hM : L2.Mod K mg (hidT s₁.heap H) := ⟨hKb, kept hns, ⟨mb, kept hb, hbb⟩, let ⟨mc, y1, y2⟩ := hlim; ⟨mc, kept y1, y2⟩⟩
    have TB : TabB (hidT s₁.heap H) mg c Pt := by
      refine ⟨?_, ?_, fun z => ?_⟩
      · obtain ⟨o, us, file, tf, flags, tg, inF, text, tt, e1, r1, r2, r3, r4, r5, r6, r7, r8, hne⟩ := C
        refine ⟨o, us, file, tf, flags, tg, inF, text, tt, hidT_get e1 (free e1 (fun us m z => by rw [r2] at z; cases z) fun z => ?_), r1, r2, r3, r4, r5, r6, r7, r8, hne⟩
        rw [r2] at z
        cases z
        simp at r3
      · obtain ⟨bm, ob, b1, b2, b3, b4, b5, b6⟩ := hbm
        have nG : bm ≠ mainGlobals := fun q => by
          obtain ⟨o, es, ep, e, z, _⟩ := hns
          rw [q, e] at b3
          cases b3
          rw [z] at b6
          cases b6
        have nP : bm ≠ Pt := fun q => by
          rw [q, hT] at b3
          cases b3
          cases b6
        exact ⟨bm, ob, b1, b2, nG, nP, hidT_get b3 (free b3 (fun us m z => by rw [b6] at z; cases z) fun z => by rw [b6] at z; cases z), b4, b5, b6⟩
      · obtain ⟨o, es, ep, e, y, _⟩ := hns
        rw [z, hT] at e
        cases e
        cases y
    have e0 : Env0 P w K mg (hidT s₁.heap H) callerA [] s₁ H := ⟨rfl, hM, fun b o e => of_hidT e, Nat.le_of_eq (hidT_size _ _), trivial, fun b z => absurd (show b ∈ ([] : List Addr) from z) (by simp), hok, .of_eq hg⟩
    refine codeAny_mono (F _ hKb (kept hns) TB s₁ H a ns ht hl hH hS e0) fun r s' h => ?_
    cases r with
    | error e => exact (show False from h).elim
    | ok fl =>
      cases fl with
      | next => exact False.elim h
      | brk => exact False.elim h
      | cont => exact False.elim h
      | ret u =>
        obtain ⟨v, H', os, bare, un, hok', r', q⟩ := h
        have q : v = .bl true := q
        subst q
        obtain rfl : u = Value.bool true := r'
        have same : ∀ b o, b ≠ Pt → s₁.heap.get? b = some o → s'.heap.get? b = some o := fun b o nb e => by
          cases q : H b with
          | none => exact un.keep b o e q (by intro z; exact absurd (show b ∈ ([] : List Addr) from z) (by simp)) (by simp)
          | some u =>
            rcases hO b with z | z | ⟨ob, xs, z⟩
            · rw [q] at z; cases z
            · exact absurd z nb
            · obtain ⟨e1, _⟩ := hok b _ z
              obtain ⟨e2, _⟩ := hok' b _ (un.frzs b ob _ z)
              rw [e] at e1
              cases e1
              exact e2
        obtain ⟨more, hmore⟩ : ∃ more : Array Value, s'.heap.get? Pt = some { cls := .none, data := .fields more } := by
          obtain ⟨more, z⟩ := un.tbls Pt #[] hH
          exact ⟨_, hok' Pt _ z⟩
        refine ⟨rfl, ⟨fun b o e => ?_, fun b o e => ?_⟩, os, bare⟩
        · by_cases z : b = Pt
          · rw [z] at e ⊢
            rw [hT] at e
            cases e
            exact .inr (.inl ⟨(C.tab hT).isCodeTable, rfl, #[], more, rfl, by rw [Array.empty_append]; exact hmore⟩)
          · exact .inl (same b o z e)
        · by_cases z : b = Pt
          · rw [z]
            exact ⟨_, hmore⟩
          · exact ⟨o, same b o z e⟩
  have tO : ∀ (G : Hp), (∀ b, G b = if b = Pt then some (.tbl #[]) else none) → HOk P w G s₁.heap := fun G hG b u z => by
    rw [hG b] at z
    by_cases y : b = Pt
    · rw [if_pos y] at z
      cases z
      rw [y]
      exact hT
    · rw [if_neg y] at z
      cases z
  cases hk : K.lookup a with
  | some o =>
    have e := KX a o hk
    rw [ha] at e
    cases e
    refine core (fun b => if b = Pt then some (.tbl #[]) else none) (if_pos rfl) (fun b => ?_) (.inr ⟨_, vs.toArray, _, hk, rfl, rfl, rfl, by rw [List.size_toArray, lenV]; exact hlz, by simpa using rv⟩) (tO _ fun b => rfl) (fun b z => ?_) fun z => absurd (show (if a = Pt then some (HO.tbl #[]) else none) = none from if_neg aT) z
    · by_cases y : b = Pt
      · exact .inr (.inl y)
      · exact .inl (if_neg y)
    · by_cases y : b = Pt
      · exact .inr y
      · exact absurd (if_neg y) z
  | none =>
    refine core (fun b => if b = a then some (.frz { cls := .type "list", data := .seq vs.toArray } (.lst (ns.map V.int))) else if b = Pt then some (.tbl #[]) else none) ((if_neg aT.symm).trans (if_pos rfl)) (fun b => ?_)
      (.inl (.inr ⟨{ cls := .type "list", data := .seq vs.toArray }, if_pos rfl⟩)) (fun b u z => ?_) (fun b z => ?_) fun _ => hk
    · by_cases y : b = a
      · exact .inr (.inr ⟨_, _, if_pos y⟩)
      · by_cases y2 : b = Pt
        · exact .inr (.inl y2)
        · exact .inl ((if_neg y).trans (if_neg y2))
    · by_cases y : b = a
      · have z' := (if_pos y).symm.trans z
        cases z'
        rw [y]
        exact ⟨ha, by rw [List.length_map]; exact hlz, vs, _, rv, ha⟩
      · have z1 := (if_neg y).symm.trans z
        by_cases y2 : b = Pt
        · have z' := (if_pos y2).symm.trans z1
          cases z'
          rw [y2]
          exact hT
        · have z' := (if_neg y2).symm.trans z1
          cases z'
    · by_cases y : b = a
      · exact .inl y
      · by_cases y2 : b = Pt
        · exact .inr y2
        · exact absurd ((if_neg y).trans (if_neg y2)) z
open PySem.W in
theorem of_ints : ∀ ns : List Int, ofPys (ns.map PyData.int) = ns.map WData.int
  | [] => rfl
  | n :: ns => by
    show ofPy (.int n) :: ofPys (ns.map PyData.int) = _
    rw [of_ints ns]
    rfl
open PySem.W PySem.W.X in
theorem walkX {l : OpenLaw} {q : Program} {loose : List Str} {XP : (Str → Option Value) → Heap → Prop} {d : DefRec} {K : Params → Frag} {as : List Addr} {N t : Nat} (hn : l.most = some 63) (hdf : d.params.defaults = []) (e : ∀ P, as = (K P).map (·.1))
    (F : ∀ (w : World) (mg : Str → Option Value) (fa : Addr) (h : Heap), (K w.params).In h → h.Ns mainGlobals mg → mg d.name = some (.ref fa) → LawN l.prog w mg fa h t) :
    WalkX q loose XP (obsZ as) (valZ K N t) l.row.toRowW d [] (fun f vs => PySem.call f vs) := by
  intro w s₀ s₁ mg mb G y fa o pm cd doc dV kV ho hd hcd hD hmg hg args vals as' L hpre hlay hrd hwl hlo
  obtain rfl : dV = .none := Dflts.none hD hdf
  obtain rfl : kV = .none := Dflts.noKw hD
  obtain ⟨a, vs, ns, rfl, rfl, hobj, hints, hlen⟩ := Att.script_of hn hpre hwl
  obtain ⟨_, hK0, _, htk⟩ := z_facts e y
  have L' : Laid l.row.toRowW.records w s₀ s₁ [ofPy (PyData.list (ns.map PyData.int))] [Value.ref a] as' := by
    have z : ofPy (PyData.list (ns.map PyData.int)) = WData.list (ns.map WData.int) := by
      show WData.list (ofPys (ns.map PyData.int)) = _
      rw [of_ints]
    rw [z]
    exact L
  have ht : t ≤ s₁.toks := script_toks L' htk
  have KX : (K w.params).In s₁.heap := Frag.In.keeps hK0 L.keeps
  refine enter_call (codeAny_mono (law_callN (F w mg fa _ KX G.T.g hmg) ht G.T.g G.T.b G.T.builtins G.T.nolimit hg G.T.bmain hobj hints hlen) fun r s' hq => ?_)
  obtain ⟨rfl, h2, h3, h4⟩ := hq
  exact ⟨.inl ⟨.bool true, .bool true, [], rfl, fun _ => rfl, .bool true, Att.post_true l _, fun _ => ⟨List.Pairwise.nil, fun _ hm => (nomatch hm)⟩⟩, h2, h3, h4⟩
end My
set_option Elab.async false
set_option linter.all false
set_option maxRecDepth 100000
set_option maxHeartbeats 4000000
/-! the facts of the top, gathered (written by gen17.py) -/
namespace My
open PySem PySem.Spec PyProof.Rows L2 LamX SX
open PySem.W (Frag nsIn codeIn keepIn findIn isFn plainGet hasDictIn plainOver makesIn specialIn takesIn mroIn kitOne fnOf)
def dropK (Pt : Addr) (K : Frag) : Frag := K.filter fun p => !(p.1 == Pt)
theorem drop_lookup (Pt b : Addr) : ∀ K : Frag, (dropK Pt K).lookup b = if b = Pt then none else K.lookup b
  | [] => by
    show none = if b = Pt then none else none
    by_cases h : b = Pt
    · rw [if_pos h]
    · rw [if_neg h]
  | (a, o) :: K => by
    have ih := drop_lookup Pt b K
    show List.lookup b (List.filter (fun p => !(p.1 == Pt)) ((a, o) :: K)) = _
    rw [List.filter_cons]
    by_cases ha : a = Pt
    · rw [if_neg (by simp [ha])]
      refine Eq.trans ih ?_
      by_cases h : b = Pt
      · rw [if_pos h, if_pos h]
      · rw [if_neg h, if_neg h, List.lookup_cons]
        have : (b == a) = false := beq_eq_false_iff_ne.mpr fun z => h (z.trans ha)
        rw [this]
    · rw [if_pos (by simp [ha]), List.lookup_cons]
      have ih' : List.lookup b (List.filter (fun p => !(p.1 == Pt)) K) = if b = Pt then none else K.lookup b := ih
      rw [ih', List.lookup_cons]
      cases hb : b == a with
      | true =>
        have : b = a := eq_of_beq hb
        exact (if_neg (show ¬ b = Pt from fun z => ha (this.symm.trans z))).symm
      | false => rfl
theorem drop_in {Pt : Addr} {K : Frag} {h : Heap} (X : K.In h) : (dropK Pt K).In h := fun b o e => by
  rw [drop_lookup] at e
  by_cases z : b = Pt
  · rw [if_pos z] at e; cases e
  · rw [if_neg z] at e; exact X b o e
theorem drop_none (Pt : Addr) (K : Frag) : (dropK Pt K).lookup Pt = none := by rw [drop_lookup, if_pos rfl]
theorem drop_at {Pt b : Addr} {K : Frag} {o o2 : Obj} (hP : K.lookup Pt = some o) (hb : K.lookup b = some o2) (ne : o ≠ o2) : (dropK Pt K).lookup b = some o2 := by
  rw [drop_lookup, if_neg]
  · exact hb
  · intro z
    rw [z, hP] at hb
    exact ne (Option.some.inj hb)

theorem all_law {P : Program} {w : World} {Kz : Frag} {h : Heap} {mg : Str → Option Value} {fa Pt : Addr} {n : Nat} (X : Kz.In h) (G : h.Ns mainGlobals mg) (hfa : mg "law" = some (.ref fa))
    {f7 : Addr} {oc7 kV7 doc7 pm7 cd7 ct7 : Value} {od7 an7 : Option Addr} {sl7 : Array (Option Value)}
    {f8 : Addr} {oc8 kV8 doc8 pm8 cd8 ct8 : Value} {od8 an8 : Option Addr} {sl8 : Array (Option Value)}
    {f9 : Addr} {oc9 kV9 doc9 pm9 cd9 ct9 : Value} {od9 an9 : Option Addr} {sl9 : Array (Option Value)}
    {f16 : Addr} {oc16 kV16 doc16 pm16 cd16 ct16 : Value} {od16 an16 : Option Addr} {sl16 : Array (Option Value)}
    {f17 : Addr} {oc17 kV17 doc17 pm17 cd17 ct17 : Value} {od17 an17 : Option Addr} {sl17 : Array (Option Value)}
    {f18 : Addr} {oc18 kV18 doc18 pm18 cd18 ct18 : Value} {od18 an18 : Option Addr} {sl18 : Array (Option Value)}
    {f19 : Addr} {oc19 kV19 doc19 pm19 cd19 ct19 : Value} {od19 an19 : Option Addr} {sl19 : Array (Option Value)}
    {f30 : Addr} {oc30 kV30 doc30 pm30 cd30 ct30 : Value} {od30 an30 : Option Addr} {sl30 : Array (Option Value)}
    {f31 : Addr} {oc31 kV31 doc31 pm31 cd31 ct31 : Value} {od31 an31 : Option Addr} {sl31 : Array (Option Value)}
    {f32 : Addr} {oc32 kV32 doc32 pm32 cd32 ct32 : Value} {od32 an32 : Option Addr} {sl32 : Array (Option Value)}
    {f33 : Addr} {oc33 kV33 doc33 pm33 cd33 ct33 : Value} {od33 an33 : Option Addr} {sl33 : Array (Option Value)}
    {f34 : Addr} {oc34 kV34 doc34 pm34 cd34 ct34 : Value} {od34 an34 : Option Addr} {sl34 : Array (Option Value)}
    {f35 : Addr} {oc35 kV35 doc35 pm35 cd35 ct35 : Value} {od35 an35 : Option Addr} {sl35 : Array (Option Value)}
    {f39 : Addr} {oc39 kV39 doc39 pm39 cd39 ct39 : Value} {od39 an39 : Option Addr} {sl39 : Array (Option Value)}
    {f40 : Addr} {oc40 kV40 doc40 pm40 cd40 ct40 : Value} {od40 an40 : Option Addr} {sl40 : Array (Option Value)}
    {f41 : Addr} {oc41 kV41 doc41 pm41 cd41 ct41 : Value} {od41 an41 : Option Addr} {sl41 : Array (Option Value)}
    {f43 : Addr} {oc43 kV43 doc43 pm43 cd43 ct43 : Value} {od43 an43 : Option Addr} {sl43 : Array (Option Value)}
    {f44 : Addr} {oc44 kV44 doc44 pm44 cd44 ct44 : Value} {od44 an44 : Option Addr} {sl44 : Array (Option Value)}
    {f46 : Addr} {oc46 kV46 doc46 pm46 cd46 ct46 : Value} {od46 an46 : Option Addr} {sl46 : Array (Option Value)}
    {f47 : Addr} {oc47 kV47 doc47 pm47 cd47 ct47 : Value} {od47 an47 : Option Addr} {sl47 : Array (Option Value)}
    {f48 : Addr} {oc48 kV48 doc48 pm48 cd48 ct48 : Value} {od48 an48 : Option Addr} {sl48 : Array (Option Value)}
    {f49 : Addr} {oc49 kV49 doc49 pm49 cd49 ct49 : Value} {od49 an49 : Option Addr} {sl49 : Array (Option Value)}
    {f50 : Addr} {oc50 kV50 doc50 pm50 cd50 ct50 : Value} {od50 an50 : Option Addr} {sl50 : Array (Option Value)}
    {f51 : Addr} {oc51 kV51 doc51 pm51 cd51 ct51 : Value} {od51 an51 : Option Addr} {sl51 : Array (Option Value)}
    {f52 : Addr} {oc52 kV52 doc52 pm52 cd52 ct52 : Value} {od52 an52 : Option Addr} {sl52 : Array (Option Value)}
    {f53 : Addr} {oc53 kV53 doc53 pm53 cd53 ct53 : Value} {od53 an53 : Option Addr} {sl53 : Array (Option Value)}
    {f54 : Addr} {oc54 kV54 doc54 pm54 cd54 ct54 : Value} {od54 an54 : Option Addr} {sl54 : Array (Option Value)}
    {f10 T10 : Addr} {oc10 kV10 doc10 pm10 cd10 ct10 ot10 : Value} {od10 an10 dt10 : Option Addr} {sl10 st10 : Array (Option Value)} {n10 : Nat}
    {f38 T38 : Addr} {oc38 kV38 doc38 pm38 cd38 ct38 ot38 : Value} {od38 an38 dt38 : Option Addr} {sl38 st38 : Array (Option Value)} {n38 : Nat} {tk38 : Tok}
    {f42 c42 : Addr} {oc42 kV42 doc42 pm42 ct42 : Value} {od42 an42 : Option Addr} {sl42 : Array (Option Value)}
    {f55 : Addr} {oc55 kV55 doc55 pm55 cd55 ct55 : Value} {od55 an55 : Option Addr} {sl55 : Array (Option Value)}
    {C fI fL : Addr} {ocI kVI docI pmI cdI ctI ocL kVL docL pmL cdL ctL : Value} {odI anI odL anL : Option Addr} {slI slL : Array (Option Value)}
    {tL tR tN tS tP tM : Tok}
    (z7 : nsIn Kz mainGlobals "is_integer" = some (some (.ref f7))) (l7 : Kz.lookup f7 = some ⟨oc7, od7, .func (fnOf "is_integer" "is_integer" (C8.fnArgs (top 7)) (C8.fnBody (top 7)) (C8.fnScope (top 7)) .none kV7 doc7 pm7 an7 cd7 ct7), sl7⟩) (c7 : codeIn (dropK Pt Kz) cd7 "is_integer" = true) (k7 : keepIn (dropK Pt Kz) (.ref f7) = true)
    (z8 : nsIn Kz mainGlobals "is_within" = some (some (.ref f8))) (l8 : Kz.lookup f8 = some ⟨oc8, od8, .func (fnOf "is_within" "is_within" (C8.fnArgs (top 8)) (C8.fnBody (top 8)) (C8.fnScope (top 8)) .none kV8 doc8 pm8 an8 cd8 ct8), sl8⟩) (c8 : codeIn (dropK Pt Kz) cd8 "is_within" = true) (k8 : keepIn (dropK Pt Kz) (.ref f8) = true)
    (z9 : nsIn Kz mainGlobals "is_list" = some (some (.ref f9))) (l9 : Kz.lookup f9 = some ⟨oc9, od9, .func (fnOf "is_list" "is_list" (C8.fnArgs (top 9)) (C8.fnBody (top 9)) (C8.fnScope (top 9)) .none kV9 doc9 pm9 an9 cd9 ct9), sl9⟩) (c9 : codeIn (dropK Pt Kz) cd9 "is_list" = true) (k9 : keepIn (dropK Pt Kz) (.ref f9) = true)
    (z16 : nsIn Kz mainGlobals "turned_sign" = some (some (.ref f16))) (l16 : Kz.lookup f16 = some ⟨oc16, od16, .func (fnOf "turned_sign" "turned_sign" (C8.fnArgs (top 16)) (C8.fnBody (top 16)) (C8.fnScope (top 16)) .none kV16 doc16 pm16 an16 cd16 ct16), sl16⟩) (c16 : codeIn (dropK Pt Kz) cd16 "turned_sign" = true) (k16 : keepIn (dropK Pt Kz) (.ref f16) = true)
    (z17 : nsIn Kz mainGlobals "turned_row" = some (some (.ref f17))) (l17 : Kz.lookup f17 = some ⟨oc17, od17, .func (fnOf "turned_row" "turned_row" (C8.fnArgs (top 17)) (C8.fnBody (top 17)) (C8.fnScope (top 17)) .none kV17 doc17 pm17 an17 cd17 ct17), sl17⟩) (c17 : codeIn (dropK Pt Kz) cd17 "turned_row" = true) (k17 : keepIn (dropK Pt Kz) (.ref f17) = true)
    (z18 : nsIn Kz mainGlobals "signs_of" = some (some (.ref f18))) (l18 : Kz.lookup f18 = some ⟨oc18, od18, .func (fnOf "signs_of" "signs_of" (C8.fnArgs (top 18)) (C8.fnBody (top 18)) (C8.fnScope (top 18)) .none kV18 doc18 pm18 an18 cd18 ct18), sl18⟩) (c18 : codeIn (dropK Pt Kz) cd18 "signs_of" = true) (k18 : keepIn (dropK Pt Kz) (.ref f18) = true)
    (z19 : nsIn Kz mainGlobals "waves_in" = some (some (.ref f19))) (l19 : Kz.lookup f19 = some ⟨oc19, od19, .func (fnOf "waves_in" "waves_in" (C8.fnArgs (top 19)) (C8.fnBody (top 19)) (C8.fnScope (top 19)) .none kV19 doc19 pm19 an19 cd19 ct19), sl19⟩) (c19 : codeIn (dropK Pt Kz) cd19 "waves_in" = true) (k19 : keepIn (dropK Pt Kz) (.ref f19) = true)
    (z30 : nsIn Kz mainGlobals "spelled" = some (some (.ref f30))) (l30 : Kz.lookup f30 = some ⟨oc30, od30, .func (fnOf "spelled" "spelled" (C8.fnArgs (top 30)) (C8.fnBody (top 30)) (C8.fnScope (top 30)) .none kV30 doc30 pm30 an30 cd30 ct30), sl30⟩) (c30 : codeIn (dropK Pt Kz) cd30 "spelled" = true) (k30 : keepIn (dropK Pt Kz) (.ref f30) = true)
    (z31 : nsIn Kz mainGlobals "all_rows" = some (some (.ref f31))) (l31 : Kz.lookup f31 = some ⟨oc31, od31, .func (fnOf "all_rows" "all_rows" (C8.fnArgs (top 31)) (C8.fnBody (top 31)) (C8.fnScope (top 31)) .none kV31 doc31 pm31 an31 cd31 ct31), sl31⟩) (c31 : codeIn (dropK Pt Kz) cd31 "all_rows" = true) (k31 : keepIn (dropK Pt Kz) (.ref f31) = true)
    (z32 : nsIn Kz mainGlobals "begins_left" = some (some (.ref f32))) (l32 : Kz.lookup f32 = some ⟨oc32, od32, .func (fnOf "begins_left" "begins_left" (C8.fnArgs (top 32)) (C8.fnBody (top 32)) (C8.fnScope (top 32)) .none kV32 doc32 pm32 an32 cd32 ct32), sl32⟩) (c32 : codeIn (dropK Pt Kz) cd32 "begins_left" = true) (k32 : keepIn (dropK Pt Kz) (.ref f32) = true)
    (z33 : nsIn Kz mainGlobals "told_rows" = some (some (.ref f33))) (l33 : Kz.lookup f33 = some ⟨oc33, od33, .func (fnOf "told_rows" "told_rows" (C8.fnArgs (top 33)) (C8.fnBody (top 33)) (C8.fnScope (top 33)) .none kV33 doc33 pm33 an33 cd33 ct33), sl33⟩) (c33 : codeIn (dropK Pt Kz) cd33 "told_rows" = true) (k33 : keepIn (dropK Pt Kz) (.ref f33) = true)
    (z34 : nsIn Kz mainGlobals "many_left" = some (some (.ref f34))) (l34 : Kz.lookup f34 = some ⟨oc34, od34, .func (fnOf "many_left" "many_left" (C8.fnArgs (top 34)) (C8.fnBody (top 34)) (C8.fnScope (top 34)) .none kV34 doc34 pm34 an34 cd34 ct34), sl34⟩) (c34 : codeIn (dropK Pt Kz) cd34 "many_left" = true) (k34 : keepIn (dropK Pt Kz) (.ref f34) = true)
    (z35 : nsIn Kz mainGlobals "is_label" = some (some (.ref f35))) (l35 : Kz.lookup f35 = some ⟨oc35, od35, .func (fnOf "is_label" "is_label" (C8.fnArgs (top 35)) (C8.fnBody (top 35)) (C8.fnScope (top 35)) .none kV35 doc35 pm35 an35 cd35 ct35), sl35⟩) (c35 : codeIn (dropK Pt Kz) cd35 "is_label" = true) (k35 : keepIn (dropK Pt Kz) (.ref f35) = true)
    (z39 : nsIn Kz mainGlobals "above_in" = some (some (.ref f39))) (l39 : Kz.lookup f39 = some ⟨oc39, od39, .func (fnOf "above_in" "above_in" (C8.fnArgs (top 39)) (C8.fnBody (top 39)) (C8.fnScope (top 39)) .none kV39 doc39 pm39 an39 cd39 ct39), sl39⟩) (c39 : codeIn (dropK Pt Kz) cd39 "above_in" = true) (k39 : keepIn (dropK Pt Kz) (.ref f39) = true)
    (z40 : nsIn Kz mainGlobals "table_by" = some (some (.ref f40))) (l40 : Kz.lookup f40 = some ⟨oc40, od40, .func (fnOf "table_by" "table_by" (C8.fnArgs (top 40)) (C8.fnBody (top 40)) (C8.fnScope (top 40)) .none kV40 doc40 pm40 an40 cd40 ct40), sl40⟩) (c40 : codeIn (dropK Pt Kz) cd40 "table_by" = true) (k40 : keepIn (dropK Pt Kz) (.ref f40) = true)
    (z41 : nsIn Kz mainGlobals "wave_table" = some (some (.ref f41))) (l41 : Kz.lookup f41 = some ⟨oc41, od41, .func (fnOf "wave_table" "wave_table" (C8.fnArgs (top 41)) (C8.fnBody (top 41)) (C8.fnScope (top 41)) .none kV41 doc41 pm41 an41 cd41 ct41), sl41⟩) (c41 : codeIn (dropK Pt Kz) cd41 "wave_table" = true) (k41 : keepIn (dropK Pt Kz) (.ref f41) = true)
    (z43 : nsIn Kz mainGlobals "opposed_pair" = some (some (.ref f43))) (l43 : Kz.lookup f43 = some ⟨oc43, od43, .func (fnOf "opposed_pair" "opposed_pair" (C8.fnArgs (top 43)) (C8.fnBody (top 43)) (C8.fnScope (top 43)) .none kV43 doc43 pm43 an43 cd43 ct43), sl43⟩) (c43 : codeIn (dropK Pt Kz) cd43 "opposed_pair" = true) (k43 : keepIn (dropK Pt Kz) (.ref f43) = true)
    (z44 : nsIn Kz mainGlobals "amounts_of" = some (some (.ref f44))) (l44 : Kz.lookup f44 = some ⟨oc44, od44, .func (fnOf "amounts_of" "amounts_of" (C8.fnArgs (top 44)) (C8.fnBody (top 44)) (C8.fnScope (top 44)) .none kV44 doc44 pm44 an44 cd44 ct44), sl44⟩) (c44 : codeIn (dropK Pt Kz) cd44 "amounts_of" = true) (k44 : keepIn (dropK Pt Kz) (.ref f44) = true)
    (z46 : nsIn Kz mainGlobals "_law_crowd" = some (some (.ref f46))) (l46 : Kz.lookup f46 = some ⟨oc46, od46, .func (fnOf "_law_crowd" "_law_crowd" (C8.fnArgs (top 46)) (C8.fnBody (top 46)) (C8.fnScope (top 46)) .none kV46 doc46 pm46 an46 cd46 ct46), sl46⟩) (c46 : codeIn (dropK Pt Kz) cd46 "_law_crowd" = true) (k46 : keepIn (dropK Pt Kz) (.ref f46) = true)
    (z47 : nsIn Kz mainGlobals "_law_head" = some (some (.ref f47))) (l47 : Kz.lookup f47 = some ⟨oc47, od47, .func (fnOf "_law_head" "_law_head" (C8.fnArgs (top 47)) (C8.fnBody (top 47)) (C8.fnScope (top 47)) .none kV47 doc47 pm47 an47 cd47 ct47), sl47⟩) (c47 : codeIn (dropK Pt Kz) cd47 "_law_head" = true) (k47 : keepIn (dropK Pt Kz) (.ref f47) = true)
    (z48 : nsIn Kz mainGlobals "_law_hat" = some (some (.ref f48))) (l48 : Kz.lookup f48 = some ⟨oc48, od48, .func (fnOf "_law_hat" "_law_hat" (C8.fnArgs (top 48)) (C8.fnBody (top 48)) (C8.fnScope (top 48)) .none kV48 doc48 pm48 an48 cd48 ct48), sl48⟩) (c48 : codeIn (dropK Pt Kz) cd48 "_law_hat" = true) (k48 : keepIn (dropK Pt Kz) (.ref f48) = true)
    (z49 : nsIn Kz mainGlobals "_law_rows" = some (some (.ref f49))) (l49 : Kz.lookup f49 = some ⟨oc49, od49, .func (fnOf "_law_rows" "_law_rows" (C8.fnArgs (top 49)) (C8.fnBody (top 49)) (C8.fnScope (top 49)) .none kV49 doc49 pm49 an49 cd49 ct49), sl49⟩) (c49 : codeIn (dropK Pt Kz) cd49 "_law_rows" = true) (k49 : keepIn (dropK Pt Kz) (.ref f49) = true)
    (z50 : nsIn Kz mainGlobals "_law_told" = some (some (.ref f50))) (l50 : Kz.lookup f50 = some ⟨oc50, od50, .func (fnOf "_law_told" "_law_told" (C8.fnArgs (top 50)) (C8.fnBody (top 50)) (C8.fnScope (top 50)) .none kV50 doc50 pm50 an50 cd50 ct50), sl50⟩) (c50 : codeIn (dropK Pt Kz) cd50 "_law_told" = true) (k50 : keepIn (dropK Pt Kz) (.ref f50) = true)
    (z51 : nsIn Kz mainGlobals "_law_opposite" = some (some (.ref f51))) (l51 : Kz.lookup f51 = some ⟨oc51, od51, .func (fnOf "_law_opposite" "_law_opposite" (C8.fnArgs (top 51)) (C8.fnBody (top 51)) (C8.fnScope (top 51)) .none kV51 doc51 pm51 an51 cd51 ct51), sl51⟩) (c51 : codeIn (dropK Pt Kz) cd51 "_law_opposite" = true) (k51 : keepIn (dropK Pt Kz) (.ref f51) = true)
    (z52 : nsIn Kz mainGlobals "_law_label" = some (some (.ref f52))) (l52 : Kz.lookup f52 = some ⟨oc52, od52, .func (fnOf "_law_label" "_law_label" (C8.fnArgs (top 52)) (C8.fnBody (top 52)) (C8.fnScope (top 52)) .none kV52 doc52 pm52 an52 cd52 ct52), sl52⟩) (c52 : codeIn (dropK Pt Kz) cd52 "_law_label" = true) (k52 : keepIn (dropK Pt Kz) (.ref f52) = true)
    (z53 : nsIn Kz mainGlobals "_law_is_below" = some (some (.ref f53))) (l53 : Kz.lookup f53 = some ⟨oc53, od53, .func (fnOf "_law_is_below" "_law_is_below" (C8.fnArgs (top 53)) (C8.fnBody (top 53)) (C8.fnScope (top 53)) .none kV53 doc53 pm53 an53 cd53 ct53), sl53⟩) (c53 : codeIn (dropK Pt Kz) cd53 "_law_is_below" = true) (k53 : keepIn (dropK Pt Kz) (.ref f53) = true)
    (z54 : nsIn Kz mainGlobals "_law_few" = some (some (.ref f54))) (l54 : Kz.lookup f54 = some ⟨oc54, od54, .func (fnOf "_law_few" "_law_few" (C8.fnArgs (top 54)) (C8.fnBody (top 54)) (C8.fnScope (top 54)) .none kV54 doc54 pm54 an54 cd54 ct54), sl54⟩) (c54 : codeIn (dropK Pt Kz) cd54 "_law_few" = true) (k54 : keepIn (dropK Pt Kz) (.ref f54) = true)
    (z10 : nsIn Kz mainGlobals "need_number" = some (some (.ref f10))) (l10 : Kz.lookup f10 = some ⟨oc10, od10, .func (fnOf "need_number" "need_number" (C8.fnArgs (top 10)) (C8.fnBody (top 10)) (C8.fnScope (top 10)) (.ref T10) kV10 doc10 pm10 an10 cd10 ct10), sl10⟩) (t10 : Kz.lookup T10 = some ⟨ot10, dt10, .seq (List.toArray [.none, .none]) n10, st10⟩) (c10 : codeIn (dropK Pt Kz) cd10 "need_number" = true) (k10 : keepIn (dropK Pt Kz) (.ref f10) = true)
    (z38 : nsIn Kz mainGlobals "need_table" = some (some (.ref f38))) (l38 : Kz.lookup f38 = some ⟨oc38, od38, .func (fnOf "need_table" "need_table" (C8.fnArgs (top 38)) (C8.fnBody (top 38)) (C8.fnScope (top 38)) (.ref T38) kV38 doc38 pm38 an38 cd38 ct38), sl38⟩) (t38 : Kz.lookup T38 = some ⟨ot38, dt38, .seq (List.toArray [.str "table" tk38]) n38, st38⟩) (c38 : codeIn (dropK Pt Kz) cd38 "need_table" = true) (k38 : keepIn (dropK Pt Kz) (.ref f38) = true)
    (z42 : nsIn Kz mainGlobals "place_table" = some (some (.ref f42))) (l42 : Kz.lookup f42 = some ⟨oc42, od42, .func (fnOf "place_table" "place_table" (C8.fnArgs (top 42)) (C8.fnBody (top 42)) (C8.fnScope (top 42)) .none kV42 doc42 pm42 an42 (.ref c42) ct42), sl42⟩) (q42 : codeIn (dropK Pt Kz) (.ref c42) "place_table" = true) (k42 : keepIn (dropK Pt Kz) (.ref f42) = true) (h42 : PySem.W.codeHdIn Kz c42 Pt = true)
    (z55 : nsIn Kz mainGlobals "law" = some (some (.ref f55))) (l55 : Kz.lookup f55 = some ⟨oc55, od55, .func (fnOf "law" "law" (C8.fnArgs (top 55)) (C8.fnBody (top 55)) (C8.fnScope (top 55)) .none kV55 doc55 pm55 an55 cd55 ct55), sl55⟩) (c55 : codeIn (dropK Pt Kz) cd55 "law" = true)
    (zC : nsIn Kz mainGlobals "Table" = some (some (.ref C))) (yI : findIn Kz (.ref C) "__init__" = some (some (.ref fI))) (yL : findIn Kz (.ref C) "label_at" = some (some (.ref fL)))
    (lI : Kz.lookup fI = some ⟨ocI, odI, .func (fnOf "__init__" "Table.__init__" (C8.fnArgs sInit) (C8.fnBody sInit) (C8.fnScope sInit) .none kVI docI pmI anI cdI ctI), slI⟩) (cI : codeIn (dropK Pt Kz) cdI "Table.__init__" = true)
    (lL : Kz.lookup fL = some ⟨ocL, odL, .func (fnOf "label_at" "Table.label_at" (C8.fnArgs sLabAt) (C8.fnBody sLabAt) (C8.fnScope sLabAt) .none kVL docL pmL anL cdL ctL), slL⟩) (cL : codeIn (dropK Pt Kz) cdL "Table.label_at" = true)
    (g1 : plainGet (dropK Pt Kz) C Str.empty = true)
    (g2 : hasDictIn (dropK Pt Kz) C = true)
    (g3 : plainOver (dropK Pt Kz) C = true)
    (g4 : findIn (dropK Pt Kz) (.ref C) "__setattr__" = some (some (.builtin "object.__setattr__")))
    (g5 : findIn (dropK Pt Kz) (.ref C) "places" = some none)
    (g6 : findIn (dropK Pt Kz) (.ref C) "labels" = some none)
    (g7 : findIn (dropK Pt Kz) (.ref C) "told" = some none)
    (g8 : findIn (dropK Pt Kz) (.ref C) "__class__" = some (some (.builtin "object.__class__")))
    (g9 : specialIn (dropK Pt Kz) (.builtin "object.__class__") "__get__" = some (some (.builtin "getset_descriptor.__get__")))
    (g10 : takesIn (dropK Pt Kz) (.builtin "object.__class__") = some true)
    (g11 : mroIn (dropK Pt Kz) C (.type "object") = some true)
    (g12 : kitOne (dropK Pt Kz) (.ref C) (.ref C) = some true)
    (g13 : makesIn (dropK Pt Kz) C = true)
    (g14 : findIn (dropK Pt Kz) (.ref C) "__init__" = some (some (.ref fI)))
    (g15 : isFn (dropK Pt Kz) (.ref fI) = true)
    (g16 : keepIn (dropK Pt Kz) (.ref C) = true)
    (g17 : findIn (dropK Pt Kz) (.ref C) "label_at" = some (some (.ref fL)))
    (g18 : isFn (dropK Pt Kz) (.ref fL) = true)
    (g19 : keepIn (dropK Pt Kz) (.ref fL) = true)
    (sL : nsIn Kz mainGlobals "LEFT" = some (some (.str (S [43]) tL)))
    (sR : nsIn Kz mainGlobals "RIGHT" = some (some (.str (S [45]) tR)))
    (sN : nsIn Kz mainGlobals "NONE" = some (some (.str (S [48]) tN)))
    (sS : nsIn Kz mainGlobals "SIGNS" = some (some (.str (S Mi.sg3) tS)))
    (sP : nsIn Kz mainGlobals "MOST_PLACES" = some (some (.int 6 tP)))
    (sM : nsIn Kz mainGlobals "MOST_LABEL" = some (some (.int 1000 tM)))
    (b0 : nsIn Kz mainGlobals "isinstance" = some none)
    (b1 : nsIn Kz mainGlobals "int" = some none)
    (b2 : nsIn Kz mainGlobals "bool" = some none)
    (b3 : nsIn Kz mainGlobals "list" = some none)
    (b4 : nsIn Kz mainGlobals "tuple" = some none)
    (b5 : nsIn Kz mainGlobals "len" = some none)
    (b6 : nsIn Kz mainGlobals "all" = some none)
    (b7 : nsIn Kz mainGlobals "dict" = some none)
    (b8 : nsIn Kz mainGlobals "zip" = some none)
    (b9 : nsIn Kz mainGlobals "abs" = some none)
    (b10 : nsIn Kz mainGlobals "sorted" = some none)
    (b11 : nsIn Kz mainGlobals "range" = some none)
    (b12 : nsIn Kz mainGlobals "min" = some none)
    (b13 : nsIn Kz mainGlobals "max" = some none)
    (b14 : nsIn Kz mainGlobals "set" = some none)
    (b15 : nsIn Kz mainGlobals "repr" = some none)
    (tN0 : tN ≠ 0) (tNn : tN < n) (n1 : 1 ≤ n) (hP : Kz.lookup Pt = some { cls := .none, data := .fields #[] }) : LawN P w mg fa h n := by
  have ef := hfa.symm.trans (PySem.W.mg_of X G z55)
  cases ef
  have mo : ∀ {x : Str} {v : Value}, nsIn Kz mainGlobals x = some (some v) → mg x = some v := fun e => PySem.W.mg_of X G e
  have mn : ∀ {x : Str}, nsIn Kz mainGlobals x = some none → mg x = none := fun e => PySem.W.mg_none_of X G e
  have T : Txt (dropK Pt Kz) mg := ⟨mn b0, mn b1, mn b2, mn b3, mn b4, mn b5, mn b6, mn b7, mn b8, mn b9, mn b10, mn b11, mn b12, mn b13, mn b14, mn b15, ⟨_, mo sL⟩, ⟨_, mo sR⟩, ⟨_, mo sN⟩, ⟨_, mo sS⟩, ⟨_, mo sP⟩, ⟨_, mo sM⟩⟩
  have CT : CTab (dropK Pt Kz) mg C := ⟨⟨g1, g2, g3, g4⟩, g5, g6, g7, mo zC, ⟨g1, g2, g3, g4⟩, g8, g9, g10, g11, g12⟩
  have at_ : ∀ {b : Addr} {oc : Value} {od : Option Addr} {fd : FuncData} {sl : Array (Option Value)}, Kz.lookup b = some ⟨oc, od, .func fd, sl⟩ → (dropK Pt Kz).lookup b = some ⟨oc, od, .func fd, sl⟩ := fun e => drop_at hP e (by intro z; cases z)
  have F7 : C8.Fun (dropK Pt Kz) "is_integer" "is_integer" (top 7) f7 (fnOf "is_integer" "is_integer" (C8.fnArgs (top 7)) (C8.fnBody (top 7)) (C8.fnScope (top 7)) .none kV7 doc7 pm7 an7 cd7 ct7) := ⟨oc7, od7, _, _, _, _, _, _, _, sl7, rfl, at_ l7, c7⟩
  have B7 := F7.binds rfl (ps := ["value"]) fun _ _ _ _ _ _ us hl => match us, hl with | [_], _ => rfl
  have D7 : C8.Def (dropK Pt Kz) mg "is_integer" (top 7) f7 _ := ⟨F7, mo z7, k7⟩
  have F8 : C8.Fun (dropK Pt Kz) "is_within" "is_within" (top 8) f8 (fnOf "is_within" "is_within" (C8.fnArgs (top 8)) (C8.fnBody (top 8)) (C8.fnScope (top 8)) .none kV8 doc8 pm8 an8 cd8 ct8) := ⟨oc8, od8, _, _, _, _, _, _, _, sl8, rfl, at_ l8, c8⟩
  have B8 := F8.binds rfl (ps := ["value", "least", "most"]) fun _ _ _ _ _ _ us hl => match us, hl with | [_, _, _], _ => rfl
  have D8 : C8.Def (dropK Pt Kz) mg "is_within" (top 8) f8 _ := ⟨F8, mo z8, k8⟩
  have F9 : C8.Fun (dropK Pt Kz) "is_list" "is_list" (top 9) f9 (fnOf "is_list" "is_list" (C8.fnArgs (top 9)) (C8.fnBody (top 9)) (C8.fnScope (top 9)) .none kV9 doc9 pm9 an9 cd9 ct9) := ⟨oc9, od9, _, _, _, _, _, _, _, sl9, rfl, at_ l9, c9⟩
  have B9 := F9.binds rfl (ps := ["value"]) fun _ _ _ _ _ _ us hl => match us, hl with | [_], _ => rfl
  have D9 : C8.Def (dropK Pt Kz) mg "is_list" (top 9) f9 _ := ⟨F9, mo z9, k9⟩
  have F16 : C8.Fun (dropK Pt Kz) "turned_sign" "turned_sign" (top 16) f16 (fnOf "turned_sign" "turned_sign" (C8.fnArgs (top 16)) (C8.fnBody (top 16)) (C8.fnScope (top 16)) .none kV16 doc16 pm16 an16 cd16 ct16) := ⟨oc16, od16, _, _, _, _, _, _, _, sl16, rfl, at_ l16, c16⟩
  have B16 := F16.binds rfl (ps := ["sign"]) fun _ _ _ _ _ _ us hl => match us, hl with | [_], _ => rfl
  have D16 : C8.Def (dropK Pt Kz) mg "turned_sign" (top 16) f16 _ := ⟨F16, mo z16, k16⟩
  have F17 : C8.Fun (dropK Pt Kz) "turned_row" "turned_row" (top 17) f17 (fnOf "turned_row" "turned_row" (C8.fnArgs (top 17)) (C8.fnBody (top 17)) (C8.fnScope (top 17)) .none kV17 doc17 pm17 an17 cd17 ct17) := ⟨oc17, od17, _, _, _, _, _, _, _, sl17, rfl, at_ l17, c17⟩
  have B17 := F17.binds rfl (ps := ["row"]) fun _ _ _ _ _ _ us hl => match us, hl with | [_], _ => rfl
  have D17 : C8.Def (dropK Pt Kz) mg "turned_row" (top 17) f17 _ := ⟨F17, mo z17, k17⟩
  have F18 : C8.Fun (dropK Pt Kz) "signs_of" "signs_of" (top 18) f18 (fnOf "signs_of" "signs_of" (C8.fnArgs (top 18)) (C8.fnBody (top 18)) (C8.fnScope (top 18)) .none kV18 doc18 pm18 an18 cd18 ct18) := ⟨oc18, od18, _, _, _, _, _, _, _, sl18, rfl, at_ l18, c18⟩
  have B18 := F18.binds rfl (ps := ["row"]) fun _ _ _ _ _ _ us hl => match us, hl with | [_], _ => rfl
  have D18 : C8.Def (dropK Pt Kz) mg "signs_of" (top 18) f18 _ := ⟨F18, mo z18, k18⟩
  have F19 : C8.Fun (dropK Pt Kz) "waves_in" "waves_in" (top 19) f19 (fnOf "waves_in" "waves_in" (C8.fnArgs (top 19)) (C8.fnBody (top 19)) (C8.fnScope (top 19)) .none kV19 doc19 pm19 an19 cd19 ct19) := ⟨oc19, od19, _, _, _, _, _, _, _, sl19, rfl, at_ l19, c19⟩
  have B19 := F19.binds rfl (ps := ["row"]) fun _ _ _ _ _ _ us hl => match us, hl with | [_], _ => rfl
  have D19 : C8.Def (dropK Pt Kz) mg "waves_in" (top 19) f19 _ := ⟨F19, mo z19, k19⟩
  have F30 : C8.Fun (dropK Pt Kz) "spelled" "spelled" (top 30) f30 (fnOf "spelled" "spelled" (C8.fnArgs (top 30)) (C8.fnBody (top 30)) (C8.fnScope (top 30)) .none kV30 doc30 pm30 an30 cd30 ct30) := ⟨oc30, od30, _, _, _, _, _, _, _, sl30, rfl, at_ l30, c30⟩
  have B30 := F30.binds rfl (ps := ["wishes"]) fun _ _ _ _ _ _ us hl => match us, hl with | [_], _ => rfl
  have D30 : C8.Def (dropK Pt Kz) mg "spelled" (top 30) f30 _ := ⟨F30, mo z30, k30⟩
  have F31 : C8.Fun (dropK Pt Kz) "all_rows" "all_rows" (top 31) f31 (fnOf "all_rows" "all_rows" (C8.fnArgs (top 31)) (C8.fnBody (top 31)) (C8.fnScope (top 31)) .none kV31 doc31 pm31 an31 cd31 ct31) := ⟨oc31, od31, _, _, _, _, _, _, _, sl31, rfl, at_ l31, c31⟩
  have B31 := F31.binds rfl (ps := ["places"]) fun _ _ _ _ _ _ us hl => match us, hl with | [_], _ => rfl
  have D31 : C8.Def (dropK Pt Kz) mg "all_rows" (top 31) f31 _ := ⟨F31, mo z31, k31⟩
  have F32 : C8.Fun (dropK Pt Kz) "begins_left" "begins_left" (top 32) f32 (fnOf "begins_left" "begins_left" (C8.fnArgs (top 32)) (C8.fnBody (top 32)) (C8.fnScope (top 32)) .none kV32 doc32 pm32 an32 cd32 ct32) := ⟨oc32, od32, _, _, _, _, _, _, _, sl32, rfl, at_ l32, c32⟩
  have B32 := F32.binds rfl (ps := ["row"]) fun _ _ _ _ _ _ us hl => match us, hl with | [_], _ => rfl
  have D32 : C8.Def (dropK Pt Kz) mg "begins_left" (top 32) f32 _ := ⟨F32, mo z32, k32⟩
  have F33 : C8.Fun (dropK Pt Kz) "told_rows" "told_rows" (top 33) f33 (fnOf "told_rows" "told_rows" (C8.fnArgs (top 33)) (C8.fnBody (top 33)) (C8.fnScope (top 33)) .none kV33 doc33 pm33 an33 cd33 ct33) := ⟨oc33, od33, _, _, _, _, _, _, _, sl33, rfl, at_ l33, c33⟩
  have B33 := F33.binds rfl (ps := ["places"]) fun _ _ _ _ _ _ us hl => match us, hl with | [_], _ => rfl
  have D33 : C8.Def (dropK Pt Kz) mg "told_rows" (top 33) f33 _ := ⟨F33, mo z33, k33⟩
  have F34 : C8.Fun (dropK Pt Kz) "many_left" "many_left" (top 34) f34 (fnOf "many_left" "many_left" (C8.fnArgs (top 34)) (C8.fnBody (top 34)) (C8.fnScope (top 34)) .none kV34 doc34 pm34 an34 cd34 ct34) := ⟨oc34, od34, _, _, _, _, _, _, _, sl34, rfl, at_ l34, c34⟩
  have B34 := F34.binds rfl (ps := ["places"]) fun _ _ _ _ _ _ us hl => match us, hl with | [_], _ => rfl
  have D34 : C8.Def (dropK Pt Kz) mg "many_left" (top 34) f34 _ := ⟨F34, mo z34, k34⟩
  have F35 : C8.Fun (dropK Pt Kz) "is_label" "is_label" (top 35) f35 (fnOf "is_label" "is_label" (C8.fnArgs (top 35)) (C8.fnBody (top 35)) (C8.fnScope (top 35)) .none kV35 doc35 pm35 an35 cd35 ct35) := ⟨oc35, od35, _, _, _, _, _, _, _, sl35, rfl, at_ l35, c35⟩
  have B35 := F35.binds rfl (ps := ["value"]) fun _ _ _ _ _ _ us hl => match us, hl with | [_], _ => rfl
  have D35 : C8.Def (dropK Pt Kz) mg "is_label" (top 35) f35 _ := ⟨F35, mo z35, k35⟩
  have F39 : C8.Fun (dropK Pt Kz) "above_in" "above_in" (top 39) f39 (fnOf "above_in" "above_in" (C8.fnArgs (top 39)) (C8.fnBody (top 39)) (C8.fnScope (top 39)) .none kV39 doc39 pm39 an39 cd39 ct39) := ⟨oc39, od39, _, _, _, _, _, _, _, sl39, rfl, at_ l39, c39⟩
  have B39 := F39.binds rfl (ps := ["row"]) fun _ _ _ _ _ _ us hl => match us, hl with | [_], _ => rfl
  have D39 : C8.Def (dropK Pt Kz) mg "above_in" (top 39) f39 _ := ⟨F39, mo z39, k39⟩
  have F40 : C8.Fun (dropK Pt Kz) "table_by" "table_by" (top 40) f40 (fnOf "table_by" "table_by" (C8.fnArgs (top 40)) (C8.fnBody (top 40)) (C8.fnScope (top 40)) .none kV40 doc40 pm40 an40 cd40 ct40) := ⟨oc40, od40, _, _, _, _, _, _, _, sl40, rfl, at_ l40, c40⟩
  have B40 := F40.binds rfl (ps := ["places", "label"]) fun _ _ _ _ _ _ us hl => match us, hl with | [_, _], _ => rfl
  have D40 : C8.Def (dropK Pt Kz) mg "table_by" (top 40) f40 _ := ⟨F40, mo z40, k40⟩
  have F41 : C8.Fun (dropK Pt Kz) "wave_table" "wave_table" (top 41) f41 (fnOf "wave_table" "wave_table" (C8.fnArgs (top 41)) (C8.fnBody (top 41)) (C8.fnScope (top 41)) .none kV41 doc41 pm41 an41 cd41 ct41) := ⟨oc41, od41, _, _, _, _, _, _, _, sl41, rfl, at_ l41, c41⟩
  have B41 := F41.binds rfl (ps := ["places"]) fun _ _ _ _ _ _ us hl => match us, hl with | [_], _ => rfl
  have D41 : C8.Def (dropK Pt Kz) mg "wave_table" (top 41) f41 _ := ⟨F41, mo z41, k41⟩
  have F43 : C8.Fun (dropK Pt Kz) "opposed_pair" "opposed_pair" (top 43) f43 (fnOf "opposed_pair" "opposed_pair" (C8.fnArgs (top 43)) (C8.fnBody (top 43)) (C8.fnScope (top 43)) .none kV43 doc43 pm43 an43 cd43 ct43) := ⟨oc43, od43, _, _, _, _, _, _, _, sl43, rfl, at_ l43, c43⟩
  have B43 := F43.binds rfl (ps := ["table"]) fun _ _ _ _ _ _ us hl => match us, hl with | [_], _ => rfl
  have D43 : C8.Def (dropK Pt Kz) mg "opposed_pair" (top 43) f43 _ := ⟨F43, mo z43, k43⟩
  have F44 : C8.Fun (dropK Pt Kz) "amounts_of" "amounts_of" (top 44) f44 (fnOf "amounts_of" "amounts_of" (C8.fnArgs (top 44)) (C8.fnBody (top 44)) (C8.fnScope (top 44)) .none kV44 doc44 pm44 an44 cd44 ct44) := ⟨oc44, od44, _, _, _, _, _, _, _, sl44, rfl, at_ l44, c44⟩
  have B44 := F44.binds rfl (ps := ["table"]) fun _ _ _ _ _ _ us hl => match us, hl with | [_], _ => rfl
  have D44 : C8.Def (dropK Pt Kz) mg "amounts_of" (top 44) f44 _ := ⟨F44, mo z44, k44⟩
  have F46 : C8.Fun (dropK Pt Kz) "_law_crowd" "_law_crowd" (top 46) f46 (fnOf "_law_crowd" "_law_crowd" (C8.fnArgs (top 46)) (C8.fnBody (top 46)) (C8.fnScope (top 46)) .none kV46 doc46 pm46 an46 cd46 ct46) := ⟨oc46, od46, _, _, _, _, _, _, _, sl46, rfl, at_ l46, c46⟩
  have B46 := F46.binds rfl (ps := ["_law_script"]) fun _ _ _ _ _ _ us hl => match us, hl with | [_], _ => rfl
  have D46 : C8.Def (dropK Pt Kz) mg "_law_crowd" (top 46) f46 _ := ⟨F46, mo z46, k46⟩
  have F47 : C8.Fun (dropK Pt Kz) "_law_head" "_law_head" (top 47) f47 (fnOf "_law_head" "_law_head" (C8.fnArgs (top 47)) (C8.fnBody (top 47)) (C8.fnScope (top 47)) .none kV47 doc47 pm47 an47 cd47 ct47) := ⟨oc47, od47, _, _, _, _, _, _, _, sl47, rfl, at_ l47, c47⟩
  have B47 := F47.binds rfl (ps := ["_law_crowd_here", "_law_many"]) fun _ _ _ _ _ _ us hl => match us, hl with | [_, _], _ => rfl
  have D47 : C8.Def (dropK Pt Kz) mg "_law_head" (top 47) f47 _ := ⟨F47, mo z47, k47⟩
  have F48 : C8.Fun (dropK Pt Kz) "_law_hat" "_law_hat" (top 48) f48 (fnOf "_law_hat" "_law_hat" (C8.fnArgs (top 48)) (C8.fnBody (top 48)) (C8.fnScope (top 48)) .none kV48 doc48 pm48 an48 cd48 ct48) := ⟨oc48, od48, _, _, _, _, _, _, _, sl48, rfl, at_ l48, c48⟩
  have B48 := F48.binds rfl (ps := ["_law_crowd_here", "_law_some"]) fun _ _ _ _ _ _ us hl => match us, hl with | [_, _], _ => rfl
  have D48 : C8.Def (dropK Pt Kz) mg "_law_hat" (top 48) f48 _ := ⟨F48, mo z48, k48⟩
  have F49 : C8.Fun (dropK Pt Kz) "_law_rows" "_law_rows" (top 49) f49 (fnOf "_law_rows" "_law_rows" (C8.fnArgs (top 49)) (C8.fnBody (top 49)) (C8.fnScope (top 49)) .none kV49 doc49 pm49 an49 cd49 ct49) := ⟨oc49, od49, _, _, _, _, _, _, _, sl49, rfl, at_ l49, c49⟩
  have B49 := F49.binds rfl (ps := ["_law_places"]) fun _ _ _ _ _ _ us hl => match us, hl with | [_], _ => rfl
  have D49 : C8.Def (dropK Pt Kz) mg "_law_rows" (top 49) f49 _ := ⟨F49, mo z49, k49⟩
  have F50 : C8.Fun (dropK Pt Kz) "_law_told" "_law_told" (top 50) f50 (fnOf "_law_told" "_law_told" (C8.fnArgs (top 50)) (C8.fnBody (top 50)) (C8.fnScope (top 50)) .none kV50 doc50 pm50 an50 cd50 ct50) := ⟨oc50, od50, _, _, _, _, _, _, _, sl50, rfl, at_ l50, c50⟩
  have B50 := F50.binds rfl (ps := ["_law_places"]) fun _ _ _ _ _ _ us hl => match us, hl with | [_], _ => rfl
  have D50 : C8.Def (dropK Pt Kz) mg "_law_told" (top 50) f50 _ := ⟨F50, mo z50, k50⟩
  have F51 : C8.Fun (dropK Pt Kz) "_law_opposite" "_law_opposite" (top 51) f51 (fnOf "_law_opposite" "_law_opposite" (C8.fnArgs (top 51)) (C8.fnBody (top 51)) (C8.fnScope (top 51)) .none kV51 doc51 pm51 an51 cd51 ct51) := ⟨oc51, od51, _, _, _, _, _, _, _, sl51, rfl, at_ l51, c51⟩
  have B51 := F51.binds rfl (ps := ["_law_row"]) fun _ _ _ _ _ _ us hl => match us, hl with | [_], _ => rfl
  have D51 : C8.Def (dropK Pt Kz) mg "_law_opposite" (top 51) f51 _ := ⟨F51, mo z51, k51⟩
  have F52 : C8.Fun (dropK Pt Kz) "_law_label" "_law_label" (top 52) f52 (fnOf "_law_label" "_law_label" (C8.fnArgs (top 52)) (C8.fnBody (top 52)) (C8.fnScope (top 52)) .none kV52 doc52 pm52 an52 cd52 ct52) := ⟨oc52, od52, _, _, _, _, _, _, _, sl52, rfl, at_ l52, c52⟩
  have B52 := F52.binds rfl (ps := ["_law_table", "_law_row"]) fun _ _ _ _ _ _ us hl => match us, hl with | [_, _], _ => rfl
  have D52 : C8.Def (dropK Pt Kz) mg "_law_label" (top 52) f52 _ := ⟨F52, mo z52, k52⟩
  have F53 : C8.Fun (dropK Pt Kz) "_law_is_below" "_law_is_below" (top 53) f53 (fnOf "_law_is_below" "_law_is_below" (C8.fnArgs (top 53)) (C8.fnBody (top 53)) (C8.fnScope (top 53)) .none kV53 doc53 pm53 an53 cd53 ct53) := ⟨oc53, od53, _, _, _, _, _, _, _, sl53, rfl, at_ l53, c53⟩
  have B53 := F53.binds rfl (ps := ["_law_one", "_law_other"]) fun _ _ _ _ _ _ us hl => match us, hl with | [_, _], _ => rfl
  have D53 : C8.Def (dropK Pt Kz) mg "_law_is_below" (top 53) f53 _ := ⟨F53, mo z53, k53⟩
  have F54 : C8.Fun (dropK Pt Kz) "_law_few" "_law_few" (top 54) f54 (fnOf "_law_few" "_law_few" (C8.fnArgs (top 54)) (C8.fnBody (top 54)) (C8.fnScope (top 54)) .none kV54 doc54 pm54 an54 cd54 ct54) := ⟨oc54, od54, _, _, _, _, _, _, _, sl54, rfl, at_ l54, c54⟩
  have B54 := F54.binds rfl (ps := ["_law_crowd_here", "_law_places", "_law_rows_here"]) fun _ _ _ _ _ _ us hl => match us, hl with | [_, _, _], _ => rfl
  have D54 : C8.Def (dropK Pt Kz) mg "_law_few" (top 54) f54 _ := ⟨F54, mo z54, k54⟩
  have F10 : C8.Fun (dropK Pt Kz) "need_number" "need_number" (top 10) f10 (fnOf "need_number" "need_number" (C8.fnArgs (top 10)) (C8.fnBody (top 10)) (C8.fnScope (top 10)) (.ref T10) kV10 doc10 pm10 an10 cd10 ct10) := ⟨oc10, od10, _, _, _, _, _, _, _, sl10, rfl, at_ l10, c10⟩
  have D10 : C8.Def (dropK Pt Kz) mg "need_number" (top 10) f10 _ := ⟨F10, mo z10, k10⟩
  have E10 : FunD (dropK Pt Kz) "need_number" "need_number" (C8.fnArgs (top 10)) (C8.fnBody (top 10)) (C8.fnScope (top 10)) [.non, .non] [] f10 (fnOf "need_number" "need_number" (C8.fnArgs (top 10)) (C8.fnBody (top 10)) (C8.fnScope (top 10)) (.ref T10) kV10 doc10 pm10 an10 cd10 ct10) :=
    ⟨⟨oc10, od10, _, _, _, _, _, _, _, sl10, rfl, at_ l10, c10, .inr ⟨(by intro z; cases z), T10, _, _, n10, rfl, drop_at hP t10 (by intro z; cases z), rfl, .cons rfl (.cons rfl .nil)⟩, .inl rfl⟩, k10⟩
  obtain ⟨ds10, V10, B10⟩ := E10.binds1 (ps := ["value", "part", "least", "most"]) 4 2 (by intro z; cases z) rfl fun T kV doc pm an cdv ct us its h1 h2 => match us, its, h1, h2 with | [_, _, _, _], [_, _], _, _ => ⟨_, rfl, rfl⟩
  have F38 : C8.Fun (dropK Pt Kz) "need_table" "need_table" (top 38) f38 (fnOf "need_table" "need_table" (C8.fnArgs (top 38)) (C8.fnBody (top 38)) (C8.fnScope (top 38)) (.ref T38) kV38 doc38 pm38 an38 cd38 ct38) := ⟨oc38, od38, _, _, _, _, _, _, _, sl38, rfl, at_ l38, c38⟩
  have D38 : C8.Def (dropK Pt Kz) mg "need_table" (top 38) f38 _ := ⟨F38, mo z38, k38⟩
  have E38 : FunD (dropK Pt Kz) "need_table" "need_table" (C8.fnArgs (top 38)) (C8.fnBody (top 38)) (C8.fnScope (top 38)) [.str "table"] [] f38 (fnOf "need_table" "need_table" (C8.fnArgs (top 38)) (C8.fnBody (top 38)) (C8.fnScope (top 38)) (.ref T38) kV38 doc38 pm38 an38 cd38 ct38) :=
    ⟨⟨oc38, od38, _, _, _, _, _, _, _, sl38, rfl, at_ l38, c38, .inr ⟨(by intro z; cases z), T38, _, _, n38, rfl, drop_at hP t38 (by intro z; cases z), rfl, .cons ⟨_, rfl⟩ .nil⟩, .inl rfl⟩, k38⟩
  obtain ⟨ds38, V38, B38⟩ := E38.binds1 (ps := ["value", "part"]) 1 0 (by intro z; cases z) rfl fun T kV doc pm an cdv ct us its h1 h2 => match us, its, h1, h2 with | [_], [_], _, _ => ⟨_, rfl, rfl⟩
  cases V10
  have FI : C8.Fun (dropK Pt Kz) "__init__" "Table.__init__" sInit fI (fnOf "__init__" "Table.__init__" (C8.fnArgs sInit) (C8.fnBody sInit) (C8.fnScope sInit) .none kVI docI pmI anI cdI ctI) := ⟨ocI, odI, _, _, _, _, _, _, _, slI, rfl, at_ lI, cI⟩
  have BI := FI.binds rfl (ps := ["self", "places", "labels"]) fun _ _ _ _ _ _ us hl => match us, hl with | [_, _, _], _ => rfl
  have FL : C8.Fun (dropK Pt Kz) "label_at" "Table.label_at" sLabAt fL (fnOf "label_at" "Table.label_at" (C8.fnArgs sLabAt) (C8.fnBody sLabAt) (C8.fnScope sLabAt) .none kVL docL pmL anL cdL ctL) := ⟨ocL, odL, _, _, _, _, _, _, _, slL, rfl, at_ lL, cL⟩
  have BL := FL.binds rfl (ps := ["self", "row"]) fun _ _ _ _ _ _ us hl => match us, hl with | [_, _], _ => rfl
  have F42 : C8.Fun (dropK Pt Kz) "place_table" "place_table" (top 42) f42 (fnOf "place_table" "place_table" (C8.fnArgs (top 42)) (C8.fnBody (top 42)) (C8.fnScope (top 42)) .none kV42 doc42 pm42 an42 (.ref c42) ct42) := ⟨oc42, od42, _, _, _, _, _, _, _, sl42, rfl, at_ l42, q42⟩
  have B42 := F42.binds rfl (ps := ["places"]) fun _ _ _ _ _ _ us hl => match us, hl with | [_], _ => rfl
  refine ⟨dropK Pt Kz, c42, Pt, drop_in X, drop_none Pt Kz, X _ _ hP, PySem.W.codeHd_of_K X h42, fun base KB GB TB s H a ns hn h63 hHP hS e0 => ?_⟩
  have cInt : C8.Cal P w (dropK Pt Kz) mg base 1 "is_integer" spInt [] := ok_int T D7 B7
  have cWithin : C8.Cal P w (dropK Pt Kz) mg base 2 "is_within" spWithin [] := ok_within D8 B8 cInt
  have cList : C8.Cal P w (dropK Pt Kz) mg base 1 "is_list" (spIsList (dropK Pt Kz)) [] := ok_list T D9 B9
  have cNeedN : C8.Cal P w (dropK Pt Kz) mg base 3 "need_number" spNeedN [] := ok_needN D10 B10 cWithin
  have cTS : C8.Cal P w (dropK Pt Kz) mg base 1 "turned_sign" spTS [] := ok_ts T D16 B16
  have cTR : C8.Cal P w (dropK Pt Kz) mg base 2 "turned_row" spTR [] := ok_tr T D17 B17 cTS
  have cSig : CalN n P w (dropK Pt Kz) mg base 1 "signs_of" spSigns [] := ok_signs (mo sN) tN0 tNn D18 B18
  have aWav : AtN n P w (dropK Pt Kz) mg base 2 f19 spWaves := ⟨_, _, ok_waves T D19 B19 cSig, k19, B19⟩
  have cSp : C8.Cal P w (dropK Pt Kz) mg base 1 "spelled" spSpell [] := ok_spell T D30 B30
  have cAll : C8.Cal P w (dropK Pt Kz) mg base 2 "all_rows" spAll [] := ok_all T D31 B31 cSp
  have cBL : CalN n P w (dropK Pt Kz) mg base 2 "begins_left" spBL [] := ok_bl T D32 B32 cSig
  have cTold : CalN n P w (dropK Pt Kz) mg base 3 "told_rows" spTold [] := ok_told T D33 B33 cAll cBL
  have cMany : CalN n P w (dropK Pt Kz) mg base 4 "many_left" spMany [] := ok_many T D34 B34 cTold
  have cLabel : C8.Cal P w (dropK Pt Kz) mg base 3 "is_label" spLabel [] := ok_label T D35 B35 cWithin
  have mT : MakN n P w (dropK Pt Kz) mg base 5 "Table" C (spInit C) := ⟨fI, _, _, ⟨g13, g14, g15, g16⟩, ok_init T CT FI BI cNeedN cList cMany cLabel cTold, mo zC, BI⟩
  have mL : MetN n P w (dropK Pt Kz) mg base 3 C "label_at" (spLabAt C) := ⟨fL, _, _, CT.cl, ⟨g17, g18, g19⟩, ok_labAt T CT FL BL cBL cTR, BL⟩
  have cNeedT : C8.Cal P w (dropK Pt Kz) mg base 1 "need_table" (spNeedT C) [.str "table"] := ok_needT T CT D38 B38 V38
  have cAbove : C8.Cal P w (dropK Pt Kz) mg base 2 "above_in" spAbove [] := ok_above T D39 B39 cSp
  have cTabBy : CalN n P w (dropK Pt Kz) mg base 7 "table_by" (spTabBy C f19) [] := ok_tabBy T D40 B40 cNeedN mT cTold aWav
  have fW := ok_wtab (P := P) (w := w) (base := base) (mo z19) D41 B41 cTabBy
  have fP := ok_ptab (P := P) (w := w) (base := base) T (at_ l42) q42 TB cTabBy
  have aW : AtN n P w (dropK Pt Kz) mg base 8 f41 (spWTab C) := ⟨_, _, fW, k41, B41⟩
  have aP : AtN n P w (dropK Pt Kz) mg base 8 f42 (spPTab C [(Pt, lq)]) := ⟨_, _, fP, k42, B42⟩
  have cOpp : CalN n P w (dropK Pt Kz) mg base 4 "opposed_pair" (spOpp C) [] := ok_opp CT D43 B43 cNeedT cAll cAbove mL
  have fA := fnOk_am (P := P) (w := w) (base := base) T CT D44 cNeedT
  have cHead : C8.Cal P w (dropK Pt Kz) mg base 1 "_law_head" spHead [] := ok_head T D47 B47
  have cHat : C8.Cal P w (dropK Pt Kz) mg base 2 "_law_hat" (spHat (dropK Pt Kz)) [] := ok_hat T D48 B48 cHead
  have cRows : C8.Cal P w (dropK Pt Kz) mg base 1 "_law_rows" spAll [] := ok_lrows T D49 B49
  have cOppo : C8.Cal P w (dropK Pt Kz) mg base 1 "_law_opposite" spTR [] := ok_oppo D51 B51
  have L : LCalls n P w (dropK Pt Kz) mg base C [(Pt, lq)] := ⟨ok_crowd T D46 B46, cHead, cHat, ok_ltold n1 D50 B50 cRows, ok_few T CT n1 (mo z41) (mo z42) aW aP D54 B54 cHead cHat, mT,
    ⟨f44, _, fA, mo z44, k44, B44, ⟨fun s us ws _ hl => match us, ws, hl with
      | [], [_], _ => .of_eq rfl
      | [_], [], _ => .of_eq rfl, fun r1 r2 => r1.append r2⟩⟩, cOpp, ok_below T D53 B53, ok_llab D52 B52 cOppo, ⟨f41, _, _, [], fW, mo z41, k41, B41, .nil⟩⟩
  have hT : Tabs [(Pt, lq)] H := fun p hp => by
    rw [List.mem_singleton.mp hp]
    exact TabS.nil hHP
  have hr : Room 11 callerA := ⟨rfl, by decide, by decide⟩
  exact run_ofN (N := NLaw) (ps := ["_law_script"]) (us := [.ref a]) (vs := [.ref a]) (at_ l55) c55 scLaw rfl hn hr e0 (.of_eq rfl) (.cons rfl .nil) fun hr' => law_body (Q := fun v _ => v = .bl true) (E := C8.E0) (outer := []) T CT L hr' rfl hS h63 hT fun _ => rfl
end My
set_option Elab.async false
set_option maxRecDepth 100000
open PySem PySem.W PyProof.Rows in
set_option maxRecDepth 100000 in
set_option maxHeartbeats 0 in
theorem PySem.Challenge.cw_roomstair_k12_whole_few_amounts_oppose_holds : PySem.Challenge.rw_roomstair_k12_whole_few_amounts_oppose.Holds := by
  w_on; o_law; z_head; (case hw => w_witness2)
  k_fill
  refine My.walkX (l := PySem.Challenge.rw_roomstair_k12_whole_few_amounts_oppose) rfl rfl (fun _ => by kernel_rfl) ?F
  case F =>
    intro w mg fa h KX G hmg
    refine' My.all_law (Pt := 363) KX G hmg ?z7 ?l7 ?c7 ?k7 ?z8 ?l8 ?c8 ?k8 ?z9 ?l9 ?c9 ?k9 ?z16 ?l16 ?c16 ?k16 ?z17 ?l17 ?c17 ?k17 ?z18 ?l18 ?c18 ?k18 ?z19 ?l19 ?c19 ?k19 ?z30 ?l30 ?c30 ?k30 ?z31 ?l31 ?c31 ?k31 ?z32 ?l32 ?c32 ?k32 ?z33 ?l33 ?c33 ?k33 ?z34 ?l34 ?c34 ?k34 ?z35 ?l35 ?c35 ?k35 ?z39 ?l39 ?c39 ?k39 ?z40 ?l40 ?c40 ?k40 ?z41 ?l41 ?c41 ?k41 ?z43 ?l43 ?c43 ?k43 ?z44 ?l44 ?c44 ?k44 ?z46 ?l46 ?c46 ?k46 ?z47 ?l47 ?c47 ?k47 ?z48 ?l48 ?c48 ?k48 ?z49 ?l49 ?c49 ?k49 ?z50 ?l50 ?c50 ?k50 ?z51 ?l51 ?c51 ?k51 ?z52 ?l52 ?c52 ?k52 ?z53 ?l53 ?c53 ?k53 ?z54 ?l54 ?c54 ?k54 ?z10 ?l10 ?t10 ?c10 ?k10 ?z38 ?l38 ?t38 ?c38 ?k38 ?z42 ?l42 ?q42 ?k42 ?h42 ?z55 ?l55 ?c55 ?zC ?yI ?yL ?lI ?cI ?lL ?cL ?g1 ?g2 ?g3 ?g4 ?g5 ?g6 ?g7 ?g8 ?g9 ?g10 ?g11 ?g12 ?g13 ?g14 ?g15 ?g16 ?g17 ?g18 ?g19 ?sL ?sR ?sN ?sS ?sP ?sM ?b0 ?b1 ?b2 ?b3 ?b4 ?b5 ?b6 ?b7 ?b8 ?b9 ?b10 ?b11 ?b12 ?b13 ?b14 ?b15 ?tN0 ?tNn ?n1 ?hP
    (case z7 => k_is)
    (case l7 => k_is)
    (case z8 => k_is)
    (case l8 => k_is)
    (case z9 => k_is)
    (case l9 => k_is)
    (case z16 => k_is)
    (case l16 => k_is)
    (case z17 => k_is)
    (case l17 => k_is)
    (case z18 => k_is)
    (case l18 => k_is)
    (case z19 => k_is)
    (case l19 => k_is)
    (case z30 => k_is)
    (case l30 => k_is)
    (case z31 => k_is)
    (case l31 => k_is)
    (case z32 => k_is)
    (case l32 => k_is)
    (case z33 => k_is)
    (case l33 => k_is)
    (case z34 => k_is)
    (case l34 => k_is)
    (case z35 => k_is)
    (case l35 => k_is)
    (case z39 => k_is)
    (case l39 => k_is)
    (case z40 => k_is)
    (case l40 => k_is)
    (case z41 => k_is)
    (case l41 => k_is)
    (case z43 => k_is)
    (case l43 => k_is)
    (case z44 => k_is)
    (case l44 => k_is)
    (case z46 => k_is)
    (case l46 => k_is)
    (case z47 => k_is)
    (case l47 => k_is)
    (case z48 => k_is)
    (case l48 => k_is)
    (case z49 => k_is)
    (case l49 => k_is)
    (case z50 => k_is)
    (case l50 => k_is)
    (case z51 => k_is)
    (case l51 => k_is)
    (case z52 => k_is)
    (case l52 => k_is)
    (case z53 => k_is)
    (case l53 => k_is)
    (case z54 => k_is)
    (case l54 => k_is)
    (case z10 => k_is)
    (case l10 => k_is)
    (case t10 => k_is)
    (case z38 => k_is)
    (case l38 => k_is)
    (case t38 => k_is)
    (case z42 => k_is)
    (case l42 => k_is)
    (case z55 => k_is)
    (case l55 => k_is)
    (case zC => k_is)
    (case yI => k_is)
    (case yL => k_is)
    (case lI => k_is)
    (case lL => k_is)
    (case sL => k_is)
    (case sR => k_is)
    (case sN => k_is)
    (case sS => k_is)
    (case sP => k_is)
    (case sM => k_is)
    (case b0 => k_is)
    (case b1 => k_is)
    (case b2 => k_is)
    (case b3 => k_is)
    (case b4 => k_is)
    (case b5 => k_is)
    (case b6 => k_is)
    (case b7 => k_is)
    (case b8 => k_is)
    (case b9 => k_is)
    (case b10 => k_is)
    (case b11 => k_is)
    (case b12 => k_is)
    (case b13 => k_is)
    (case b14 => k_is)
    (case b15 => k_is)
    (case hP => k_is)
    (case c7 => kernel_rfl)
    (case k7 => kernel_rfl)
    (case c8 => kernel_rfl)
    (case k8 => kernel_rfl)
    (case c9 => kernel_rfl)
    (case k9 => kernel_rfl)
    (case c16 => kernel_rfl)
    (case k16 => kernel_rfl)
    (case c17 => kernel_rfl)
    (case k17 => kernel_rfl)
    (case c18 => kernel_rfl)
    (case k18 => kernel_rfl)
    (case c19 => kernel_rfl)
    (case k19 => kernel_rfl)
    (case c30 => kernel_rfl)
    (case k30 => kernel_rfl)
    (case c31 => kernel_rfl)
    (case k31 => kernel_rfl)
    (case c32 => kernel_rfl)
    (case k32 => kernel_rfl)
    (case c33 => kernel_rfl)
    (case k33 => kernel_rfl)
    (case c34 => kernel_rfl)
    (case k34 => kernel_rfl)
    (case c35 => kernel_rfl)
    (case k35 => kernel_rfl)
    (case c39 => kernel_rfl)
    (case k39 => kernel_rfl)
    (case c40 => kernel_rfl)
    (case k40 => kernel_rfl)
    (case c41 => kernel_rfl)
    (case k41 => kernel_rfl)
    (case c43 => kernel_rfl)
    (case k43 => kernel_rfl)
    (case c44 => kernel_rfl)
    (case k44 => kernel_rfl)
    (case c46 => kernel_rfl)
    (case k46 => kernel_rfl)
    (case c47 => kernel_rfl)
    (case k47 => kernel_rfl)
    (case c48 => kernel_rfl)
    (case k48 => kernel_rfl)
    (case c49 => kernel_rfl)
    (case k49 => kernel_rfl)
    (case c50 => kernel_rfl)
    (case k50 => kernel_rfl)
    (case c51 => kernel_rfl)
    (case k51 => kernel_rfl)
    (case c52 => kernel_rfl)
    (case k52 => kernel_rfl)
    (case c53 => kernel_rfl)
    (case k53 => kernel_rfl)
    (case c54 => kernel_rfl)
    (case k54 => kernel_rfl)
    (case c10 => kernel_rfl)
    (case k10 => kernel_rfl)
    (case c38 => kernel_rfl)
    (case k38 => kernel_rfl)
    (case q42 => kernel_rfl)
    (case k42 => kernel_rfl)
    (case h42 => kernel_rfl)
    (case c55 => kernel_rfl)
    (case cI => kernel_rfl)
    (case cL => kernel_rfl)
    (case g1 => kernel_rfl)
    (case g2 => kernel_rfl)
    (case g3 => kernel_rfl)
    (case g4 => kernel_rfl)
    (case g5 => kernel_rfl)
    (case g6 => kernel_rfl)
    (case g7 => kernel_rfl)
    (case g8 => kernel_rfl)
    (case g9 => kernel_rfl)
    (case g10 => kernel_rfl)
    (case g11 => kernel_rfl)
    (case g12 => kernel_rfl)
    (case g13 => kernel_rfl)
    (case g14 => kernel_rfl)
    (case g15 => kernel_rfl)
    (case g16 => kernel_rfl)
    (case g17 => kernel_rfl)
    (case g18 => kernel_rfl)
    (case g19 => kernel_rfl)
    (case tN0 => decide)
    (case tNn => decide)
    (case n1 => decide)
