import PyProof.Rows.All
import Wide.All
import OpenK.AllK
import Wide.FinOn
import KE.KStateDown
import KE.KDictZip
import KE.KItemsList
import HandS.ForMost
import HandS.Defaults
import HandS.Exc
import HandS.More
import HandS.WordsExc
import HandS.IsInst
import HandS.Style
import HandS.Codes
import HandS.Evl
import HandS.TupLen
import HandS.NoneIn
import HandS.Head0
import HandS.Head1
import HandS.Head2
import HandS.HeadEnd
import HandS.HeadHook1
import HandS.HeadHook2
import HandS.TryOnly
import HandS.ExcOwn
import HandS.SetFor
import HandS.Walk
import HandS.Conv
import HandS.Deep
import PySem.Challenge.RW_mirrorsums_k32_whole_again_and_shared
set_option Elab.async false
set_option linter.all false
set_option maxRecDepth 100000
set_option maxHeartbeats 4000000
namespace Mir
/-! ## figures, least place first -/
def dg (b : Nat) : Nat → Nat → List Nat
  | 0, n => [n % b]
  | f + 1, n => if n < b then [n % b] else (n % b) :: dg b f (n / b)
def dl (b n : Nat) : List Nat := dg b n n
/-- value, least place first -/
def vl (b : Nat) : List Nat → Nat
  | [] => 0
  | d :: r => d + b * vl b r
/-- value, greatest place first -/
def vg (b : Nat) (l : List Nat) : Nat := l.foldl (fun n f => n * b + f) 0
def ln (b n : Nat) : Nat := (dl b n).length
def pal (b n : Nat) : Bool := decide (dl b n = (dl b n).reverse)

theorem dg_fuel {b : Nat} (hb : 2 ≤ b) : ∀ (f g n : Nat), n ≤ f → n ≤ g → dg b f n = dg b g n
  | 0, 0, n, _, _ => rfl
  | 0, g + 1, n, h, _ => by
    have e : n = 0 := by omega
    subst e
    show [0 % b] = if 0 < b then [0 % b] else _
    rw [if_pos (by omega)]
  | f + 1, 0, n, _, h => by
    have e : n = 0 := by omega
    subst e
    show (if 0 < b then [0 % b] else _) = [0 % b]
    rw [if_pos (by omega)]
  | f + 1, g + 1, n, h1, h2 => by
    show (if n < b then [n % b] else (n % b) :: dg b f (n / b)) = (if n < b then [n % b] else (n % b) :: dg b g (n / b))
    by_cases c : n < b
    · rw [if_pos c, if_pos c]
    · rw [if_neg c, if_neg c]
      have : n / b < n := Nat.div_lt_self (by omega) hb
      rw [dg_fuel hb f g (n / b) (by omega) (by omega)]
theorem dl_small {b n : Nat} (h : n < b) : dl b n = [n] := by
  unfold dl
  cases n with
  | zero => show [0 % b] = [0]; simp
  | succ k =>
    show (if k + 1 < b then [(k + 1) % b] else _) = [k + 1]
    rw [if_pos h, Nat.mod_eq_of_lt h]
theorem dl_big {b n : Nat} (hb : 2 ≤ b) (h : b ≤ n) : dl b n = (n % b) :: dl b (n / b) := by
  unfold dl
  cases n with
  | zero => omega
  | succ k =>
    show (if k + 1 < b then [(k + 1) % b] else ((k + 1) % b) :: dg b k ((k + 1) / b)) = _
    rw [if_neg (by omega)]
    have : (k + 1) / b < k + 1 := Nat.div_lt_self (by omega) hb
    rw [dg_fuel hb k ((k + 1) / b) _ (by omega) (Nat.le_refl _)]

theorem vl_append (b : Nat) : ∀ xs ys : List Nat, vl b (xs ++ ys) = vl b xs + b ^ xs.length * vl b ys
  | [], ys => by simp [vl]
  | x :: r, ys => by
    show x + b * vl b (r ++ ys) = x + b * vl b r + b ^ (r.length + 1) * vl b ys
    rw [vl_append b r ys, Nat.mul_add, Nat.pow_succ, Nat.mul_comm (b ^ r.length) b, Nat.mul_assoc]
    omega
theorem vl_lt {b : Nat} : ∀ {xs : List Nat}, (∀ d ∈ xs, d < b) → vl b xs < b ^ xs.length
  | [], _ => by simp [vl]
  | x :: r, h => by
    have h1 : x < b := h x List.mem_cons_self
    have h2 := vl_lt (xs := r) fun d hd => h d (List.mem_cons_of_mem _ hd)
    show x + b * vl b r < b ^ (r.length + 1)
    rw [Nat.pow_succ, Nat.mul_comm _ b]
    have h3 : b * (vl b r + 1) ≤ b * b ^ r.length := Nat.mul_le_mul_left b h2
    rw [Nat.mul_add] at h3
    omega
theorem vg_fold (b : Nat) : ∀ (xs : List Nat) (a : Nat), xs.foldl (fun n f => n * b + f) a = a * b ^ xs.length + vl b xs.reverse
  | [], a => by simp [vl]
  | x :: r, a => by
    show r.foldl (fun n f => n * b + f) (a * b + x) = _
    rw [vg_fold b r (a * b + x), List.reverse_cons, vl_append, List.length_reverse]
    show _ = a * b ^ (r.length + 1) + (vl b r.reverse + b ^ r.length * (x + b * 0))
    rw [Nat.add_mul, Nat.pow_succ, Nat.mul_comm (b ^ r.length) b, ← Nat.mul_assoc, Nat.mul_zero, Nat.add_zero, Nat.mul_comm x]
    omega
theorem vg_eq (b : Nat) (xs : List Nat) : vg b xs = vl b xs.reverse := by
  unfold vg
  rw [vg_fold b xs 0]
  omega

theorem dl_lt {b : Nat} (hb : 2 ≤ b) (n : Nat) : ∀ d ∈ dl b n, d < b := by
  induction n using Nat.strongRecOn with
  | ind n ih =>
    by_cases c : n < b
    · rw [dl_small c]
      intro d hd
      have : d = n := by simpa using hd
      omega
    · rw [dl_big hb (by omega)]
      intro d hd
      rcases List.mem_cons.mp hd with e | e
      · rw [e]
        exact Nat.mod_lt _ (by omega)
      · exact ih (n / b) (Nat.div_lt_self (by omega) hb) d e
theorem dl_val {b : Nat} (hb : 2 ≤ b) (n : Nat) : vl b (dl b n) = n := by
  induction n using Nat.strongRecOn with
  | ind n ih =>
    by_cases c : n < b
    · rw [dl_small c]
      show n + b * 0 = n
      omega
    · rw [dl_big hb (by omega)]
      show n % b + b * vl b (dl b (n / b)) = n
      rw [ih (n / b) (Nat.div_lt_self (by omega) hb)]
      exact Nat.mod_add_div n b
theorem dl_ne {b : Nat} (hb : 2 ≤ b) (n : Nat) : dl b n ≠ [] := by
  by_cases c : n < b
  · rw [dl_small c]; simp
  · rw [dl_big hb (by omega)]; simp
theorem ln_pos {b : Nat} (hb : 2 ≤ b) (n : Nat) : 1 ≤ ln b n := by
  have := dl_ne hb n
  unfold ln
  cases h : dl b n with
  | nil => exact absurd h this
  | cons x r => simp
/-- of a list of figures whose greatest place isn't 0 -/
theorem dl_of {b : Nat} (hb : 2 ≤ b) : ∀ {xs : List Nat}, xs ≠ [] → (∀ d ∈ xs, d < b) → (xs.length = 1 ∨ 1 ≤ xs.getLast?.getD 0) → dl b (vl b xs) = xs
  | [], h, _, _ => absurd rfl h
  | [d], _, h, _ => by
    show dl b (d + b * 0) = [d]
    rw [Nat.mul_zero, Nat.add_zero]
    exact dl_small (h d List.mem_cons_self)
  | d :: e :: r, _, h, hl => by
    have hd : d < b := h d List.mem_cons_self
    have hl2 : 1 ≤ (e :: r).getLast?.getD 0 := by
      rcases hl with q | q
      · simp at q
      · rw [List.getLast?_cons_cons] at q
        exact q
    have ih := dl_of hb (xs := e :: r) (by simp) (fun x hx => h x (List.mem_cons_of_mem _ hx)) (.inr hl2)
    have hp : 1 ≤ vl b (e :: r) := by
      cases hv : vl b (e :: r) with
      | succ k => omega
      | zero =>
        rw [hv, dl_small (by omega)] at ih
        rw [← ih] at hl2
        simp at hl2
    show dl b (d + b * vl b (e :: r)) = _
    have hge : b ≤ d + b * vl b (e :: r) := by
      have : b * 1 ≤ b * vl b (e :: r) := Nat.mul_le_mul_left b hp
      omega
    rw [dl_big hb hge, Nat.add_mul_mod_self_left, Nat.mod_eq_of_lt hd, Nat.add_mul_div_left _ _ (by omega), Nat.div_eq_of_lt hd, Nat.zero_add, ih]
/-- the greatest place of a number above 0 isn't 0 -/
theorem dl_last {b : Nat} (hb : 2 ≤ b) {n : Nat} (h : 1 ≤ n) : 1 ≤ (dl b n).getLast?.getD 0 := by
  induction n using Nat.strongRecOn with
  | ind n ih =>
    by_cases c : n < b
    · rw [dl_small c]
      simpa using h
    · rw [dl_big hb (by omega)]
      have hq : 1 ≤ n / b := (Nat.le_div_iff_mul_le (by omega)).mpr (by omega)
      have q := ih (n / b) (Nat.div_lt_self (by omega) hb) hq
      cases e : dl b (n / b) with
      | nil => exact absurd e (dl_ne hb _)
      | cons x r =>
        rw [e] at q
        rw [List.getLast?_cons_cons]
        exact q
theorem lt_pow_ln {b : Nat} (hb : 2 ≤ b) (n : Nat) : n < b ^ ln b n := by
  have h := vl_lt (b := b) (dl_lt hb n)
  rw [dl_val hb] at h
  exact h
theorem pow_ln_le {b : Nat} (hb : 2 ≤ b) {n : Nat} (h : 1 ≤ n) : b ^ (ln b n - 1) ≤ n := by
  induction n using Nat.strongRecOn with
  | ind n ih =>
    by_cases c : n < b
    · have e : ln b n = 1 := by unfold ln; rw [dl_small c]; rfl
      rw [e]
      simpa using h
    · have e : ln b n = ln b (n / b) + 1 := by unfold ln; rw [dl_big hb (by omega)]; rfl
      have hq : 1 ≤ n / b := (Nat.le_div_iff_mul_le (by omega)).mpr (by omega)
      have q := ih (n / b) (Nat.div_lt_self (by omega) hb) hq
      have p := ln_pos hb (n / b)
      rw [e]
      have e2 : ln b (n / b) + 1 - 1 = (ln b (n / b) - 1) + 1 := by omega
      rw [e2, Nat.pow_succ]
      exact (Nat.le_div_iff_mul_le (by omega)).mp q
theorem pow_lt_inj {b : Nat} (hb : 2 ≤ b) {i j : Nat} (h : b ^ i < b ^ j) : i < j := by
  apply Classical.byContradiction
  intro c
  have : b ^ j ≤ b ^ i := Nat.pow_le_pow_right (by omega) (by omega)
  omega
theorem ln_of {b : Nat} (hb : 2 ≤ b) {n s : Nat} (hs : 1 ≤ s) (h1 : b ^ (s - 1) ≤ n) (h2 : n < b ^ s) : ln b n = s := by
  have hn : 1 ≤ n := Nat.le_trans (Nat.pow_pos (by omega)) h1
  have a1 := lt_pow_ln hb n
  have a2 := pow_ln_le hb hn
  have p := ln_pos hb n
  have q1 := pow_lt_inj hb (Nat.lt_of_le_of_lt h1 a1)
  have q2 := pow_lt_inj hb (Nat.lt_of_le_of_lt a2 h2)
  omega
theorem ln_zero {b : Nat} (hb : 2 ≤ b) : ln b 0 = 1 := by
  unfold ln; rw [dl_small (by omega)]; rfl

/-! ## halves and mirrors -/
/-- the first half of n, the middle one too -/
def hf (b n : Nat) : Nat := n / b ^ (ln b n / 2)
/-- the mirrored one of s figures with first half h -/
def mir (b h s : Nat) : Nat := vl b ((dl b h).reverse.take (s / 2) ++ dl b h)
/-- the least first half of s figures -/
def lo (b s : Nat) : Nat := b ^ ((s - 1) / 2)
def Half (b h s : Nat) : Prop := 1 ≤ s ∧ lo b s ≤ h ∧ h < b ^ ((s + 1) / 2)
theorem vl_drop {b : Nat} (hb : 2 ≤ b) {xs : List Nat} (h : ∀ d ∈ xs, d < b) (m : Nat) (hm : m ≤ xs.length) : vl b (xs.drop m) = vl b xs / b ^ m := by
  have e : vl b xs = vl b (xs.take m) + b ^ m * vl b (xs.drop m) := by
    have q := vl_append b (xs.take m) (xs.drop m)
    rw [List.take_append_drop, List.length_take, Nat.min_eq_left hm] at q
    exact q
  have l : vl b (xs.take m) < b ^ m := by
    have q := vl_lt (b := b) (xs := xs.take m) fun d hd => h d (List.mem_of_mem_take hd)
    rw [List.length_take, Nat.min_eq_left hm] at q
    exact q
  rw [e, Nat.add_mul_div_left _ _ (Nat.pow_pos (by omega)), Nat.div_eq_of_lt l, Nat.zero_add]
theorem hf_vl {b : Nat} (hb : 2 ≤ b) (n : Nat) : hf b n = vl b ((dl b n).drop (ln b n / 2)) := by
  rw [vl_drop hb (dl_lt hb n) _ (by unfold ln; omega), dl_val hb]
  rfl
theorem half_hf {b : Nat} (hb : 2 ≤ b) {n : Nat} (h : 1 ≤ n) : Half b (hf b n) (ln b n) := by
  have p := ln_pos hb n
  have a1 := lt_pow_ln hb n
  have a2 := pow_ln_le hb h
  refine ⟨p, ?_, ?_⟩
  · unfold lo hf
    rw [Nat.le_div_iff_mul_le (Nat.pow_pos (by omega)), ← Nat.pow_add]
    have e : (ln b n - 1) / 2 + ln b n / 2 = ln b n - 1 := by omega
    rw [e]
    exact a2
  · unfold hf
    rw [Nat.div_lt_iff_lt_mul (Nat.pow_pos (by omega)), ← Nat.pow_add]
    have e : (ln b n + 1) / 2 + ln b n / 2 = ln b n := by omega
    rw [e]
    exact a1
section
variable {b h s : Nat} (hb : 2 ≤ b) (H : Half b h s)
include hb H
theorem Half.pos : 1 ≤ h := Nat.le_trans (Nat.pow_pos (by omega)) H.2.1
theorem Half.ln : ln b h = (s + 1) / 2 := by
  obtain ⟨h1, h2, h3⟩ := H
  refine ln_of hb (by omega) ?_ h3
  have e : (s + 1) / 2 - 1 = (s - 1) / 2 := by omega
  rw [e]
  exact h2
theorem mir_eq : mir b h s = vl b ((dl b h).reverse.take (s / 2)) + b ^ (s / 2) * h := by
  unfold mir
  rw [vl_append, dl_val hb, List.length_take, List.length_reverse]
  have e : (dl b h).length = (s + 1) / 2 := H.ln hb
  rw [e, Nat.min_eq_left (by omega)]
theorem mir_low : vl b ((dl b h).reverse.take (s / 2)) < b ^ (s / 2) := by
  have q := vl_lt (b := b) (xs := (dl b h).reverse.take (s / 2)) fun d hd => dl_lt hb h d (by simpa using List.mem_of_mem_take hd)
  rw [List.length_take, List.length_reverse] at q
  have e : (dl b h).length = (s + 1) / 2 := H.ln hb
  rw [e, Nat.min_eq_left (by omega)] at q
  exact q
theorem mir_half : mir b h s / b ^ (s / 2) = h := by
  rw [mir_eq hb H, Nat.add_mul_div_left _ _ (Nat.pow_pos (by omega)), Nat.div_eq_of_lt (mir_low hb H), Nat.zero_add]
theorem mir_ge : h * b ^ (s / 2) ≤ mir b h s := by
  rw [mir_eq hb H, Nat.mul_comm]
  omega
theorem mir_lt : mir b h s < (h + 1) * b ^ (s / 2) := by
  have q := mir_low hb H
  rw [mir_eq hb H, Nat.mul_comm (b ^ (s / 2)) h, Nat.add_mul]
  omega
theorem mir_ln : Mir.ln b (mir b h s) = s := by
  obtain ⟨h1, h2, h3⟩ := id H
  have q1 := mir_ge hb H
  have q2 := mir_lt hb H
  refine ln_of hb h1 ?_ ?_
  · refine Nat.le_trans ?_ q1
    have e : s - 1 = (s - 1) / 2 + s / 2 := by omega
    rw [e, Nat.pow_add]
    exact Nat.mul_le_mul_right _ h2
  · refine Nat.lt_of_lt_of_le q2 ?_
    have e : s = (s + 1) / 2 + s / 2 := by omega
    have g : (h + 1) * b ^ (s / 2) ≤ b ^ ((s + 1) / 2) * b ^ (s / 2) := Nat.mul_le_mul_right _ h3
    rw [← Nat.pow_add, ← e] at g
    exact g
theorem mir_hf : hf b (mir b h s) = h := by
  unfold hf
  rw [mir_ln hb H]
  exact mir_half hb H
theorem mir_dl : dl b (mir b h s) = (dl b h).reverse.take (s / 2) ++ dl b h := by
  unfold mir
  have ne := dl_ne hb h
  refine dl_of hb ?_ ?_ ?_
  · simp [ne]
  · intro d hd
    rcases List.mem_append.mp hd with q | q
    · exact dl_lt hb h d (by simpa using List.mem_of_mem_take q)
    · exact dl_lt hb h d q
  · right
    have q := dl_last hb (H.pos hb)
    rw [List.getLast?_append]
    cases e : (dl b h).getLast? with
    | none => simp [ne] at e
    | some x =>
      rw [e] at q
      simpa using q
theorem mir_pal : pal b (mir b h s) = true := by
  unfold pal
  rw [decide_eq_true_iff, mir_dl hb H, List.reverse_append]
  have e : (dl b h).length = (s + 1) / 2 := H.ln hb
  by_cases c : s % 2 = 0
  · have el : s / 2 = (dl b h).reverse.length := by rw [List.length_reverse, e]; omega
    rw [el, List.take_length, List.reverse_reverse]
  · have el : (dl b h).length = s / 2 + 1 := by rw [e]; omega
    have e0 : (dl b h).reverse.take (s / 2) = ((dl b h).drop 1).reverse := by
      rw [List.take_reverse, el]
      congr 1
      congr 1
      omega
    rw [e0, List.reverse_reverse]
    cases hd : dl b h with
    | nil => exact absurd hd (dl_ne hb h)
    | cons x r => simp
theorem mir_low_pos (h2 : 2 ≤ s) : 1 ≤ vl b ((dl b h).reverse.take (s / 2)) := by
  have q := dl_last hb (H.pos hb)
  cases e : (dl b h).reverse with
  | nil => simp [dl_ne hb h] at e
  | cons x r =>
    have e2 : dl b h = r.reverse ++ [x] := by
      have := congrArg List.reverse e
      simpa using this
    rw [e2] at q
    have hx : 1 ≤ x := by simpa using q
    obtain ⟨k, hk⟩ : ∃ k, s / 2 = k + 1 := ⟨s / 2 - 1, by omega⟩
    rw [hk, List.take_succ_cons]
    show 1 ≤ x + _
    omega
theorem mir_gt (h2 : 2 ≤ s) : h * b ^ (s / 2) < mir b h s := by
  have q := mir_low_pos hb H h2
  rw [mir_eq hb H, Nat.mul_comm]
  omega
end
theorem pal_mir {b x : Nat} (hb : 2 ≤ b) (h : pal b x = true) : mir b (hf b x) (ln b x) = x := by
  have hp : dl b x = (dl b x).reverse := by
    unfold pal at h
    exact of_decide_eq_true h
  by_cases h0 : x = 0
  · subst h0
    unfold mir hf
    rw [ln_zero hb]
    show vl b ((dl b (0 / b ^ (1 / 2))).reverse.take (1 / 2) ++ dl b (0 / b ^ (1 / 2))) = 0
    have e : (0 : Nat) / b ^ (1 / 2) = 0 := Nat.zero_div _
    rw [e, dl_small (by omega)]
    rfl
  have hl : (dl b x).length = ln b x := rfl
  have e1 : dl b (hf b x) = (dl b x).drop (ln b x / 2) := by
    rw [hf_vl hb]
    refine dl_of hb ?_ ?_ ?_
    · intro c
      have := congrArg List.length c
      have p := ln_pos hb x
      rw [List.length_drop, hl] at this
      simp at this
      omega
    · intro d hd
      exact dl_lt hb x d (List.mem_of_mem_drop hd)
    · right
      have q := dl_last hb (n := x) (by omega)
      have p := ln_pos hb x
      rw [List.getLast?_drop]
      rw [if_neg (by rw [hl]; omega)]
      exact q
  unfold mir
  rw [e1]
  have e2 : ((dl b x).drop (ln b x / 2)).reverse.take (ln b x / 2) = (dl b x).take (ln b x / 2) := by
    rw [List.reverse_drop, ← hp, hl]
    rw [List.take_take]
    congr 1
    omega
  rw [e2, List.take_append_drop, dl_val hb]
theorem pal_of_mir {b x : Nat} (hb : 2 ≤ b) (h1 : 1 ≤ x) (h : mir b (hf b x) (ln b x) = x) : pal b x = true := by
  have q := mir_pal hb (half_hf hb h1)
  rw [h] at q
  exact q
theorem pal_small {b n : Nat} (h : n < b) : pal b n = true := by
  unfold pal
  rw [decide_eq_true_iff, dl_small h]
  rfl
/-- all figures the greatest -/
theorem vl_nines {b : Nat} (hb : 2 ≤ b) : ∀ s : Nat, vl b (List.replicate s (b - 1)) + 1 = b ^ s
  | 0 => by simp [vl]
  | s + 1 => by
    have ih := vl_nines hb s
    rw [List.replicate_succ]
    show b - 1 + b * vl b (List.replicate s (b - 1)) + 1 = b ^ (s + 1)
    rw [Nat.pow_succ, ← ih, Nat.add_mul, Nat.mul_comm b]
    omega
theorem pal_nines {b s : Nat} (hb : 2 ≤ b) : pal b (b ^ s - 1) = true := by
  cases s with
  | zero => exact pal_small (by simp; omega)
  | succ s =>
    have e : b ^ (s + 1) - 1 = vl b (List.replicate (s + 1) (b - 1)) := by
      have := vl_nines hb (s + 1)
      omega
    have d : dl b (b ^ (s + 1) - 1) = List.replicate (s + 1) (b - 1) := by
      rw [e]
      refine dl_of hb (by simp) ?_ ?_
      · intro d hd
        have := (List.mem_replicate.mp hd).2
        omega
      · right
        rw [List.getLast?_replicate]
        simp
        omega
    unfold pal
    rw [decide_eq_true_iff, d, List.reverse_replicate]

/-! ## counts -/
/-- how many mirrored numbers have so many figures; fewer -/
def mos (b s : Nat) : Nat := (b - 1) * b ^ ((s - 1) / 2)
def less (b s : Nat) : Nat := ((List.range (s - 1)).map fun i => mos b (i + 1)).sum
theorem less_one (b : Nat) : less b 1 = 0 := rfl
theorem less_succ (b s : Nat) (h : 1 ≤ s) : less b (s + 1) = less b s + mos b s := by
  obtain ⟨k, rfl⟩ : ∃ k, s = k + 1 := ⟨s - 1, by omega⟩
  show ((List.range (k + 1)).map fun i => mos b (i + 1)).sum = ((List.range k).map fun i => mos b (i + 1)).sum + mos b (k + 1)
  rw [List.range_succ, List.map_append, List.sum_append]
  simp
theorem mos_pos {b : Nat} (hb : 2 ≤ b) (s : Nat) : 1 ≤ mos b s := Nat.mul_pos (by omega) (Nat.pow_pos (by omega))
/-- many_to -/
def cnt (b n : Nat) : Nat := if n = 0 then 0 else hf b n - lo b (ln b n) + (if mir b (hf b n) (ln b n) ≤ n then 1 else 0) + less b (ln b n)
theorem cnt_zero (b : Nat) : cnt b 0 = 0 := if_pos rfl
theorem cnt_pos {b n : Nat} (h : 1 ≤ n) : cnt b n = hf b n - lo b (ln b n) + (if mir b (hf b n) (ln b n) ≤ n then 1 else 0) + less b (ln b n) := if_neg (by omega)
theorem half_top {b s : Nat} (hs : 1 ≤ s) : b ^ ((s + 1) / 2) = b * lo b s := by
  unfold lo
  have e : (s + 1) / 2 = (s - 1) / 2 + 1 := by omega
  rw [e, Nat.pow_succ, Nat.mul_comm]
theorem mos_lo {b s : Nat} (hs : 1 ≤ s) (hb : 2 ≤ b) : mos b s + lo b s = b ^ ((s + 1) / 2) := by
  rw [half_top hs]
  show (b - 1) * lo b s + lo b s = b * lo b s
  obtain ⟨k, rfl⟩ : ∃ k, b = k + 1 := ⟨b - 1, by omega⟩
  rw [Nat.add_mul, Nat.add_sub_cancel]
  omega
theorem cnt_mir {b h s : Nat} (hb : 2 ≤ b) (H : Half b h s) : cnt b (mir b h s) = less b s + (h - lo b s) + 1 := by
  have p := H.pos hb
  have g := mir_ge hb H
  have q : 1 ≤ mir b h s := Nat.le_trans (Nat.mul_pos p (Nat.pow_pos (by omega))) g
  rw [cnt_pos q, mir_hf hb H, mir_ln hb H, if_pos (Nat.le_refl _)]
  omega
/-- all nines of s - 1 figures -/
theorem cnt_nines {b s : Nat} (hb : 2 ≤ b) (hs : 1 ≤ s) : cnt b (b ^ (s - 1) - 1) = less b s := by
  by_cases c : s = 1
  · subst c
    show cnt b 0 = less b 1
    rw [cnt_zero, less_one]
  · obtain ⟨k, rfl⟩ : ∃ k, s = k + 2 := ⟨s - 2, by omega⟩
    have e0 : k + 2 - 1 = k + 1 := rfl
    rw [e0]
    have hp : 1 ≤ b ^ k := Nat.pow_pos (by omega)
    have hge : 2 * b ^ k ≤ b ^ (k + 1) := by
      rw [Nat.pow_succ, Nat.mul_comm (b ^ k)]
      exact Nat.mul_le_mul_right _ hb
    have hl : ln b (b ^ (k + 1) - 1) = k + 1 := ln_of hb (by omega) (by show b ^ k ≤ _; omega) (by omega)
    have hh : hf b (b ^ (k + 1) - 1) = b ^ ((k + 2) / 2) - 1 := by
      unfold hf
      rw [hl]
      have e : k + 1 = (k + 2) / 2 + (k + 1) / 2 := by omega
      have q1 : 1 ≤ b ^ ((k + 2) / 2) := Nat.pow_pos (by omega)
      have q2 : 1 ≤ b ^ ((k + 1) / 2) := Nat.pow_pos (by omega)
      have e2 : b ^ (k + 1) - 1 = (b ^ ((k + 1) / 2) - 1) + b ^ ((k + 1) / 2) * (b ^ ((k + 2) / 2) - 1) := by
        rw [Nat.mul_sub, Nat.mul_one, ← Nat.pow_add]
        have e3 : (k + 1) / 2 + (k + 2) / 2 = k + 1 := by omega
        rw [e3]
        have : b ^ ((k + 1) / 2) ≤ b ^ (k + 1) := Nat.pow_le_pow_right (by omega) (by omega)
        omega
      rw [e2, Nat.add_mul_div_left _ _ q2, Nat.div_eq_of_lt (by omega), Nat.zero_add]
    have hm : mir b (hf b (b ^ (k + 1) - 1)) (ln b (b ^ (k + 1) - 1)) = b ^ (k + 1) - 1 := pal_mir hb (pal_nines hb)
    rw [cnt_pos (by omega), hm, if_pos (Nat.le_refl _), hh, hl, less_succ b (k + 1) (by omega)]
    have q := mos_lo (b := b) (s := k + 1) (by omega) hb
    have e4 : (k + 1 + 1) / 2 = (k + 2) / 2 := rfl
    rw [e4] at q
    have := mos_pos hb (k + 1)
    omega
/-- one more -/
theorem cnt_succ {b : Nat} (hb : 2 ≤ b) (n : Nat) : cnt b (n + 1) = cnt b n + (if pal b (n + 1) = true then 1 else 0) := by
  by_cases h0 : n = 0
  · subst h0
    have hl : ln b 1 = 1 := ln_of hb (by omega) (by simp) (by simp; omega)
    have hh : hf b 1 = 1 := by
      unfold hf
      rw [hl]
      simp
    have hp : pal b 1 = true := pal_small (by omega)
    have hm := pal_mir hb hp
    rw [cnt_zero, cnt_pos (by omega), hm, hl, hh, if_pos (Nat.le_refl _), hp, if_pos rfl, less_one]
    unfold lo
    simp
  · have h1 : 1 ≤ n := by omega
    have H := half_hf hb (n := n + 1) (by omega)
    have HN := half_hf hb h1
    have P1 := lt_pow_ln hb (n + 1)
    have P2 := pow_ln_le hb (n := n + 1) (by omega)
    have hs := ln_pos hb (n + 1)
    -- the figures of n
    by_cases hL : n + 1 = b ^ (ln b (n + 1) - 1)
    · -- n all nines
      have e : n = b ^ (ln b (n + 1) - 1) - 1 := by omega
      have c1 : cnt b n = less b (ln b (n + 1)) := by
        rw [e]
        have := cnt_nines hb hs
        rw [← e]
        rw [← e] at this
        exact this
      have h2 : 2 ≤ ln b (n + 1) := by
        apply Classical.byContradiction
        intro c
        have : ln b (n + 1) - 1 = 0 := by omega
        rw [this] at hL
        simp at hL
        omega
      have hh : hf b (n + 1) = lo b (ln b (n + 1)) := by
        show (n + 1) / b ^ (ln b (n + 1) / 2) = b ^ ((ln b (n + 1) - 1) / 2)
        have e2 : n + 1 = b ^ ((ln b (n + 1) - 1) / 2) * b ^ (ln b (n + 1) / 2) := by
          rw [← Nat.pow_add]
          have e3 : (ln b (n + 1) - 1) / 2 + ln b (n + 1) / 2 = ln b (n + 1) - 1 := by omega
          rw [e3]
          exact hL
        have q : 0 < b ^ (ln b (n + 1) / 2) := Nat.pow_pos (by omega)
        have e4 : (n + 1) / b ^ (ln b (n + 1) / 2) = b ^ ((ln b (n + 1) - 1) / 2) := Nat.div_eq_of_eq_mul_left q e2
        exact e4
      have g := mir_gt hb H h2
      have e5 : hf b (n + 1) * b ^ (ln b (n + 1) / 2) = n + 1 := by
        rw [hh]
        unfold lo
        rw [← Nat.pow_add]
        have e3 : (ln b (n + 1) - 1) / 2 + ln b (n + 1) / 2 = ln b (n + 1) - 1 := by omega
        rw [e3]
        exact hL.symm
      rw [e5] at g
      have np : pal b (n + 1) ≠ true := fun q => by
        have := pal_mir hb q
        omega
      rw [c1, cnt_pos (by omega), if_neg (by omega), if_neg np, hh]
      omega
    · -- as many figures
      have hl : ln b n = ln b (n + 1) := ln_of hb hs (by omega) (by omega)
      have dm := Nat.div_add_mod (n + 1) (b ^ (ln b (n + 1) / 2))
      have dp : 0 < b ^ (ln b (n + 1) / 2) := Nat.pow_pos (by omega)
      have ml := Nat.mod_lt (n + 1) dp
      have hfe : hf b (n + 1) = (n + 1) / b ^ (ln b (n + 1) / 2) := rfl
      by_cases hr : (n + 1) % b ^ (ln b (n + 1) / 2) = 0
      · -- the half falls
        have e1 : n + 1 = hf b (n + 1) * b ^ (ln b (n + 1) / 2) := by
          rw [hfe, Nat.mul_comm]
          omega
        by_cases s1 : ln b (n + 1) = 1
        · -- one figure
          have k1 : hf b (n + 1) = n + 1 := by rw [hfe, s1]; simp
          have k2 : hf b n = n := by unfold hf; rw [hl, s1]; simp
          have hnb : n + 1 < b := by rw [s1] at P1; simpa using P1
          have p1 : pal b (n + 1) = true := pal_small hnb
          have p2 : pal b n = true := pal_small (by omega)
          have m1 := pal_mir hb p1
          have m2 := pal_mir hb p2
          rw [cnt_pos (by omega), cnt_pos h1, m1, m2, if_pos (Nat.le_refl _), if_pos (Nat.le_refl _), if_pos p1, k1, k2, hl, s1]
          unfold lo
          simp
          omega
        · have h2 : 2 ≤ ln b (n + 1) := by omega
          have g := mir_gt hb H h2
          rw [← e1] at g
          have np : pal b (n + 1) ≠ true := fun q => by
            have := pal_mir hb q
            omega
          have p1 := H.pos hb
          have hn : hf b n = hf b (n + 1) - 1 := by
            have q : hf b n = n / b ^ (ln b (n + 1) / 2) := by unfold hf; rw [hl]
            rw [q]
            have e2 : n = (b ^ (ln b (n + 1) / 2) - 1) + b ^ (ln b (n + 1) / 2) * (hf b (n + 1) - 1) := by
              rw [Nat.mul_sub, Nat.mul_one, Nat.mul_comm _ (hf b (n + 1)), ← e1]
              have : b ^ (ln b (n + 1) / 2) ≤ n + 1 := by
                have w : 1 * b ^ (ln b (n + 1) / 2) ≤ hf b (n + 1) * b ^ (ln b (n + 1) / 2) := Nat.mul_le_mul_right _ p1
                rw [← e1] at w
                omega
              omega
            have e3 : n / b ^ (ln b (n + 1) / 2) = ((b ^ (ln b (n + 1) / 2) - 1) + b ^ (ln b (n + 1) / 2) * (hf b (n + 1) - 1)) / b ^ (ln b (n + 1) / 2) := by
              rw [← e2]
            rw [e3, Nat.add_mul_div_left _ _ dp, Nat.div_eq_of_lt (by omega), Nat.zero_add]
          have ml2 := mir_lt hb HN
          have e6 : hf b n + 1 = hf b (n + 1) := by omega
          have hl2 : b ^ (ln b n / 2) = b ^ (ln b (n + 1) / 2) := by rw [hl]
          rw [e6, hl2, ← e1] at ml2
          have w1 := HN.2.1
          rw [cnt_pos (by omega), cnt_pos h1, if_neg (by omega), if_neg np, if_pos (by omega), hl]
          rw [hl] at w1
          omega
      · -- the half stays
        have hr1 : 1 ≤ (n + 1) % b ^ (ln b (n + 1) / 2) := Nat.pos_of_ne_zero hr
        have hn : hf b n = hf b (n + 1) := by
          have q : hf b n = n / b ^ (ln b (n + 1) / 2) := by unfold hf; rw [hl]
          rw [q, hfe]
          have e2 : n = ((n + 1) % b ^ (ln b (n + 1) / 2) - 1) + b ^ (ln b (n + 1) / 2) * ((n + 1) / b ^ (ln b (n + 1) / 2)) := by omega
          have e3 : n / b ^ (ln b (n + 1) / 2) = (((n + 1) % b ^ (ln b (n + 1) / 2) - 1) + b ^ (ln b (n + 1) / 2) * ((n + 1) / b ^ (ln b (n + 1) / 2))) / b ^ (ln b (n + 1) / 2) := by
            rw [← e2]
          rw [e3, Nat.add_mul_div_left _ _ dp, Nat.div_eq_of_lt (by omega), Nat.zero_add]
        rw [cnt_pos (by omega), cnt_pos h1, hn, hl]
        by_cases p : pal b (n + 1) = true
        · have m := pal_mir hb p
          rw [if_pos p, m, if_pos (Nat.le_refl _), if_neg (by omega)]
          omega
        · have m : mir b (hf b (n + 1)) (ln b (n + 1)) ≠ n + 1 := fun q => p (pal_of_mir hb (by omega) q)
          rw [if_neg p]
          by_cases c : mir b (hf b (n + 1)) (ln b (n + 1)) ≤ n + 1
          · rw [if_pos c, if_pos (by omega)]
            omega
          · rw [if_neg c, if_neg (by omega)]
            omega
theorem cnt_mono {b : Nat} (hb : 2 ≤ b) {m n : Nat} (h : m ≤ n) : cnt b m ≤ cnt b n := by
  induction n with
  | zero =>
    have e : m = 0 := by omega
    rw [e]
    exact Nat.le_refl _
  | succ n ih =>
    by_cases e : m = n + 1
    · rw [e]
      exact Nat.le_refl _
    · have q := ih (by omega)
      rw [cnt_succ hb]
      omega
theorem cnt_le {b : Nat} (hb : 2 ≤ b) : ∀ n, cnt b n ≤ n
  | 0 => by rw [cnt_zero]; exact Nat.le_refl _
  | n + 1 => by
    have := cnt_le hb n
    rw [cnt_succ hb]
    split <;> omega
/-- a mirrored one counts -/
theorem cnt_lt {b m n : Nat} (hb : 2 ≤ b) (h : m < n) (p : pal b n = true) : cnt b m < cnt b n := by
  obtain ⟨k, rfl⟩ : ∃ k, n = k + 1 := ⟨n - 1, by omega⟩
  rw [cnt_succ hb, if_pos p]
  have := cnt_mono hb (m := m) (n := k) (by omega)
  omega

/-! ## the nearest -/
def atMost (b n : Nat) : Nat :=
  if mir b (hf b n) (ln b n) ≤ n then mir b (hf b n) (ln b n)
  else if hf b n = b ^ ((ln b n - 1) / 2) then b ^ (ln b n - 1) - 1
  else mir b (hf b n - 1) (ln b n)
def atLeast (b n : Nat) : Nat := mir b (hf b n + (if mir b (hf b n) (ln b n) < n then 1 else 0)) (ln b n)
theorem mir_zero {b : Nat} (hb : 2 ≤ b) : mir b (hf b 0) (ln b 0) = 0 := pal_mir hb (pal_small (by omega))
theorem atMost_spec {b : Nat} (hb : 2 ≤ b) (n : Nat) : pal b (atMost b n) = true ∧ atMost b n ≤ n ∧ cnt b (atMost b n) = cnt b n := by
  by_cases h0 : n = 0
  · subst h0
    have e : atMost b 0 = 0 := by
      unfold atMost
      rw [mir_zero hb, if_pos (Nat.le_refl _)]
    rw [e]
    exact ⟨pal_small (by omega), Nat.le_refl _, rfl⟩
  · have h1 : 1 ≤ n := by omega
    have H := half_hf hb h1
    unfold atMost
    by_cases c : mir b (hf b n) (ln b n) ≤ n
    · rw [if_pos c]
      refine ⟨mir_pal hb H, c, ?_⟩
      rw [cnt_mir hb H, cnt_pos h1, if_pos c]
      omega
    · rw [if_neg c]
      by_cases d : hf b n = b ^ ((ln b n - 1) / 2)
      · rw [if_pos d]
        have q := pow_ln_le hb h1
        refine ⟨pal_nines hb, by omega, ?_⟩
        rw [cnt_nines hb (ln_pos hb n), cnt_pos h1, if_neg c]
        have e : hf b n - lo b (ln b n) = 0 := by unfold lo; omega
        rw [e]
        omega
      · rw [if_neg d]
        obtain ⟨a1, a2, a3⟩ := id H
        have a4 : b ^ ((ln b n - 1) / 2) ≤ hf b n := a2
        have H2 : Half b (hf b n - 1) (ln b n) := ⟨a1, by show b ^ ((ln b n - 1) / 2) ≤ _; omega, by omega⟩
        have hp := H.pos hb
        refine ⟨mir_pal hb H2, ?_, ?_⟩
        · have q := mir_lt hb H2
          have e : hf b n - 1 + 1 = hf b n := by omega
          rw [e] at q
          have w : hf b n * b ^ (ln b n / 2) ≤ n := Nat.div_mul_le_self _ _
          omega
        · have z := H2.2.1
          rw [cnt_mir hb H2, cnt_pos h1, if_neg c]
          omega
theorem atLeast_spec {b : Nat} (hb : 2 ≤ b) (n : Nat) : pal b (atLeast b n) = true ∧ n ≤ atLeast b n ∧ cnt b (atLeast b n) = cnt b n + (if pal b n = true then 0 else 1) := by
  by_cases h0 : n = 0
  · subst h0
    have e : atLeast b 0 = 0 := by
      unfold atLeast
      rw [mir_zero hb, if_neg (by omega)]
      exact mir_zero hb
    rw [e]
    refine ⟨pal_small (by omega), Nat.le_refl _, ?_⟩
    rw [if_pos (pal_small (by omega)), Nat.add_zero]
  · have h1 : 1 ≤ n := by omega
    have H := half_hf hb h1
    unfold atLeast
    by_cases c : mir b (hf b n) (ln b n) < n
    · rw [if_pos c]
      obtain ⟨a1, a2, a3⟩ := id H
      have np : pal b n ≠ true := fun q => by
        have := pal_mir hb q
        omega
      have ne : hf b n + 1 < b ^ ((ln b n + 1) / 2) := by
        apply Classical.byContradiction
        intro d
        have e : hf b n = b ^ ((ln b n + 1) / 2) - 1 := by omega
        -- then n's half is all nines, and so is its mirror
        have hm : mir b (hf b n) (ln b n) = b ^ (ln b n) - 1 := by
          have P := Nat.pow_pos (n := ln b n) (show 0 < b by omega)
          have l2 : b ^ (ln b n - 1) ≤ b ^ (ln b n) - 1 := by
            have hs := ln_pos hb n
            have e1 : b ^ (ln b n) = b * b ^ (ln b n - 1) := by
              rw [Nat.mul_comm, ← Nat.pow_succ]
              congr 1
              omega
            have e2 : 2 * b ^ (ln b n - 1) ≤ b * b ^ (ln b n - 1) := Nat.mul_le_mul_right _ hb
            have e3 : 1 ≤ b ^ (ln b n - 1) := Nat.pow_pos (by omega)
            omega
          have hl : ln b (b ^ (ln b n) - 1) = ln b n := ln_of hb (ln_pos hb n) l2 (by omega)
          have hh : hf b (b ^ (ln b n) - 1) = hf b n := by
            rw [e]
            show (b ^ (ln b n) - 1) / b ^ (ln b (b ^ (ln b n) - 1) / 2) = _
            rw [hl]
            have q2 : 0 < b ^ (ln b n / 2) := Nat.pow_pos (by omega)
            have e2 : b ^ (ln b n) - 1 = (b ^ (ln b n / 2) - 1) + b ^ (ln b n / 2) * (b ^ ((ln b n + 1) / 2) - 1) := by
              rw [Nat.mul_sub, Nat.mul_one, ← Nat.pow_add]
              have e3 : ln b n / 2 + (ln b n + 1) / 2 = ln b n := by omega
              rw [e3]
              have : b ^ (ln b n / 2) ≤ b ^ (ln b n) := Nat.pow_le_pow_right (by omega) (by omega)
              omega
            rw [e2, Nat.add_mul_div_left _ _ q2, Nat.div_eq_of_lt (by omega), Nat.zero_add]
          have pm := pal_mir hb (pal_nines (b := b) (s := ln b n) hb)
          rw [hh, hl] at pm
          exact pm
        have := lt_pow_ln hb n
        omega
      have H2 : Half b (hf b n + 1) (ln b n) := ⟨a1, by omega, ne⟩
      refine ⟨mir_pal hb H2, ?_, ?_⟩
      · have q := mir_ge hb H2
        have w : n < (hf b n + 1) * b ^ (ln b n / 2) := by
          have := Nat.lt_div_mul_add (a := n) (b := b ^ (ln b n / 2)) (Nat.pow_pos (by omega))
          rw [Nat.add_mul, Nat.one_mul]
          exact this
        omega
      · rw [cnt_mir hb H2, cnt_pos h1, if_pos (by omega), if_neg np]
        omega
    · rw [if_neg c, Nat.add_zero]
      refine ⟨mir_pal hb H, by omega, ?_⟩
      rw [cnt_mir hb H, cnt_pos h1]
      by_cases p : pal b n = true
      · have m := pal_mir hb p
        rw [if_pos p, if_pos (by omega)]
        omega
      · have m : mir b (hf b n) (ln b n) ≠ n := fun q => p (pal_of_mir hb h1 q)
        rw [if_neg p, if_neg (by omega)]
        omega
/-- the greatest -/
theorem atMost_max {b n x : Nat} (hb : 2 ≤ b) (p : pal b x = true) (h : x ≤ n) : x ≤ atMost b n := by
  obtain ⟨_, _, h3⟩ := atMost_spec hb n
  apply Classical.byContradiction
  intro c
  have := cnt_lt hb (m := atMost b n) (n := x) (by omega) p
  have := cnt_mono hb h
  omega
theorem atMost_pal {b n : Nat} (hb : 2 ≤ b) (p : pal b n = true) : atMost b n = n := by
  have h := atMost_max hb p (Nat.le_refl n)
  have := (atMost_spec hb n).2.1
  omega
theorem atLeast_pal {b n : Nat} (hb : 2 ≤ b) (p : pal b n = true) : atLeast b n = n := by
  obtain ⟨h1, h2, h3⟩ := atLeast_spec hb n
  rw [if_pos p] at h3
  apply Classical.byContradiction
  intro c
  have := cnt_lt hb (m := n) (n := atLeast b n) (by omega) h1
  omega
theorem atMost_pos {b n : Nat} (hb : 2 ≤ b) (h : 1 ≤ n) : 1 ≤ atMost b n := atMost_max hb (pal_small (by omega)) h
/-- two mirrored ones at one place are one -/
theorem cnt_inj {b x y : Nat} (hb : 2 ≤ b) (px : pal b x = true) (py : pal b y = true) (h : cnt b x = cnt b y) : x = y := by
  apply Classical.byContradiction
  intro c
  rcases Nat.lt_or_gt_of_ne c with q | q
  · have := cnt_lt hb q py
    omega
  · have := cnt_lt hb q px
    omega

/-! ## by the place -/
def mirGo (b : Nat) : Nat → Nat → Nat → Nat
  | 0, _, _ => 0
  | f + 1, left, s => if mos b s ≤ left then mirGo b f (left - mos b s) (s + 1) else mir b (b ^ ((s - 1) / 2) + left) s
def mirAt (b p : Nat) : Nat := if p = 0 then 0 else mirGo b p (p - 1) 1
theorem mirGo_spec {b : Nat} (hb : 2 ≤ b) : ∀ (f left s : Nat), left < f → 1 ≤ s → pal b (mirGo b f left s) = true ∧ cnt b (mirGo b f left s) = less b s + left + 1
  | 0, _, _, h, _ => absurd h (Nat.not_lt_zero _)
  | f + 1, left, s, h, hs => by
    unfold mirGo
    by_cases c : mos b s ≤ left
    · rw [if_pos c]
      have p := mos_pos hb s
      obtain ⟨q1, q2⟩ := mirGo_spec hb f (left - mos b s) (s + 1) (by omega) (by omega)
      refine ⟨q1, ?_⟩
      rw [q2, less_succ b s hs]
      omega
    · rw [if_neg c]
      have q := mos_lo (b := b) hs hb
      have H : Half b (b ^ ((s - 1) / 2) + left) s := ⟨hs, by unfold lo; omega, by unfold lo at q; omega⟩
      refine ⟨mir_pal hb H, ?_⟩
      rw [cnt_mir hb H]
      unfold lo
      omega
theorem mirAt_pal {b : Nat} (hb : 2 ≤ b) (p : Nat) : pal b (mirAt b p) = true := by
  unfold mirAt
  by_cases c : p = 0
  · rw [if_pos c]
    exact pal_small (by omega)
  · rw [if_neg c]
    exact (mirGo_spec hb p (p - 1) 1 (by omega) (by omega)).1
theorem cnt_mirAt {b : Nat} (hb : 2 ≤ b) (p : Nat) : cnt b (mirAt b p) = p := by
  unfold mirAt
  by_cases c : p = 0
  · rw [if_pos c, c, cnt_zero]
  · rw [if_neg c, (mirGo_spec hb p (p - 1) 1 (by omega) (by omega)).2, less_one]
    omega
theorem mirAt_cnt {b x : Nat} (hb : 2 ≤ b) (p : pal b x = true) : mirAt b (cnt b x) = x := cnt_inj hb (mirAt_pal hb _) p (cnt_mirAt hb _)
theorem mirAt_lt {b p q : Nat} (hb : 2 ≤ b) (h : p < q) : mirAt b p < mirAt b q := by
  apply Classical.byContradiction
  intro c
  have := cnt_mono hb (m := mirAt b q) (n := mirAt b p) (by omega)
  rw [cnt_mirAt hb, cnt_mirAt hb] at this
  omega
theorem mirAt_le_iff {b p n : Nat} (hb : 2 ≤ b) : mirAt b p ≤ n ↔ p ≤ cnt b n := by
  constructor
  · intro h
    have := cnt_mono hb h
    rw [cnt_mirAt hb] at this
    exact this
  · intro h
    apply Classical.byContradiction
    intro c
    have := cnt_lt hb (m := n) (n := mirAt b p) (by omega) (mirAt_pal hb p)
    rw [cnt_mirAt hb] at this
    omega
end Mir
namespace Mir
/-! ## mirrored ones from x down, above 0 -/
def pd (b : Nat) : Nat → List Nat
  | 0 => []
  | x + 1 => if pal b (x + 1) = true then (x + 1) :: pd b x else pd b x
theorem pd_zero (b : Nat) : pd b 0 = [] := rfl
theorem pd_pal {b x : Nat} (h : 1 ≤ x) (p : pal b x = true) : pd b x = x :: pd b (x - 1) := by
  obtain ⟨k, rfl⟩ : ∃ k, x = k + 1 := ⟨x - 1, by omega⟩
  show (if pal b (k + 1) = true then (k + 1) :: pd b k else pd b k) = _
  rw [if_pos p]
  rfl
theorem atMost_skip {b x : Nat} (hb : 2 ≤ b) (p : ¬ pal b (x + 1) = true) : atMost b (x + 1) = atMost b x := by
  obtain ⟨h1, h2, h3⟩ := atMost_spec hb (x + 1)
  have n1 : atMost b (x + 1) ≠ x + 1 := fun e => p (e ▸ h1)
  have q1 := atMost_max hb h1 (show atMost b (x + 1) ≤ x by omega)
  obtain ⟨g1, g2, g3⟩ := atMost_spec hb x
  have q2 := atMost_max hb g1 (show atMost b x ≤ x + 1 by omega)
  omega
theorem pd_atMost {b : Nat} (hb : 2 ≤ b) : ∀ x, pd b (atMost b x) = pd b x
  | 0 => by rw [atMost_pal hb (pal_small (by omega))]
  | x + 1 => by
    by_cases p : pal b (x + 1) = true
    · rw [atMost_pal hb p]
    · rw [atMost_skip hb p, pd_atMost hb x]
      show _ = if pal b (x + 1) = true then (x + 1) :: pd b x else pd b x
      rw [if_neg p]
theorem pd_mem {b : Nat} : ∀ {x y : Nat}, y ∈ pd b x → 1 ≤ y ∧ y ≤ x ∧ pal b y = true
  | 0, y, h => by simp [pd] at h
  | x + 1, y, h => by
    have h1 : y ∈ (if pal b (x + 1) = true then (x + 1) :: pd b x else pd b x) := h
    by_cases p : pal b (x + 1) = true
    · rw [if_pos p] at h1
      rcases List.mem_cons.mp h1 with e | e
      · rw [e]
        exact ⟨by omega, Nat.le_refl _, p⟩
      · obtain ⟨a1, a2, a3⟩ := pd_mem e
        exact ⟨a1, by omega, a3⟩
    · rw [if_neg p] at h1
      obtain ⟨a1, a2, a3⟩ := pd_mem h1
      exact ⟨a1, by omega, a3⟩
theorem pd_desc {b : Nat} : ∀ x, (pd b x).Pairwise (fun a c => c < a)
  | 0 => List.Pairwise.nil
  | x + 1 => by
    show (if pal b (x + 1) = true then (x + 1) :: pd b x else pd b x).Pairwise _
    by_cases p : pal b (x + 1) = true
    · rw [if_pos p]
      refine List.Pairwise.cons (fun y hy => ?_) (pd_desc x)
      have := (pd_mem hy).2.1
      omega
    · rw [if_neg p]
      exact pd_desc x

/-! ## ways by two -/
def twoOk (b n x : Nat) : Bool := decide (n ≤ 2 * x) && pal b (n - x)
/-- the ways by two whose first one is at most x -/
def twoTo (b n x : Nat) : List (Nat × Nat) := ((pd b x).filter (twoOk b n)).map fun x => (x, n - x)
def two (b n : Nat) : List (Nat × Nat) := twoTo b n (n - 1)
theorem twoTo_zero (b n : Nat) : twoTo b n 0 = [] := rfl
theorem twoTo_small {b n : Nat} : ∀ {x : Nat}, 2 * x < n → twoTo b n x = [] := by
  intro x h
  unfold twoTo
  have e : (pd b x).filter (twoOk b n) = [] := by
    rw [List.filter_eq_nil_iff]
    intro y hy
    have := (pd_mem hy).2.1
    unfold twoOk
    rw [decide_eq_false (by omega)]
    simp
  rw [e]
  rfl
theorem twoTo_atMost {b : Nat} (hb : 2 ≤ b) (n x : Nat) : twoTo b n (atMost b x) = twoTo b n x := by
  unfold twoTo
  rw [pd_atMost hb]
theorem twoTo_yes {b n x : Nat} (h : 1 ≤ x) (p : pal b x = true) (h2 : n ≤ 2 * x) (q : pal b (n - x) = true) : twoTo b n x = (x, n - x) :: twoTo b n (x - 1) := by
  unfold twoTo
  rw [pd_pal h p, List.filter_cons]
  have e : twoOk b n x = true := by
    unfold twoOk
    rw [decide_eq_true h2, q]
    rfl
  rw [if_pos e]
  rfl
theorem twoTo_no {b n x : Nat} (h : 1 ≤ x) (p : pal b x = true) (q : ¬ pal b (n - x) = true) : twoTo b n x = twoTo b n (x - 1) := by
  unfold twoTo
  rw [pd_pal h p, List.filter_cons]
  have e : ¬ twoOk b n x = true := by
    unfold twoOk
    intro c
    exact q (Bool.and_eq_true_iff.mp c).2
  rw [if_neg e]
theorem two_mem {b n : Nat} {q : Nat × Nat} (h : q ∈ two b n) : 1 ≤ q.1 ∧ q.1 ≤ n - 1 ∧ q.2 = n - q.1 ∧ pal b q.1 = true ∧ pal b q.2 = true ∧ q.2 ≤ q.1 ∧ 1 ≤ q.2 ∧ q.1 + q.2 = n := by
  unfold two twoTo at h
  obtain ⟨x, hx, rfl⟩ := List.mem_map.mp h
  obtain ⟨h1, h2⟩ := List.mem_filter.mp hx
  obtain ⟨a1, a2, a3⟩ := pd_mem h1
  unfold twoOk at h2
  obtain ⟨c1, c2⟩ := Bool.and_eq_true_iff.mp h2
  have c1 := of_decide_eq_true c1
  refine ⟨a1, a2, rfl, a3, c2, ?_, ?_, ?_⟩
  · show n - x ≤ x
    omega
  · show 1 ≤ n - x
    omega
  · show x + (n - x) = n
    omega
theorem two_nodup (b n : Nat) : (two b n).Nodup := by
  unfold two twoTo
  have h : ((pd b (n - 1)).filter (twoOk b n)).Pairwise (fun a c => c < a) := (pd_desc (n - 1)).sublist List.filter_sublist
  refine List.Pairwise.map _ (fun a c hac => ?_) h
  intro e
  have e1 : a = c := congrArg Prod.fst e
  omega
theorem pd_mem_of {b : Nat} : ∀ {x y : Nat}, 1 ≤ y → y ≤ x → pal b y = true → y ∈ pd b x
  | 0, y, h, h2, _ => by omega
  | x + 1, y, h, h2, p => by
    show y ∈ (if pal b (x + 1) = true then (x + 1) :: pd b x else pd b x)
    by_cases e : y = x + 1
    · rw [e] at p
      rw [if_pos p, e]
      exact List.mem_cons_self
    · have q := pd_mem_of h (show y ≤ x by omega) p
      by_cases c : pal b (x + 1) = true
      · rw [if_pos c]
        exact List.mem_cons_of_mem _ q
      · rw [if_neg c]
        exact q
theorem two_mem_of {b n x : Nat} (h1 : 1 ≤ x) (h2 : x ≤ n - 1) (h3 : n ≤ 2 * x) (p : pal b x = true) (q : pal b (n - x) = true) : (x, n - x) ∈ two b n := by
  unfold two twoTo
  refine List.mem_map.mpr ⟨x, List.mem_filter.mpr ⟨pd_mem_of h1 h2 p, ?_⟩, rfl⟩
  unfold twoOk
  rw [decide_eq_true h3, q]
  rfl

/-! ## sums -/
def sm (f : Nat → Nat) : Nat → Nat
  | 0 => 0
  | n + 1 => sm f n + f (n + 1)
theorem sm_congr {f g : Nat → Nat} : ∀ {n : Nat}, (∀ x, 1 ≤ x → x ≤ n → f x = g x) → sm f n = sm g n
  | 0, _ => rfl
  | n + 1, h => by
    show sm f n + f (n + 1) = sm g n + g (n + 1)
    rw [sm_congr (fun x h1 h2 => h x h1 (by omega)), h (n + 1) (by omega) (Nat.le_refl _)]
theorem sm_add (f g : Nat → Nat) : ∀ n : Nat, sm (fun x => f x + g x) n = sm f n + sm g n
  | 0 => rfl
  | n + 1 => by
    show sm (fun x => f x + g x) n + (f (n + 1) + g (n + 1)) = (sm f n + f (n + 1)) + (sm g n + g (n + 1))
    rw [sm_add f g n]
    omega
theorem sum_places {b : Nat} (hb : 2 ≤ b) (g : Nat → Nat) : ∀ n : Nat, ((List.range (cnt b n)).map fun i => g (mirAt b (i + 1))).sum = sm (fun x => if pal b x = true then g x else 0) n
  | 0 => by
    rw [cnt_zero]
    rfl
  | n + 1 => by
    show _ = sm (fun x => if pal b x = true then g x else 0) n + (if pal b (n + 1) = true then g (n + 1) else 0)
    rw [← sum_places hb g n, cnt_succ hb]
    by_cases p : pal b (n + 1) = true
    · rw [if_pos p, if_pos p, List.range_succ, List.map_append, List.sum_append]
      have e : cnt b n + 1 = cnt b (n + 1) := by rw [cnt_succ hb, if_pos p]
      have e2 : mirAt b (cnt b n + 1) = n + 1 := by rw [e, mirAt_cnt hb p]
      simp [e2]
    · rw [if_neg p, if_neg p]
      rfl
theorem len_two (b n : Nat) : ∀ x : Nat, ((pd b x).filter (twoOk b n)).length = sm (fun x => if pal b x = true then (if twoOk b n x = true then 1 else 0) else 0) x
  | 0 => rfl
  | x + 1 => by
    show ((if pal b (x + 1) = true then (x + 1) :: pd b x else pd b x).filter (twoOk b n)).length = sm (fun x => if pal b x = true then (if twoOk b n x = true then 1 else 0) else 0) x + (if pal b (x + 1) = true then (if twoOk b n (x + 1) = true then 1 else 0) else 0)
    rw [← len_two b n x]
    by_cases p : pal b (x + 1) = true
    · rw [if_pos p, if_pos p, List.filter_cons]
      by_cases q : twoOk b n (x + 1) = true
      · rw [if_pos q, if_pos q, List.length_cons]
      · rw [if_neg q, if_neg q]
        rfl
    · rw [if_neg p, if_neg p]
      rfl
/-- for each first one as many as there are to the lesser one of it and of what is left -/
def pairs (b n : Nat) : Nat := ((List.range (cnt b n)).map fun i => cnt b (min (mirAt b (i + 1)) (n - mirAt b (i + 1)))).sum
theorem pairs_eq {b : Nat} (hb : 2 ≤ b) (n : Nat) : pairs b n = sm (fun x => if pal b x = true then cnt b (min x (n - x)) else 0) n := sum_places hb (fun x => cnt b (min x (n - x))) n
theorem pairs_succ {b : Nat} (hb : 2 ≤ b) (n : Nat) : pairs b (n + 1) = pairs b n + (two b (n + 1)).length := by
  have e1 : (two b (n + 1)).length = sm (fun x => if pal b x = true then (if twoOk b (n + 1) x = true then 1 else 0) else 0) n := by
    unfold two twoTo
    rw [List.length_map]
    exact len_two b (n + 1) n
  rw [pairs_eq hb, pairs_eq hb, e1, ← sm_add]
  show sm (fun x => if pal b x = true then cnt b (min x (n + 1 - x)) else 0) n + (if pal b (n + 1) = true then cnt b (min (n + 1) (n + 1 - (n + 1))) else 0) = _
  have e2 : min (n + 1) (n + 1 - (n + 1)) = 0 := by omega
  rw [e2, cnt_zero]
  have e3 : (if pal b (n + 1) = true then 0 else 0) = 0 := by split <;> rfl
  rw [e3, Nat.add_zero]
  refine sm_congr fun x h1 h2 => ?_
  by_cases p : pal b x = true
  · rw [if_pos p, if_pos p, if_pos p]
    unfold twoOk
    by_cases c : n + 1 ≤ 2 * x
    · have m1 : min x (n + 1 - x) = (n - x) + 1 := by omega
      have m2 : min x (n - x) = n - x := by omega
      have m3 : n + 1 - x = n - x + 1 := by omega
      rw [m1, m2, m3, cnt_succ hb, decide_eq_true c]
      simp
    · have m1 : min x (n + 1 - x) = x := by omega
      have m2 : min x (n - x) = x := by omega
      rw [m1, m2, decide_eq_false c]
      simp
  · rw [if_neg p, if_neg p, if_neg p]
/-- the ways by two of all numbers to a bound -/
theorem sum_two {b : Nat} (hb : 2 ≤ b) : ∀ n : Nat, ((List.range (n + 1)).map fun i => (two b i).length).sum = pairs b n
  | 0 => by
    show (0 : Nat) + 0 = pairs b 0
    unfold pairs
    rw [cnt_zero]
    rfl
  | n + 1 => by
    rw [List.range_succ, List.map_append, List.sum_append, sum_two hb n, pairs_succ hb]
    simp

/-! ## a few -/
def fewGo (b : Nat) : Nat → Nat → List Nat
  | 0, _ => []
  | f + 1, n => if n = 0 then [] else atMost b n :: fewGo b f (n - atMost b n)
def few (b n : Nat) : List Nat := fewGo b n n
theorem fewGo_fuel {b : Nat} (hb : 2 ≤ b) : ∀ (f g n : Nat), n ≤ f → n ≤ g → fewGo b f n = fewGo b g n
  | 0, 0, _, _, _ => rfl
  | 0, g + 1, n, h, _ => by
    have e : n = 0 := by omega
    subst e
    rfl
  | f + 1, 0, n, _, h => by
    have e : n = 0 := by omega
    subst e
    rfl
  | f + 1, g + 1, n, h1, h2 => by
    show (if n = 0 then [] else atMost b n :: fewGo b f (n - atMost b n)) = (if n = 0 then [] else atMost b n :: fewGo b g (n - atMost b n))
    by_cases c : n = 0
    · rw [if_pos c, if_pos c]
    · rw [if_neg c, if_neg c]
      have := atMost_pos hb (n := n) (by omega)
      rw [fewGo_fuel hb f g _ (by omega) (by omega)]
theorem few_zero (b : Nat) : few b 0 = [] := rfl
theorem few_pos {b n : Nat} (hb : 2 ≤ b) (h : 1 ≤ n) : few b n = atMost b n :: few b (n - atMost b n) := by
  obtain ⟨k, rfl⟩ : ∃ k, n = k + 1 := ⟨n - 1, by omega⟩
  show (if k + 1 = 0 then [] else atMost b (k + 1) :: fewGo b k (k + 1 - atMost b (k + 1))) = _
  rw [if_neg (by omega)]
  have := atMost_pos hb (n := k + 1) (by omega)
  unfold few
  rw [fewGo_fuel hb k (k + 1 - atMost b (k + 1)) (k + 1 - atMost b (k + 1)) (by omega) (Nat.le_refl _)]
theorem few_len {b : Nat} (hb : 2 ≤ b) (n : Nat) : (few b n).length ≤ n := by
  induction n using Nat.strongRecOn with
  | ind n ih =>
    by_cases c : n = 0
    · subst c
      exact Nat.le_refl _
    · have h := atMost_pos hb (n := n) (by omega)
      have := ih (n - atMost b n) (by omega)
      rw [few_pos hb (by omega), List.length_cons]
      have := (atMost_spec hb n).2.1
      omega
theorem few_nil_iff {b n : Nat} (hb : 2 ≤ b) : (few b n).length = 0 ↔ n = 0 := by
  constructor
  · intro h
    apply Classical.byContradiction
    intro c
    rw [few_pos hb (by omega), List.length_cons] at h
    omega
  · intro h
    subst h
    rfl
theorem few_one_iff {b n : Nat} (hb : 2 ≤ b) (h : 1 ≤ n) : (few b n).length = 1 ↔ pal b n = true := by
  rw [few_pos hb h, List.length_cons]
  obtain ⟨p, q, _⟩ := atMost_spec hb n
  constructor
  · intro e
    have e0 : (few b (n - atMost b n)).length = 0 := by omega
    rw [few_nil_iff hb] at e0
    have e1 : atMost b n = n := by omega
    rw [e1] at p
    exact p
  · intro e
    rw [atMost_pal hb e, Nat.sub_self]
    rfl
theorem few_two {b n : Nat} (hb : 2 ≤ b) (h : 1 ≤ n) (e : (few b n).length = 2) : two b n ≠ [] := by
  rw [few_pos hb h, List.length_cons] at e
  obtain ⟨p, q, _⟩ := atMost_spec hb n
  have e1 : (few b (n - atMost b n)).length = 1 := by omega
  have h1 : 1 ≤ n - atMost b n := by
    apply Classical.byContradiction
    intro c
    have e0 : n - atMost b n = 0 := by omega
    rw [e0] at e1
    simp [few, fewGo] at e1
  have p2 := (few_one_iff hb h1).mp e1
  have le := atMost_max hb p2 (show n - atMost b n ≤ n by omega)
  have m := two_mem_of (b := b) (n := n) (x := atMost b n) (atMost_pos hb h) (by omega) (by omega) p p2
  intro c
  rw [c] at m
  simp at m
end Mir
namespace Mir
open PySem PySem.Spec PyProof.Rows L2 Evl
open C8 (Cal pe_c)
/-! ## a def of the text, and its promise -/
structure DefAt (K : PySem.W.Frag) (mg : Str → Option Value) (x : Str) (st : Stmt) (ps : List Str) : Prop where
  ex : ∃ (f : Addr) (fd : FuncData), FunD K x x (defArgs st) (defBody st) (defScope st) [] [] f fd ∧ mg x = some (.ref f) ∧ Binds K fd ps []
section
variable {P : Program} {w : World} {K : PySem.W.Frag} {mg : Str → Option Value} {base : Heap}
theorem DefAt.cal {x : Str} {st : Stmt} {N ps : List Str} {k : Nat} {sp : Sp} (D : DefAt K mg x st ps) (S : FnScope N ps (defScope st)) (len : ∀ vs H Q E, sp vs H Q E → vs.length = ps.length)
    (hbody : ∀ (f : Addr) (cdv : Value) (A : Around) (outer : List Env) (s : Shared) (H : Hp) (vs : List V) (Q : VK) (E : XK), Room k (A.deeper (envOfC x (defScope st) s.heap.objs.size f cdv)) → sp vs H Q E →
      ∃ t, PSs (cxOf CX0 P w K mg base N x (defScope st) f cdv A outer s H E).nox (defBody st) t ∧ t { nx := fun _ H' => Q .non H', rt := Q } (start N vs) H) : Cal P w K mg base (k + 1) x sp [] := by
  obtain ⟨f, fd, F, hm, hb⟩ := D.ex
  refine ⟨⟨f, fd, ps, [], F.ok S len fun cdv A outer s H vs Q E hr h => ?_, hm, F.kp, hb, .nil⟩⟩
  obtain ⟨t, h1, h2⟩ := hbody f cdv A outer s H vs Q E hr h
  exact ⟨t, PSs.nox h1, h2⟩
end
/-! ## more words for readings -/
/-- the values of a list of numbers -/
abbrev nI (n : Nat) : V := V.int (n : Int)
abbrev nats (l : List Nat) : List V := l.map nI
def RetU (xs : List V) (H : Hp) (Q : VK) : Prop := ∀ p H2, H p = none → Ex H H2 → H2 p = some (.tup xs) → Q (.ref p) H2
def SpU (sp : Sp) (vs : List V) (H : Hp) (xs : List V) : Prop := ∀ H1, Ex H H1 → ∀ Q : VK, (∀ p H2, H1 p = none → Ex H1 H2 → H2 p = some (.tup xs) → Q (.ref p) H2) → ∀ E : XK, sp vs H1 Q E
section
variable {K : PySem.W.Frag} {σ : L2.St} {H H' : Hp} {ta tb te tx : TE} {t u : TT} {x y z v : V} {r : R2} {D : Ends} {tu tw tz : TS} {g : TG}
theorem eu_call {sp : Sp} {dvs vs xs : List V} {E : XK} {ta : TA} (h : EvA ta σ H vs) (hs : SpU sp (vs ++ dvs) H xs) : EvU (tCall sp dvs E ta) σ H xs := fun H1 e Q q =>
  h H1 e _ fun H2 e2 => hs H2 (e.trans e2) Q (fun p H3 hp e3 h3 => q p H3 (fresh_back e2 hp) (e2.trans e3) h3) E
theorem EvU.mono {xs : List V} (e : Ex H H') (h : EvU te σ H xs) : EvU te σ H' xs := fun H1 a Q q => h H1 (e.trans a) Q q
/-- a call whose first argument is a new list -/
theorem ev_callL {sp : Sp} {vs xs : List V} {E : XK} {tr : TA} (h : EvL te σ H xs) (hr : ∀ H1, Ex H H1 → EvA tr σ H1 vs) (hs : ∀ p H1, Ex H H1 → H1 p = some (.lst xs) → SpV sp (.ref p :: vs) H1 z) : Ev (tCall sp [] E (tCons te tr)) σ H z := fun H1 e Q q =>
  h H1 e _ fun p H2 hp e2 h2 => hr H2 (e.trans e2) H2 (Ex.refl H2) _ fun H3 e3 => by
    have g := hs p H3 ((e.trans e2).trans e3) (e3 p _ h2) H3 (Ex.refl H3) Q (fun H4 e4 => q H4 ((e2.trans e3).trans e4)) E
    have e0 : V.ref p :: vs ++ [] = V.ref p :: vs := List.append_nil _
    rw [← e0] at g
    exact g
theorem el_rev {a : Addr} {xs : List V} (h : Ev te σ H (.ref a)) (hx : SqL K H a xs) : EvL (tRevL K te) σ H xs.reverse := fun H1 e Q q =>
  h H1 e _ fun H2 e2 => ⟨a, xs, rfl, ex_l (e.trans e2) hx, fun p hp => q p _ (fresh_back e2 hp) (e2.trans (Ex.new hp)) upd_same⟩
theorem el_revL {xs : List V} (h : EvL te σ H xs) : EvL (tRevL K te) σ H xs.reverse := fun H1 e Q q =>
  h H1 e _ fun a H2 ha e2 hx => ⟨a, xs, rfl, sq_of hx, fun p hp => q p _ (fresh_back e2 hp) (e2.trans (Ex.new hp)) upd_same⟩
/-- a + b, a known, b new -/
theorem el_catL {a : Addr} {xs ys : List V} (h : Ev ta σ H (.ref a)) (hx : H a = some (.lst xs)) (hb : EvL tb σ H ys) (hz : xs.length + ys.length ≤ 100000) : EvL (tOp rCat ta tb) σ H (xs ++ ys) := fun H1 e Q q =>
  h H1 e _ fun H2 e2 => hb H2 (e.trans e2) _ fun b H3 hbn e3 hy => ⟨a, b, xs, ys, rfl, rfl, ((e.trans e2).trans e3) a _ hx, hy, sz_of hz, fun p hp => q p _ (fresh_back (e2.trans e3) hp) ((e2.trans e3).trans (Ex.new hp)) upd_same⟩
theorem el_catLL {xs ys : List V} (ha : EvL ta σ H xs) (hb : ∀ H1, Ex H H1 → EvL tb σ H1 ys) (hz : xs.length + ys.length ≤ 100000) : EvL (tOp rCat ta tb) σ H (xs ++ ys) := fun H1 e Q q =>
  ha H1 e _ fun a H2 han e2 hx => hb H2 (e.trans e2) H2 (Ex.refl H2) _ fun b H3 hbn e3 hy => ⟨a, b, xs, ys, rfl, rfl, e3 a _ hx, hy, sz_of hz, fun p hp => q p _ (fresh_back (e2.trans e3) hp) ((e2.trans e3).trans (Ex.new hp)) upd_same⟩
theorem ev_chain {r r' : R2} {tc : TE} {w : V} {a b : Bool} (ha : Ev ta σ H x) (hb : Ev tb σ H y) (hr : RV r x y H (.bl a)) (hc : a = true → Ev tc σ H w) (hr' : a = true → RV r' y w H (.bl b)) : Ev (tChain r r' ta tb tc) σ H (.bl (a && b)) := fun H1 e Q q =>
  ha H1 e _ fun H2 e2 => hb H2 (e.trans e2) _ fun H3 e3 => hr H3 ((e.trans e2).trans e3) _ fun H4 e4 => ⟨a, rfl, by
    cases a with
    | true =>
      show tc σ H4 fun w' H4 => r' y w' H4 Q
      exact hc rfl H4 (((e.trans e2).trans e3).trans e4) _ fun H5 e5 => hr' rfl H5 ((((e.trans e2).trans e3).trans e4).trans e5) Q fun H6 e6 => q H6 ((((e2.trans e3).trans e4).trans e5).trans e6)
    | false =>
      show Q (.bl false) H4
      exact q H4 ((e2.trans e3).trans e4)⟩
/-- name op= e, by any rule -/
theorem s_augR {i : Nat} {ti : TIp} (hx : σ[i]? = some (some x)) (h : Ev te σ H y) (hr : RV ti x y H z) (k : ∀ H1, Ex H H1 → D.nx (σ.set i (some z)) H1) : tAug i te ti D σ H :=
  ⟨x, hx, h H (Ex.refl H) _ fun H1 e => hr H1 e _ fun H2 e2 => k H2 (e.trans e2)⟩
theorem q_augR {i : Nat} {ti : TIp} (hx : σ[i]? = some (some x)) (h : Ev te σ H y) (hr : RV ti x y H z) (k : ∀ H1, Ex H H1 → tz D (σ.set i (some z)) H1) : tSeq (tAug i te ti) tz D σ H := s_augR (D := { D with nx := tz D }) hx h hr k
/-- a, b = a new pair -/
theorem q_asg2 {i j : Nat} (h : EvU te σ H [x, y]) (k : ∀ H1, Ex H H1 → tz D ((σ.set i (some x)).set j (some y)) H1) : tSeq (tAsg te (gTup K 2 (gCons (gName i) (gCons (gName j) gNil)))) tz D σ H :=
  h H (Ex.refl H) _ fun p H1 hp e1 h1 => ⟨p, [x, y], rfl, st_of h1, rfl, x, [y], rfl, y, [], rfl, rfl, k H1 e1⟩
/-- isinstance(n, T) of a number -/
theorem rc_isi {n : Int} {T : String} {b : Bool} (hk : kitB "int" T = some b) : RC (rIsi K) [.int n, .ty T] H (.bl b) := fun H1 _ _ q => ⟨.int n, .ty T, _, _, b, rfl, .ty T, .base (.int n), kit_ty hk, q H1 (Ex.refl H1)⟩
theorem rc_int1 {b : Bool} : RC (fun xs H Q => (∃ i, xs = [.int i] ∧ Q (.int i) H) ∨ ∃ k, xs = [.bl k] ∧ Q (.int (if k then 1 else 0)) H) [.bl b] H (.int (if b then 1 else 0)) := fun H1 _ _ q => .inr ⟨b, rfl, q H1 (Ex.refl H1)⟩
theorem ev_lenA {p : Addr} {xs : List V} (ha : Ev ta σ H (.ref p)) (h : SqL K H p xs) : Ev (tCB (fun vs H Q => ∃ p ys, vs = [.ref p] ∧ (SqL K H p ys ∨ SqT K H p ys) ∧ Q (.int ys.length) H) (tCons ta tNil)) σ H (.int (xs.length : Int)) := ev_len ha h
/-- len of a new list -/
theorem ev_lenNew {xs : List V} (ha : EvL ta σ H xs) : Ev (tCB (fun vs H Q => ∃ p ys, vs = [.ref p] ∧ (SqL K H p ys ∨ SqT K H p ys) ∧ Q (.int ys.length) H) (tCons ta tNil)) σ H (.int (xs.length : Int)) := ev_lenN ha
theorem ev_sumNew {ns : List Int} (ha : EvL ta σ H (ns.map V.int)) : Ev (tCB (rSum K) (tCons ta tNil)) σ H (.int ns.sum) := fun H1 e Q q =>
  ha H1 e _ fun p H2 _ e2 h2 => ⟨p, ns, rfl, sq_of h2, q H2 e2⟩
theorem cmul_r {i j : Int} (h : -(2 ^ 64) < j ∧ j < 2 ^ 64) : CMul i j := .inr h
theorem cmul_l {i j : Int} (h : -(2 ^ 64) < i ∧ i < 2 ^ 64) : CMul i j := .inl h
end
theorem EvL.is {te : TE} {σ : L2.St} {H : Hp} {xs ys : List V} (h : EvL te σ H xs) (e : xs = ys) : EvL te σ H ys := by
  rw [← e]
  exact h
/-! ## numbers from 0 on -/
section
variable {σ : L2.St} {H : Hp} {ta tb : TE} {a b : Nat}
theorem ev_addN (ha : Ev ta σ H (nI a)) (hb : Ev tb σ H (nI b)) : Ev (tOp (rI0 fun i j => .int (i + j)) ta tb) σ H (nI (a + b)) := ev_is (ev_op ha hb rv_I0) (congrArg V.int (by omega))
theorem ev_subN (ha : Ev ta σ H (nI a)) (hb : Ev tb σ H (nI b)) (h : b ≤ a) : Ev (tOp (rI0 fun i j => .int (i - j)) ta tb) σ H (nI (a - b)) := ev_is (ev_op ha hb rv_I0) (congrArg V.int (by omega))
theorem ev_mulL (ha : Ev ta σ H (nI a)) (hb : Ev tb σ H (nI b)) (h : a < 1000000) : Ev (tOp (rI CMul fun i j => .int (i * j)) ta tb) σ H (nI (a * b)) := ev_is (ev_op ha hb (rv_I (cmul_l ⟨by omega, by omega⟩))) (congrArg V.int (Int.natCast_mul a b).symm)
theorem ev_mulR (ha : Ev ta σ H (nI a)) (hb : Ev tb σ H (nI b)) (h : b < 1000000) : Ev (tOp (rI CMul fun i j => .int (i * j)) ta tb) σ H (nI (a * b)) := ev_is (ev_op ha hb (rv_I (cmul_r ⟨by omega, by omega⟩))) (congrArg V.int (Int.natCast_mul a b).symm)
theorem ev_divN (ha : Ev ta σ H (nI a)) (hb : Ev tb σ H (nI b)) (h : 0 < b ∧ b < 1000000) : Ev (tOp (rI CDiv fun i j => .int (i / j)) ta tb) σ H (nI (a / b)) := ev_is (ev_op ha hb (rv_I ⟨by omega, by omega⟩)) (congrArg V.int (Int.natCast_ediv a b).symm)
theorem ev_modN (ha : Ev ta σ H (nI a)) (hb : Ev tb σ H (nI b)) (h : 0 < b) : Ev (tOp (rI (fun _ j => 0 < j) fun i j => .int (i % j)) ta tb) σ H (nI (a % b)) := ev_is (ev_op ha hb (rv_I (show (0 : Int) < (b : Int) by omega))) (congrArg V.int (Int.natCast_emod a b).symm)
theorem et_ltN (ha : Ev ta σ H (nI a)) (hb : Ev tb σ H (nI b)) : EvT (tTest (tOp (rI0 fun i j => .bl (decide (i < j))) ta tb)) σ H (decide (a < b)) := et_is (et_test (ev_op ha hb rv_I0)) (decide_eq_decide.mpr (by omega))
theorem et_leN (ha : Ev ta σ H (nI a)) (hb : Ev tb σ H (nI b)) : EvT (tTest (tOp (rI0 fun i j => .bl (decide (i ≤ j))) ta tb)) σ H (decide (a ≤ b)) := et_is (et_test (ev_op ha hb rv_I0)) (decide_eq_decide.mpr (by omega))
theorem et_gtN (ha : Ev ta σ H (nI a)) (hb : Ev tb σ H (nI b)) : EvT (tTest (tOp (rI0 fun i j => .bl (decide (j < i))) ta tb)) σ H (decide (b < a)) := et_is (et_test (ev_op ha hb rv_I0)) (decide_eq_decide.mpr (by omega))
theorem et_geN (ha : Ev ta σ H (nI a)) (hb : Ev tb σ H (nI b)) : EvT (tTest (tOp (rI0 fun i j => .bl (decide (j ≤ i))) ta tb)) σ H (decide (b ≤ a)) := et_is (et_test (ev_op ha hb rv_I0)) (decide_eq_decide.mpr (by omega))
theorem nI_inj {a b : Nat} : (nI a = nI b) ↔ a = b := ⟨fun z => by have := V.int.inj z; omega, fun z => by rw [z]⟩
theorem ev_eqN (ha : Ev ta σ H (nI a)) (hb : Ev tb σ H (nI b)) : Ev (tOp rEq ta tb) σ H (.bl (decide (a = b))) := ev_is (ev_op ha hb (rv_eq rfl)) (congrArg V.bl (decide_eq_decide.mpr nI_inj))
theorem ev_neN (ha : Ev ta σ H (nI a)) (hb : Ev tb σ H (nI b)) : Ev (tOp rNe ta tb) σ H (.bl (!decide (a = b))) := ev_is (ev_op ha hb (rv_ne rfl)) (congrArg (fun z => V.bl (!z)) (decide_eq_decide.mpr nI_inj))
theorem ev_leN (ha : Ev ta σ H (nI a)) (hb : Ev tb σ H (nI b)) : Ev (tOp (rI0 fun i j => .bl (decide (i ≤ j))) ta tb) σ H (.bl (decide (a ≤ b))) := ev_is (ev_op ha hb rv_I0) (congrArg V.bl (decide_eq_decide.mpr (by omega)))
theorem ev_ltN (ha : Ev ta σ H (nI a)) (hb : Ev tb σ H (nI b)) : Ev (tOp (rI0 fun i j => .bl (decide (i < j))) ta tb) σ H (.bl (decide (a < b))) := ev_is (ev_op ha hb rv_I0) (congrArg V.bl (decide_eq_decide.mpr (by omega)))
theorem ev_cN (n : Nat) : Ev (tC (.int (n : Int))) σ H (nI n) := ev_c
end
/-! ## equal lists of numbers -/
theorem eqvAll_ints : ∀ (ns ms : List Int), PyData.eqvAll (ns.map PyData.int) (ms.map PyData.int) = decide (ns = ms)
  | [], [] => rfl
  | [], _ :: _ => rfl
  | _ :: _, [] => rfl
  | n :: ns, m :: ms => by
    rw [List.map_cons, List.map_cons, PyData.eqvAll, PyData.eqv, eqvAll_ints ns ms]
    by_cases h : n = m
    · subst h
      simp
    · have h1 : (n == m) = false := beq_eq_false_iff_ne.mpr h
      rw [h1, decide_eq_false (fun z => h (List.cons.inj z).1)]
      rfl
theorem canLayAll0_ints : ∀ ns : List Int, PyData.canLayAll0 (ns.map PyData.int) = true
  | [] => rfl
  | n :: ns => by
    rw [List.map_cons, PyData.canLayAll0, canLayAll0_ints ns]
    rfl
theorem depthAll_ints : ∀ ns : List Int, PyData.depthAll (ns.map PyData.int) ≤ 1
  | [] => by simp [PyData.depthAll]
  | n :: ns => by
    have := depthAll_ints ns
    simp only [List.map_cons, PyData.depthAll, PyData.depth]
    omega
theorem shaped_ints (ns : List Int) (h : ns.length ≤ sizeLine) : SeqAt.shaped (.list (ns.map PyData.int)) = true := by
  unfold SeqAt.shaped
  have h2 := depthAll_ints ns
  rw [Bool.and_eq_true_iff]
  constructor
  · rw [PyData.canLay0]
    first
      | exact canLayAll0_ints ns
      | (rw [canLayAll0_ints ns]; simp; exact h)
  · rw [decide_eq_true_iff, PyData.depth]
    omega
theorem dpAll_ints {K : PySem.W.Frag} {H : Hp} : ∀ ns : List Int, DpAll K H (ns.map V.int) (ns.map PyData.int)
  | [] => .nil
  | n :: ns => .cons (.int n) (dpAll_ints ns)
/-- two known lists of numbers compared -/
theorem rv_eqInts {K : PySem.W.Frag} {H : Hp} {a b : Addr} {ns ms : List Int} (ha : SqL K H a (ns.map V.int)) (hb : SqL K H b (ms.map V.int)) (h1 : ns.length ≤ sizeLine) (h2 : ms.length ≤ sizeLine) : RV (rEqD K) (.ref a) (.ref b) H (.bl (decide (ns = ms))) := fun H1 e Q q => by
  refine ⟨.list (ns.map PyData.int), .list (ms.map PyData.int), .lst (ex_l e ha) (dpAll_ints ns), .lst (ex_l e hb) (dpAll_ints ms), shaped_ints ns h1, shaped_ints ms h2, ?_⟩
  have g : PyData.eqv (.list (ns.map PyData.int)) (.list (ms.map PyData.int)) = decide (ns = ms) := by
    rw [PyData.eqv]
    exact eqvAll_ints ns ms
  rw [g]
  exact q H1 (Ex.refl H1)
end Mir
namespace Mir
open PySem PySem.Spec PyProof.Rows L2 Evl
/-! ## defs that raise; the own errors -/
structure ExcAt (K : PySem.W.Frag) (mg : Str → Option Value) (x : Str) : Prop where
  ex : PySem.W.excIn K (He.ga K x) He.veBase "ValueError.__new__" = true
  gl : mg x = some (.ref (He.ga K x))
  kp : PySem.W.keepIn K (.ref (He.ga K x)) = true
  sb : PySem.W.subIn K (.ref (He.ga K x)) (.type "BaseException") = some true
  ty : PySem.W.typeIn K (.ref (He.ga K x)) = some (.type "type")
theorem excAt {K : PySem.W.Frag} {h : Heap} {mg : Str → Option Value} {x : Str} (X : K.In h) (G : h.Ns mainGlobals mg) (g : (He.Fa.glo x).ok K = true) (c : (He.Fa.exc x).ok K = true) : ExcAt K mg x :=
  have e := He.exc_ok c
  ⟨e.1, He.glo_ok X G g, e.2.1, e.2.2.1, e.2.2.2⟩
structure CalX (P : Program) (w : World) (K : PySem.W.Frag) (mg : Str → Option Value) (base : Heap) (k : Nat) (x : Str) (sp : Sp) : Prop where
  ex : ∃ (f : Addr) (fd : FuncData) (ps : List Str), FnOk P w K mg base (L2.CX P w) k f fd ps sp ∧ mg x = some (.ref f) ∧ PySem.W.keepIn K (.ref f) = true ∧ Binds K fd ps []
section
variable {P : Program} {w : World} {K : PySem.W.Frag} {mg : Str → Option Value} {base : Heap}
theorem DefAt.calX {x : Str} {st : Stmt} {N ps : List Str} {k : Nat} {sp : Sp} (D : DefAt K mg x st ps) (S : FnScope N ps (defScope st)) (len : ∀ vs H Q E, sp vs H Q E → vs.length = ps.length)
    (hbody : ∀ (f : Addr) (cdv : Value) (A : Around) (outer : List Env) (s : Shared) (H : Hp) (vs : List V) (Q : VK) (E : XK), Room k (A.deeper (envOfC x (defScope st) s.heap.objs.size f cdv)) → sp vs H Q E →
      ∃ t, PSs (cxOf (L2.CX P w) P w K mg base N x (defScope st) f cdv A outer s H E) (defBody st) t ∧ t { nx := fun _ H' => Q .non H', rt := Q } (start N vs) H) : CalX P w K mg base (k + 1) x sp := by
  obtain ⟨f, fd, F, hm, hb⟩ := D.ex
  exact ⟨⟨f, fd, ps, F.ok S len fun cdv A outer s H vs Q E hr h => hbody f cdv A outer s H vs Q E hr h, hm, F.kp, hb⟩⟩
end
section
variable {X : Cx} {k j : Nat} {x : Str} {sp : Sp} {p pos : Pos} {e : Expr} {es : List Expr} {t : TA}
/-- a call that may raise, in a def that may raise -/
theorem pe_cX {E : XK} (c : CalX X.prog X.w X.K X.mg X.base k x sp) (hr : Room j X.A) (hk : k ≤ j) (hg : Gl X x) (tk : Takes X (fun cls d _ H => E cls d H)) (ha : PA X (e :: es) t)
    (hdb : (x == ("__debug__" : Str)) = false := by decide) (he : starEach (e :: es) X.env = (false, eval e X.env) :: starEach es X.env := by rfl) (hpl : (backTo pos (starEach es X.env)).any (·.1) = false := by rfl) :
    PE X (.Call (.Name x p) (e :: es) [] pos) (tCall sp [] E t) := by
  obtain ⟨f, fd, ps, F, hm, kp, b⟩ := c.ex
  exact pe_call F (hr.mono hk) hg hm kp b .nil (passes_call tk fun _ _ _ _ z => z) ha hdb he hpl
/-- .. in a try -/
theorem pe_cT {W : WX} (c : CalX X.prog X.w X.K X.mg X.base k x sp) (hr : Room j X.A) (hk : k ≤ j) (hg : Gl X x) (tk : Takes X W) (ha : PA X (e :: es) t)
    (hdb : (x == ("__debug__" : Str)) = false := by decide) (he : starEach (e :: es) X.env = (false, eval e X.env) :: starEach es X.env := by rfl) (hpl : (backTo pos (starEach es X.env)).any (·.1) = false := by rfl) :
    PE X (.Call (.Name x p) (e :: es) [] pos) (tCallS sp (WE W) t) := by
  obtain ⟨f, fd, ps, F, hm, kp, b⟩ := c.ex
  exact pe_callS F (hr.mono hk) hg hm kp b (fun σ => passAt tk σ) ha hdb he hpl
/-- raise X('..') -/
theorem ps_raiseE {m : Str} {j : Nat} {p p2 pos : Pos} {rp : Pos} {W : WX} (hc : X.calm = true) (tk : Takes X W) (e : ExcAt X.K X.mg x) (hg : Gl X x) (hdb : (x == ("__debug__" : Str)) = false := by decide) :
    PS X (.Raise (some (.Call (.Name x p) [.Constant (.str m) j p2] [] pos)) none rp) (fun _ σ H => W (.ref (He.ga X.K x)) none σ H) :=
  ps_raise hc tk (pmk_own PySem.F.excBase_ValueError e.ex e.gl e.kp (raises_own e.sb e.ty) hg hdb)
end
end Mir
namespace Mir
open PySem PySem.Spec PyProof.Rows L2 Evl
open C8 (Cal pe_c)
/-! ## the text by places -/
def top (i : Nat) : Stmt := PySem.Challenge.pw_mirrorsums_k32_whole_again_and_shared.main.body.getD i (.Pass ⟨0, 0, 0, 0⟩)
abbrev s_is_whole : Stmt := top 6
abbrev nm_is_whole : List Str := ["thing"]
theorem sc_is_whole : FnScope nm_is_whole ["thing"] (defScope s_is_whole) := ⟨rfl, rfl, rfl, by decide +kernel, rfl, by decide +kernel, by decide +kernel⟩
abbrev s_need_base : Stmt := top 7
abbrev nm_need_base : List Str := ["base"]
theorem sc_need_base : FnScope nm_need_base ["base"] (defScope s_need_base) := ⟨rfl, rfl, rfl, by decide +kernel, rfl, by decide +kernel, by decide +kernel⟩
abbrev s_figures_of : Stmt := top 8
abbrev nm_figures_of : List Str := ["number", "base", "found"]
theorem sc_figures_of : FnScope nm_figures_of ["number", "base"] (defScope s_figures_of) := ⟨rfl, rfl, rfl, by decide +kernel, rfl, by decide +kernel, by decide +kernel⟩
abbrev s_put_together : Stmt := top 9
abbrev nm_put_together : List Str := ["some", "base", "number", "figure"]
theorem sc_put_together : FnScope nm_put_together ["some", "base"] (defScope s_put_together) := ⟨rfl, rfl, rfl, by decide +kernel, rfl, by decide +kernel, by decide +kernel⟩
abbrev s_power_of : Stmt := top 11
abbrev nm_power_of : List Str := ["base", "many", "found", "turn"]
theorem sc_power_of : FnScope nm_power_of ["base", "many"] (defScope s_power_of) := ⟨rfl, rfl, rfl, by decide +kernel, rfl, by decide +kernel, by decide +kernel⟩
abbrev s_half_of : Stmt := top 12
abbrev nm_half_of : List Str := ["number", "base", "some"]
theorem sc_half_of : FnScope nm_half_of ["number", "base"] (defScope s_half_of) := ⟨rfl, rfl, rfl, by decide +kernel, rfl, by decide +kernel, by decide +kernel⟩
abbrev s_mirror_of : Stmt := top 13
abbrev nm_mirror_of : List Str := ["half", "size", "base", "some"]
theorem sc_mirror_of : FnScope nm_mirror_of ["half", "size", "base"] (defScope s_mirror_of) := ⟨rfl, rfl, rfl, by decide +kernel, rfl, by decide +kernel, by decide +kernel⟩
abbrev s_many_of_size : Stmt := top 14
abbrev nm_many_of_size : List Str := ["size", "base"]
theorem sc_many_of_size : FnScope nm_many_of_size ["size", "base"] (defScope s_many_of_size) := ⟨rfl, rfl, rfl, by decide +kernel, rfl, by decide +kernel, by decide +kernel⟩
abbrev s_many_to : Stmt := top 15
abbrev nm_many_to : List Str := ["number", "base", "size", "half", "many", "lesser"]
theorem sc_many_to : FnScope nm_many_to ["number", "base"] (defScope s_many_to) := ⟨rfl, rfl, rfl, by decide +kernel, rfl, by decide +kernel, by decide +kernel⟩
abbrev s_mirrored_at : Stmt := top 16
abbrev nm_mirrored_at : List Str := ["place", "base", "left", "size"]
theorem sc_mirrored_at : FnScope nm_mirrored_at ["place", "base"] (defScope s_mirrored_at) := ⟨rfl, rfl, rfl, by decide +kernel, rfl, by decide +kernel, by decide +kernel⟩
abbrev s_mirrored_to : Stmt := top 18
abbrev nm_mirrored_to : List Str := ["number", "base", "place"]
theorem sc_mirrored_to : FnScope nm_mirrored_to ["number", "base"] (defScope s_mirrored_to) := ⟨rfl, rfl, rfl, by decide +kernel, rfl, by decide +kernel, by decide +kernel⟩
abbrev s_greatest_by : Stmt := top 19
abbrev nm_greatest_by : List Str := ["rising", "places", "number", "many", "most", "part", "rest"]
theorem sc_greatest_by : FnScope nm_greatest_by ["rising", "places", "number", "many", "most"] (defScope s_greatest_by) := ⟨rfl, rfl, rfl, by decide +kernel, rfl, by decide +kernel, by decide +kernel⟩
abbrev s_fewest : Stmt := top 20
abbrev nm_fewest : List Str := ["number", "base", "rising", "places", "found", "many", "at", "part"]
theorem sc_fewest : FnScope nm_fewest ["number", "base"] (defScope s_fewest) := ⟨rfl, rfl, rfl, by decide +kernel, rfl, by decide +kernel, by decide +kernel⟩
abbrev s_counts_by : Stmt := top 22
abbrev nm_counts_by : List Str := ["parts", "number", "many", "found", "part", "rows", "count", "left", "row"]
theorem sc_counts_by : FnScope nm_counts_by ["parts", "number", "many"] (defScope s_counts_by) := ⟨rfl, rfl, rfl, by decide +kernel, rfl, by decide +kernel, by decide +kernel⟩
abbrev s_many_ways : Stmt := top 23
abbrev nm_many_ways : List Str := ["number", "base", "many"]
theorem sc_many_ways : FnScope nm_many_ways ["number", "base", "many"] (defScope s_many_ways) := ⟨rfl, rfl, rfl, by decide +kernel, rfl, by decide +kernel, by decide +kernel⟩
abbrev s_all_ways : Stmt := top 24
abbrev nm_all_ways : List Str := ["number", "base", "parts", "ways", "part", "left"]
theorem sc_all_ways : FnScope nm_all_ways ["number", "base"] (defScope s_all_ways) := ⟨rfl, rfl, rfl, by decide +kernel, rfl, by decide +kernel, by decide +kernel⟩
abbrev s_way_at : Stmt := top 25
abbrev nm_way_at : List Str := ["number", "base", "many", "place", "parts", "counts", "way", "left", "before", "at", "more", "part", "here"]
theorem sc_way_at : FnScope nm_way_at ["number", "base", "many", "place"] (defScope s_way_at) := ⟨rfl, rfl, rfl, by decide +kernel, rfl, by decide +kernel, by decide +kernel⟩
abbrev s_need_way : Stmt := top 26
abbrev nm_need_way : List Str := ["number", "parts", "thing", "part", "one", "other"]
theorem sc_need_way : FnScope nm_need_way ["number", "parts", "thing"] (defScope s_need_way) := ⟨rfl, rfl, rfl, by decide +kernel, rfl, by decide +kernel, by decide +kernel⟩
abbrev s_way_place : Stmt := top 27
abbrev nm_way_place : List Str := ["number", "base", "thing", "parts", "counts", "found", "left", "most", "at", "own"]
theorem sc_way_place : FnScope nm_way_place ["number", "base", "thing"] (defScope s_way_place) := ⟨rfl, rfl, rfl, by decide +kernel, rfl, by decide +kernel, by decide +kernel⟩
abbrev s_table : Stmt := top 29
abbrev nm_table : List Str := ["bound", "base", "parts", "found", "number", "part"]
theorem sc_table : FnScope nm_table ["bound", "base"] (defScope s_table) := ⟨rfl, rfl, rfl, by decide +kernel, rfl, by decide +kernel, by decide +kernel⟩
abbrev s_how_many : Stmt := top 30
abbrev nm_how_many : List Str := ["bound", "base", "many"]
theorem sc_how_many : FnScope nm_how_many ["bound", "base", "many"] (defScope s_how_many) := ⟨rfl, rfl, rfl, by decide +kernel, rfl, by decide +kernel, by decide +kernel⟩
abbrev s_hardest : Stmt := top 31
abbrev nm_hardest : List Str := ["bound", "base", "found", "most", "number", "many"]
theorem sc_hardest : FnScope nm_hardest ["bound", "base"] (defScope s_hardest) := ⟨rfl, rfl, rfl, by decide +kernel, rfl, by decide +kernel, by decide +kernel⟩
abbrev s__law_hand : Stmt := top 33
abbrev nm__law_hand : List Str := ["cell", "k", "digits"]
theorem sc__law_hand : FnScope nm__law_hand ["cell", "k"] (defScope s__law_hand) := ⟨rfl, rfl, rfl, by decide +kernel, rfl, by decide +kernel, by decide +kernel⟩
abbrev s__law_draw : Stmt := top 34
abbrev nm__law_draw : List Str := ["hand", "limit", "got"]
theorem sc__law_draw : FnScope nm__law_draw ["hand", "limit"] (defScope s__law_draw) := ⟨rfl, rfl, rfl, by decide +kernel, rfl, by decide +kernel, by decide +kernel⟩
abbrev s__law_cells : Stmt := top 35
abbrev nm__law_cells : List Str := ["script", "many"]
theorem sc__law_cells : FnScope nm__law_cells ["script", "many"] (defScope s__law_cells) := ⟨rfl, rfl, rfl, by decide +kernel, rfl, by decide +kernel, by decide +kernel⟩
abbrev s__law_base : Stmt := top 36
abbrev nm__law_base : List Str := ["hand", "way"]
theorem sc__law_base : FnScope nm__law_base ["hand"] (defScope s__law_base) := ⟨rfl, rfl, rfl, by decide +kernel, rfl, by decide +kernel, by decide +kernel⟩
abbrev s__law_number : Stmt := top 37
abbrev nm__law_number : List Str := ["hand", "base", "most", "way", "power", "turn", "some"]
theorem sc__law_number : FnScope nm__law_number ["hand", "base", "most"] (defScope s__law_number) := ⟨rfl, rfl, rfl, by decide +kernel, rfl, by decide +kernel, by decide +kernel⟩
abbrev s__law_asked : Stmt := top 39
abbrev nm__law_asked : List Str := ["at", "world", "base", "number", "many", "drawn", "every", "way", "kept", "place"]
theorem sc__law_asked : FnScope nm__law_asked ["at", "world"] (defScope s__law_asked) := ⟨rfl, rfl, rfl, by decide +kernel, rfl, by decide +kernel, by decide +kernel⟩
abbrev s__law_refused : Stmt := top 40
abbrev nm__law_refused : List Str := ["world", "turn", "base", "number", "many", "drawn", "caught"]
theorem sc__law_refused : FnScope nm__law_refused ["world", "turn"] (defScope s__law_refused) := ⟨rfl, rfl, rfl, by decide +kernel, rfl, by decide +kernel, by decide +kernel⟩
abbrev s_law : Stmt := top 41
abbrev nm_law : List Str := ["script", "k", "cell", "hand", "worlds", "j", "base", "first", "turn", "at", "which", "told", "written", "one"]
theorem sc_law : FnScope nm_law ["script"] (defScope s_law) := ⟨rfl, rfl, rfl, by decide +kernel, rfl, by decide +kernel, by decide +kernel⟩
/-- what the top has written -/
structure Txt (K : PySem.W.Frag) (mg : Str → Option Value) : Prop where
  d_is_whole : DefAt K mg "is_whole" s_is_whole ["thing"]
  d_need_base : DefAt K mg "need_base" s_need_base ["base"]
  d_figures_of : DefAt K mg "figures_of" s_figures_of ["number", "base"]
  d_put_together : DefAt K mg "put_together" s_put_together ["some", "base"]
  d_power_of : DefAt K mg "power_of" s_power_of ["base", "many"]
  d_half_of : DefAt K mg "half_of" s_half_of ["number", "base"]
  d_mirror_of : DefAt K mg "mirror_of" s_mirror_of ["half", "size", "base"]
  d_many_of_size : DefAt K mg "many_of_size" s_many_of_size ["size", "base"]
  d_many_to : DefAt K mg "many_to" s_many_to ["number", "base"]
  d_mirrored_at : DefAt K mg "mirrored_at" s_mirrored_at ["place", "base"]
  d_mirrored_to : DefAt K mg "mirrored_to" s_mirrored_to ["number", "base"]
  d_greatest_by : DefAt K mg "greatest_by" s_greatest_by ["rising", "places", "number", "many", "most"]
  d_fewest : DefAt K mg "fewest" s_fewest ["number", "base"]
  d_counts_by : DefAt K mg "counts_by" s_counts_by ["parts", "number", "many"]
  d_many_ways : DefAt K mg "many_ways" s_many_ways ["number", "base", "many"]
  d_all_ways : DefAt K mg "all_ways" s_all_ways ["number", "base"]
  d_way_at : DefAt K mg "way_at" s_way_at ["number", "base", "many", "place"]
  d_need_way : DefAt K mg "need_way" s_need_way ["number", "parts", "thing"]
  d_way_place : DefAt K mg "way_place" s_way_place ["number", "base", "thing"]
  d_table : DefAt K mg "table" s_table ["bound", "base"]
  d_how_many : DefAt K mg "how_many" s_how_many ["bound", "base", "many"]
  d_hardest : DefAt K mg "hardest" s_hardest ["bound", "base"]
  d__law_hand : DefAt K mg "_law_hand" s__law_hand ["cell", "k"]
  d__law_draw : DefAt K mg "_law_draw" s__law_draw ["hand", "limit"]
  d__law_cells : DefAt K mg "_law_cells" s__law_cells ["script", "many"]
  d__law_base : DefAt K mg "_law_base" s__law_base ["hand"]
  d__law_number : DefAt K mg "_law_number" s__law_number ["hand", "base", "most"]
  d__law_asked : DefAt K mg "_law_asked" s__law_asked ["at", "world"]
  d__law_refused : DefAt K mg "_law_refused" s__law_refused ["world", "turn"]
  d_law : DefAt K mg "law" s_law ["script"]
  f_isinstance : mg "isinstance" = none
  f_int : mg "int" = none
  f_bool : mg "bool" = none
  f_range : mg "range" = none
  f_len : mg "len" = none
  f_sum : mg "sum" = none
  f_dict : mg "dict" = none
  f_enumerate : mg "enumerate" = none
  f_list : mg "list" = none
  f_zip : mg "zip" = none
  f_min : mg "min" = none
  f_max : mg "max" = none
  f_repr : mg "repr" = none
  e_NoBase : ExcAt K mg "NoBase"
  e_NoPlace : ExcAt K mg "NoPlace"
  e_NoWay : ExcAt K mg "NoWay"
  m_NoBase_NoBase : PySem.W.exmOne K (.ref (He.ga K "NoBase")) (.ref (He.ga K "NoBase")) = some true
  m_NoBase_NoPlace : PySem.W.exmOne K (.ref (He.ga K "NoBase")) (.ref (He.ga K "NoPlace")) = some false
  m_NoBase_NoWay : PySem.W.exmOne K (.ref (He.ga K "NoBase")) (.ref (He.ga K "NoWay")) = some false
  m_NoPlace_NoBase : PySem.W.exmOne K (.ref (He.ga K "NoPlace")) (.ref (He.ga K "NoBase")) = some false
  m_NoPlace_NoPlace : PySem.W.exmOne K (.ref (He.ga K "NoPlace")) (.ref (He.ga K "NoPlace")) = some true
  m_NoPlace_NoWay : PySem.W.exmOne K (.ref (He.ga K "NoPlace")) (.ref (He.ga K "NoWay")) = some false
  m_NoWay_NoBase : PySem.W.exmOne K (.ref (He.ga K "NoWay")) (.ref (He.ga K "NoBase")) = some false
  m_NoWay_NoPlace : PySem.W.exmOne K (.ref (He.ga K "NoWay")) (.ref (He.ga K "NoPlace")) = some false
  m_NoWay_NoWay : PySem.W.exmOne K (.ref (He.ga K "NoWay")) (.ref (He.ga K "NoWay")) = some true
end Mir
namespace Mir
open PySem PySem.Spec PyProof.Rows L2 Evl
open C8 (Cal pe_c)
/-! ## figures -/
theorem ln_le {b n k : Nat} (hb : 2 ≤ b) (hk : 1 ≤ k) (h : n < 2 ^ k) : ln b n ≤ k := by
  by_cases h0 : n = 0
  · rw [h0, ln_zero hb]
    exact hk
  · have a := pow_ln_le hb (n := n) (by omega)
    have c : 2 ^ (ln b n - 1) ≤ b ^ (ln b n - 1) := Nat.pow_le_pow_left hb _
    have d := pow_lt_inj (b := 2) (by omega) (Nat.lt_of_le_of_lt (Nat.le_trans c a) h)
    omega
theorem small_b {b : Nat} (h : b ≤ 36) : (-(2 ^ 64) : Int) < (b : Int) ∧ (b : Int) < 2 ^ 64 := ⟨by omega, by omega⟩
def spIsWhole : Sp := fun vs H Q _ => ∃ n : Int, vs = [.int n] ∧ RetV (.bl true) H Q
def spNeedBase : Sp := fun vs H Q _ => ∃ b : Nat, vs = [nI b] ∧ 2 ≤ b ∧ b ≤ 36 ∧ RetV .non H Q
/-- a number and a base -/
structure Good (n b : Nat) : Prop where
  two : 2 ≤ b
  top : b ≤ 36
  lt : n < 2 ^ 200
theorem Good.ln {n b : Nat} (g : Good n b) : ln b n ≤ 200 := ln_le g.two (by omega) g.lt
def spFiguresOf : Sp := fun vs H Q _ => ∃ n b : Nat, vs = [nI n, nI b] ∧ Good n b ∧ RetL (nats (dl b n).reverse) H Q
def spPutTogether (K : PySem.W.Frag) : Sp := fun vs H Q _ => ∃ (a : Addr) (ds : List Nat) (b : Nat), vs = [.ref a, nI b] ∧ SqL K H a (nats ds) ∧ b ≤ 36 ∧ RetV (nI (vg b ds)) H Q
def spIsMirrored : Sp := fun vs H Q _ => ∃ n b : Nat, vs = [nI n, nI b] ∧ Good n b ∧ RetV (.bl (pal b n)) H Q
section
variable {P : Program} {w : World} {K : PySem.W.Frag} {mg : Str → Option Value} {base : Heap}
theorem sv_isWhole {n : Int} {H : Hp} : SpV spIsWhole [.int n] H (.bl true) := fun _ _ _ q _ => ⟨n, rfl, q⟩
theorem sv_needBase {b : Nat} {H : Hp} (h1 : 2 ≤ b) (h2 : b ≤ 36) : SpV spNeedBase [nI b] H .non := fun _ _ _ q _ => ⟨b, rfl, h1, h2, q⟩
theorem sl_figuresOf {n b : Nat} {H : Hp} (g : Good n b) : SpL spFiguresOf [nI n, nI b] H (nats (dl b n).reverse) := fun _ _ _ q _ => ⟨n, b, rfl, g, q⟩
theorem sv_putTogether {a : Addr} {ds : List Nat} {b : Nat} {H : Hp} (hs : SqL K H a (nats ds)) (h2 : b ≤ 36) : SpV (spPutTogether K) [.ref a, nI b] H (nI (vg b ds)) := fun _ e _ q _ => ⟨a, ds, b, rfl, ex_l e hs, h2, q⟩
theorem sv_isMirrored {n b : Nat} {H : Hp} (g : Good n b) : SpV spIsMirrored [nI n, nI b] H (.bl (pal b n)) := fun _ _ _ q _ => ⟨n, b, rfl, g, q⟩
theorem ok_is_whole (Z : Txt K mg) : Cal P w K mg base 1 "is_whole" spIsWhole [] := by
  refine Z.d_is_whole.cal sc_is_whole (fun vs H Q E h => ?_) (fun f cdv A outer s H vs Q E hr h => ?_)
  · obtain ⟨n, rfl, _⟩ := h
    rfl
  · obtain ⟨n, rfl, q⟩ := h
    refine ⟨_, (pss_one (ps_ret (pe_and (pe_callB call_isi (by rfl) Z.f_isinstance (by decide +kernel) (pa_cons (pv 0) (pa_cons (pe_bltn (v := .ty "int") (by rfl) Z.f_int (by decide +kernel) rfl) pa_nil))) (pe_one (pe_not (pe_callB call_isi (by rfl) Z.f_isinstance (by decide +kernel) (pa_cons (pv 0) (pa_cons (pe_bltn (v := .ty "bool") (by rfl) Z.f_bool (by decide +kernel) rfl) pa_nil)))))))), ?_⟩
    exact s_ret (ev_andV (a := true) (b := true) (ev_cb (ea_cons (ev_var rfl) (ea_cons ev_c ea_nil)) (rc_isi (by decide +kernel))) fun _ => ev_notV (a := false) (ev_cb (ea_cons (ev_var rfl) (ea_cons ev_c ea_nil)) (rc_isi (by decide +kernel)))) q
theorem ok_need_base (Z : Txt K mg) : Cal P w K mg base 2 "need_base" spNeedBase [] := by
  refine Z.d_need_base.cal sc_need_base (fun vs H Q E h => ?_) (fun f cdv A outer s H vs Q E hr h => ?_)
  · obtain ⟨n, rfl, _⟩ := h
    rfl
  · obtain ⟨b, rfl, h1, h2, q⟩ := h
    refine ⟨_, (pss_one (ps_if (PW.pt (pw_or (pt_not (pt_val (pe_c (ok_is_whole Z) hr (by decide) (by rfl) (pa_cons (pv 0) pa_nil)))) (pw_or1 (pt_not (pt_chain op_le op_le pe_int (pv 0) pe_int)))))
        (pss_one ps_never)
        pss_nil)), ?_⟩
    refine s_if (b := false) (et_is (et_or (et_not (et_B (ev_call (ea_cons (ev_var rfl) ea_nil) sv_isWhole))) fun _ => et_not (et_B (ev_chain (ev_c) (ev_var rfl) (rv_I0) (fun _ => ev_c) (fun _ => rv_I0)))) ?_) (fun h => by cases h) fun _ H1 e => q H1 e
    rw [decide_eq_true (show (2 : Int) ≤ (b : Int) by omega), decide_eq_true (show (b : Int) ≤ 36 by omega)]
    rfl
theorem ok_figures_of (Z : Txt K mg) : Cal P w K mg base 1 "figures_of" spFiguresOf [] := by
  refine Z.d_figures_of.cal sc_figures_of (fun vs H Q E h => ?_) (fun f cdv A outer s H vs Q E hr h => ?_)
  · obtain ⟨n, b, rfl, _⟩ := h
    rfl
  · obtain ⟨n, b, rfl, g, q⟩ := h
    have hb := g.two
    have hl := g.ln
    have ht := g.top
    refine ⟨_, (pss_cons (ps_set (i := 2) sc_figures_of.nd rfl (Or.inl rfl) (pe_lst (pa_cons (pe_op op_mod (pv 0) (pv 1)) pa_nil)))
      (pss_cons (ps_while PassesOwn.never (pt_cmpR op_ge (pv 0) (pv 1) (nomark _))
        (pss_cons (ps_aug (i := 0) sc_figures_of.nd rfl (Or.inl rfl) (pv 1) iop_fdiv)
        (pss_one (ps_expr (pe_bm PySem.F.plainAttrs_list PySem.F.slot_list_append PySem.F.type_list_append mt_append (pv 2) (pa_cons (pe_op op_mod (pv 0) (pv 1)) pa_nil))))))
      (pss_one (ps_ret (pe_revL (pv 2)))))), ?_⟩
    refine q_asgL (el_lst (ea_cons (ev_op (ev_var rfl) (ev_var rfl) (rv_I (show (0 : Int) < (b : Int) by omega))) ea_nil) (by show 1 ≤ 100000; decide)) fun p H1 hp e1 h1 => ?_
    refine q_while (fun m σ H' => ∃ (n' : Nat) (pre : List Nat), m = n' ∧ σ = [some (nI n'), some (nI b), some (.ref p)] ∧ Ex H H' ∧ H' p = some (.lst (nats (pre ++ [n' % b]))) ∧ dl b n = pre ++ dl b n') n
      ⟨n, [], rfl, rfl, e1, ?_, rfl⟩ ?_
    · rw [h1]
      rfl
    · rintro m σ H' ⟨n', pre, rfl, rfl, e', hp', hd⟩
      have hlen : pre.length + (dl b m).length ≤ 200 := by
        have := congrArg List.length hd
        rw [List.length_append] at this
        have hl2 : (dl b n).length ≤ 200 := hl
        omega
      have hpos : 1 ≤ (dl b m).length := ln_pos hb m
      refine ⟨decide (b ≤ m), et_is (et_test (ev_op (ev_var rfl) (ev_var rfl) rv_I0)) (decide_eq_decide.mpr (by omega)), fun hc H2 e2 => ?_, fun hc H2 e2 => ?_⟩
      · have hc := of_decide_eq_true hc
        refine ⟨fun σ3 H3 => ∃ (n' : Nat) (pre : List Nat), n' < m ∧ σ3 = [some (nI n'), some (nI b), some (.ref p)] ∧ Ex H H3 ∧ H3 p = some (.lst (nats (pre ++ [n' % b]))) ∧ dl b n = pre ++ dl b n', fun σ3 H3 ⟨n3, pre3, l3, a3, b3, c3, d3⟩ => ⟨n3, l3, n3, pre3, rfl, a3, b3, c3, d3⟩, ?_⟩
        refine q_augR (z := nI (m / b)) rfl (ev_var rfl) (rv_I ⟨by omega, by omega⟩) fun H3 e3 => ?_
        refine s_app (l := p) (e3 p _ (e2 p _ hp')) (ev_var rfl) (ev_op (ev_var rfl) (ev_var rfl) (rv_I (show (0 : Int) < (b : Int) by omega))) (by simp; omega) fun H4 e4 => ?_
        refine ⟨m / b, pre ++ [m % b], Nat.div_lt_self (by omega) hb, rfl, Ex.mut (((e'.trans e2).trans e3).trans e4) hp, ?_, ?_⟩
        · rw [upd_same]
          simp [nats, nI]
        · rw [hd, dl_big hb hc]
          simp
      · have hc := of_decide_eq_false hc
        have hs : dl b m = [m] := dl_small (by omega)
        have e0 : pre ++ [m % b] = dl b n := by rw [hd, hs, Nat.mod_eq_of_lt (by omega)]
        rw [e0] at hp'
        refine s_retL (el_rev (ev_var rfl) (sq_of (e2 p _ hp'))) fun r H3 hr3 e3 h3 => ?_
        refine q r H3 (fresh_back (e'.trans e2) hr3) ((e'.trans e2).trans e3) ?_
        rw [h3]
        simp [nats]
theorem vg_snoc (b : Nat) (l : List Nat) (d : Nat) : vg b (l ++ [d]) = vg b l * b + d := by
  unfold vg
  rw [List.foldl_append]
  rfl
theorem nats_get {l : List Nat} {i : Nat} {x : V} (h : (nats l)[i]? = some x) : ∃ d, l[i]? = some d ∧ x = nI d := by
  rw [List.getElem?_map] at h
  cases e : l[i]? with
  | none =>
    rw [e] at h
    cases h
  | some d =>
    rw [e] at h
    exact ⟨d, rfl, (Option.some.inj h).symm⟩
theorem take_snoc {α : Type} {l : List α} {i : Nat} {d : α} (h : l[i]? = some d) : l.take (i + 1) = l.take i ++ [d] := by
  rw [List.take_add_one, h]
  rfl
theorem ok_put_together (Z : Txt K mg) : Cal P w K mg base 1 "put_together" (spPutTogether K) [] := by
  refine Z.d_put_together.cal sc_put_together (fun vs H Q E h => ?_) (fun f cdv A outer s H vs Q E hr h => ?_)
  · obtain ⟨a, ds, b, rfl, _⟩ := h
    rfl
  · obtain ⟨a, ds, b, rfl, hs, hb, q⟩ := h
    refine ⟨_, (pss_cons (ps_set (i := 2) sc_put_together.nd rfl (Or.inl rfl) pe_int)
      (pss_cons (ps_for PassesOwn.never rfl (pi_list (pv 0)) (pg_name (i := 3) sc_put_together.nd rfl (Or.inl rfl))
        (pss_one (ps_set (i := 2) sc_put_together.nd rfl (Or.inl rfl) (pe_op op_add (pe_op op_mul (pv 2) (pv 1)) (pv 3)))))
      (pss_one (ps_ret (pv 2))))), ?_⟩
    refine q_asg ev_c fun H1 e1 => ?_
    refine q_forLn (a := a) (xs := nats ds) (ev_var rfl) (ex_l e1 hs) (fun i σ H' => ∃ o, σ = [some (.ref a), some (nI b), some (nI (vg b (ds.take i))), o] ∧ Ex H H') (fun H2 e2 => ⟨none, rfl, e1.trans e2⟩) (fun i σ H' _ h => by obtain ⟨_, _, e⟩ := h; exact ex_l e hs) ?_ ?_
    · rintro i x σ H' hx ⟨o, rfl, e'⟩
      obtain ⟨d, hd, rfl⟩ := nats_get hx
      refine s_asg (v := nI (vg b (ds.take i) * b + d)) (ev_op (ev_op (ev_var rfl) (ev_var rfl) (rv_I (cmul_r (small_b hb)))) (ev_var rfl) (rv_val fun H1 _ Q q => ⟨_, _, rfl, rfl, ?_⟩)) fun H2 e2 => ⟨some (nI d), ?_, e'.trans e2⟩
      · have e0 : ((vg b (ds.take i) : Nat) : Int) * (b : Int) + (d : Int) = ((vg b (ds.take i) * b + d : Nat) : Int) := by
          rw [Int.natCast_add, Int.natCast_mul]
        show Q (.int (((vg b (ds.take i) : Nat) : Int) * (b : Int) + (d : Int))) H1
        rw [e0]
        exact q
      · rw [take_snoc hd, vg_snoc]
        rfl
    · rintro σ H' ⟨o, rfl, e'⟩
      have el : ds.take (nats ds).length = ds := by
        rw [List.length_map]
        exact List.take_length
      rw [el]
      exact s_ret (ev_var rfl) fun H2 e2 => q H2 (e'.trans e2)
theorem rev_eq_iff (l : List Nat) : decide ((l.reverse.map fun d : Nat => (d : Int)) = (l.reverse.map fun d : Nat => (d : Int)).reverse) = decide (l = l.reverse) := by
  refine decide_eq_decide.mpr ?_
  rw [← List.map_reverse, List.reverse_reverse]
  constructor
  · intro h
    have h2 := congrArg (List.map Int.toNat) h
    rw [List.map_map, List.map_map] at h2
    have e : (Int.toNat ∘ fun d : Nat => (d : Int)) = id := by
      funext x
      simp
    rw [e, List.map_id, List.map_id] at h2
    exact h2.symm
  · intro h
    rw [← h]
theorem nats_ints (l : List Nat) : nats l = (l.map fun d : Nat => (d : Int)).map V.int := by
  rw [List.map_map]
  rfl
end
end Mir
namespace Mir
open PySem PySem.Spec PyProof.Rows L2 Evl
open C8 (Cal pe_c)
/-! ## nearest, by place -/
theorem vg_half {b : Nat} (hb : 2 ≤ b) (n : Nat) : vg b ((dl b n).reverse.take ((ln b n + 1) / 2)) = hf b n := by
  rw [vg_eq, hf_vl hb, List.take_reverse, List.reverse_reverse]
  congr 2
  show ln b n - (ln b n + 1) / 2 = ln b n / 2
  omega
theorem vg_mir (b h s : Nat) : vg b ((dl b h).reverse ++ ((dl b h).reverse.take (s / 2)).reverse) = mir b h s := by
  rw [vg_eq, List.reverse_append, List.reverse_reverse, List.reverse_reverse]
  rfl
theorem cut_to (l : List V) (k : Nat) : cutV l none (some (k : Int)) = l.take k := by
  unfold cutV
  rw [HT.sIx_nat, HT.sIx_none, Nat.sub_zero, List.drop_zero]
  by_cases h : k ≤ l.length
  · rw [Nat.min_eq_left h]
  · rw [Nat.min_eq_right (by omega), List.take_length, List.take_of_length_le (by omega)]
theorem nats_take (l : List Nat) (k : Nat) : (nats l).take k = nats (l.take k) := List.map_take.symm
theorem nats_rev (l : List Nat) : (nats l).reverse = nats l.reverse := List.map_reverse.symm
theorem nats_app (l m : List Nat) : nats l ++ nats m = nats (l ++ m) := List.map_append.symm
theorem given_all (n : Nat) (v : Nat → V) : given n (fun _ => true) v = (List.range n).map v := by
  unfold given
  rw [List.filter_eq_self.mpr fun _ _ => rfl]
section
variable {K : PySem.W.Frag} {σ : L2.St} {H H' : Hp} {ta tb te tx : TE} {t u : TT} {x y z v : V}
theorem el_lcR2 {ta : TA} {j : Nat} {vs : List Nat} {lo n : Int} (f : Nat → Bool) (v : Nat → V) (h : EvA ta σ H [.int lo, .int n]) (hn : 0 ≤ lo ∧ lo ≤ 40000 ∧ -40000 ≤ n ∧ n ≤ 40000) (hw : ∀ x, wipe ((wipe σ vs).set j (some x)) vs = wipe σ vs)
    (ht : ∀ (i : Nat) H1, Ex H H1 → lo + (i : Int) < n → EvT t ((wipe σ vs).set j (some (.int (lo + (i : Int))))) H1 (f i)) (he : ∀ (i : Nat) H1, Ex H H1 → lo + (i : Int) < n → f i = true → Ev te ((wipe σ vs).set j (some (.int (lo + (i : Int))))) H1 (v i)) :
    EvL (tLc (iRng2 ta) (gName j) t te vs) σ H (given (n - lo).toNat f v) := fun H0 e Q q => h H0 e _ fun H1 e1 => ⟨lo, n, rfl, ⟨by omega, by omega, by omega, by omega⟩, fun Dl hD =>
  lc_range (lo := lo) (n := (n - lo).toNat) (Cw H1 f v Dl) ⟨hD, Ex.new hD, upd_same⟩ (fun i H' hi p => ⟨hw _, cw_turn p (by omega) (ht i H1 (e.trans e1) (by omega)) (fun hf => he i H1 (e.trans e1) (by omega) hf)⟩)
    (fun H' p => q Dl H' (fresh_back e1 p.1) (e1.trans p.2.1) p.2.2)⟩
theorem ev_int {i j : Int} (h : Ev te σ H (.int i)) (e : i = j) : Ev te σ H (.int j) := by
  rw [← e]
  exact h
end
def spPowerOf : Sp := fun vs H Q _ => ∃ b m : Nat, vs = [nI b, nI m] ∧ b ≤ 36 ∧ m ≤ 1000 ∧ RetV (nI (b ^ m)) H Q
def spHalfOf : Sp := fun vs H Q _ => ∃ n b : Nat, vs = [nI n, nI b] ∧ Good n b ∧ RetU [nI (ln b n), nI (hf b n)] H Q
def spMirrorOf : Sp := fun vs H Q _ => ∃ h s b : Nat, vs = [nI h, nI s, nI b] ∧ Good h b ∧ RetV (nI (mir b h s)) H Q
def spAtMost : Sp := fun vs H Q _ => ∃ n b : Nat, vs = [nI n, nI b] ∧ Good n b ∧ RetV (nI (atMost b n)) H Q
def spManyOfSize : Sp := fun vs H Q _ => ∃ s b : Nat, vs = [nI s, nI b] ∧ 2 ≤ b ∧ b ≤ 36 ∧ 1 ≤ s ∧ s ≤ 1000 ∧ RetV (nI (mos b s)) H Q
def spManyTo : Sp := fun vs H Q _ => ∃ n b : Nat, vs = [nI n, nI b] ∧ Good n b ∧ RetV (nI (cnt b n)) H Q
def spMirroredAt : Sp := fun vs H Q _ => ∃ p b : Nat, vs = [nI p, nI b] ∧ 2 ≤ b ∧ b ≤ 36 ∧ p < 2 ^ 100 ∧ RetV (nI (mirAt b p)) H Q
def spPlaceOf : Sp := fun vs H Q _ => ∃ n b : Nat, vs = [nI n, nI b] ∧ Good n b ∧ pal b n = true ∧ RetV (nI (cnt b n)) H Q
section
variable {P : Program} {w : World} {K : PySem.W.Frag} {mg : Str → Option Value} {base : Heap}
theorem sv_powerOf {b m : Nat} {H : Hp} (h1 : b ≤ 36) (h2 : m ≤ 1000) : SpV spPowerOf [nI b, nI m] H (nI (b ^ m)) := fun _ _ _ q _ => ⟨b, m, rfl, h1, h2, q⟩
theorem su_halfOf {n b : Nat} {H : Hp} (g : Good n b) : SpU spHalfOf [nI n, nI b] H [nI (ln b n), nI (hf b n)] := fun _ _ _ q _ => ⟨n, b, rfl, g, q⟩
theorem sv_mirrorOf {h s b : Nat} {H : Hp} (g : Good h b) : SpV spMirrorOf [nI h, nI s, nI b] H (nI (mir b h s)) := fun _ _ _ q _ => ⟨h, s, b, rfl, g, q⟩
theorem sv_atMost {n b : Nat} {H : Hp} (g : Good n b) : SpV spAtMost [nI n, nI b] H (nI (atMost b n)) := fun _ _ _ q _ => ⟨n, b, rfl, g, q⟩
theorem sv_manyOfSize {s b : Nat} {H : Hp} (h1 : 2 ≤ b) (h2 : b ≤ 36) (h3 : 1 ≤ s) (h4 : s ≤ 1000) : SpV spManyOfSize [nI s, nI b] H (nI (mos b s)) := fun _ _ _ q _ => ⟨s, b, rfl, h1, h2, h3, h4, q⟩
theorem sv_manyTo {n b : Nat} {H : Hp} (g : Good n b) : SpV spManyTo [nI n, nI b] H (nI (cnt b n)) := fun _ _ _ q _ => ⟨n, b, rfl, g, q⟩
theorem sv_mirroredAt {p b : Nat} {H : Hp} (h1 : 2 ≤ b) (h2 : b ≤ 36) (h3 : p < 2 ^ 100) : SpV spMirroredAt [nI p, nI b] H (nI (mirAt b p)) := fun _ _ _ q _ => ⟨p, b, rfl, h1, h2, h3, q⟩
theorem sv_placeOf {n b : Nat} {H : Hp} (g : Good n b) (p : pal b n = true) : SpV spPlaceOf [nI n, nI b] H (nI (cnt b n)) := fun _ _ _ q _ => ⟨n, b, rfl, g, p, q⟩
theorem Good.less {n m b : Nat} (g : Good n b) (h : m ≤ n) : Good m b := ⟨g.two, g.top, by have := g.lt; omega⟩
theorem Good.hf {n b : Nat} (g : Good n b) : Good (hf b n) b := g.less (Nat.div_le_self _ _)
theorem ok_power_of (Z : Txt K mg) : Cal P w K mg base 1 "power_of" spPowerOf [] := by
  refine Z.d_power_of.cal sc_power_of (fun vs H Q E h => ?_) (fun f cdv A outer s H vs Q E hr h => ?_)
  · obtain ⟨b, m, rfl, _⟩ := h
    rfl
  · obtain ⟨b, m, rfl, hb, hm, q⟩ := h
    refine ⟨_, (pss_cons (ps_set (i := 2) sc_power_of.nd rfl (Or.inl rfl) pe_int)
      (pss_cons (ps_for PassesOwn.never rfl (pi_range1 (by rfl) Z.f_range (pa_cons (pv 1) pa_nil)) (pg_name (i := 3) sc_power_of.nd rfl (Or.inl rfl))
        (pss_one (ps_aug (i := 2) sc_power_of.nd rfl (Or.inl rfl) (pv 0) iop_mul)))
      (pss_one (ps_ret (pv 2))))), ?_⟩
    refine q_asg ev_c fun H1 e1 => ?_
    refine q_forR1 (n := (m : Int)) (ea_cons (ev_var rfl) ea_nil) ⟨by omega, by omega⟩ (fun i σ H' => ∃ o, σ = [some (nI b), some (nI m), some (nI (b ^ i)), o] ∧ Ex H H') (fun H2 e2 => ⟨none, rfl, e1.trans e2⟩) ?_ ?_
    · rintro i σ H' hi ⟨o, rfl, e'⟩
      refine s_augR (x := nI (b ^ i)) (z := nI (b ^ (i + 1))) rfl (ev_var rfl) (rv_val fun H2 _ Q q => ⟨_, _, rfl, rfl, cmul_r (small_b hb), ?_⟩) fun H2 e2 => ⟨_, rfl, e'.trans e2⟩
      show Q (.int (((b ^ i : Nat) : Int) * (b : Int))) H2
      rw [← Int.natCast_mul, ← Nat.pow_succ]
      exact q
    · rintro σ H' ⟨o, rfl, e'⟩
      exact s_ret (ev_var rfl) fun H2 e2 => q H2 (e'.trans e2)
theorem ok_half_of (Z : Txt K mg) : Cal P w K mg base 2 "half_of" spHalfOf [] := by
  refine Z.d_half_of.cal sc_half_of (fun vs H Q E h => ?_) (fun f cdv A outer s H vs Q E hr h => ?_)
  · obtain ⟨b, m, rfl, _⟩ := h
    rfl
  · obtain ⟨n, b, rfl, g, q⟩ := h
    have hb := g.two
    have hl := g.ln
    refine ⟨_, (pss_cons (ps_set (i := 2) sc_half_of.nd rfl (Or.inl rfl) (pe_c (ok_figures_of Z) hr (by decide) (by rfl) (pa_cons (pv 0) (pa_cons (pv 1) pa_nil))))
      (pss_one (ps_ret (pe_tup (pa_cons (pe_callB call_len_seq (by rfl) Z.f_len PySem.boot_len (pa_cons (pv 2) pa_nil)) (pa_cons (pe_c (ok_put_together Z) hr (by decide) (by rfl) (pa_cons (pe_slice sl_list (pv 2) po_none (po_some (pe_op op_fdiv (pe_op op_add (pe_callB call_len_seq (by rfl) Z.f_len PySem.boot_len (pa_cons (pv 2) pa_nil)) pe_int) pe_int))) (pa_cons (pv 1) pa_nil))) pa_nil)))))), ?_⟩
    refine q_asgL (el_call (ea_cons (ev_var rfl) (ea_cons (ev_var rfl) ea_nil)) (sl_figuresOf g)) fun p H1 hp e1 h1 => ?_
    have elen : Ev (tCB (fun vs H Q => ∃ p ys, vs = [.ref p] ∧ (SqL K H p ys ∨ SqT K H p ys) ∧ Q (.int ys.length) H) (tCons (tVar 2) tNil)) [some (nI n), some (nI b), some (.ref p)] H1 (nI (ln b n)) := by
      refine ev_int (ev_lenA (ev_var rfl) (sq_of h1)) ?_
      simp only [List.length_map, List.length_reverse]
      rfl
    refine s_retU (eu_tup (ea_cons elen (ea_cons (x := nI (hf b n)) (ev_callL (vs := [nI b]) (xs := nats ((dl b n).reverse.take ((ln b n + 1) / 2))) ?_ (fun H2 e2 => ea_cons (ev_var rfl) ea_nil) fun r H2 e2 h2 => ?_) ea_nil)) (by show 2 ≤ 100000; decide)) fun r H2 hr2 e2 h2 => q r H2 (fresh_back e1 hr2) (e1.trans e2) h2
    · have z := el_sl (K := K) (hi := some (((ln b n + 1) / 2 : Nat) : Int)) (ev_var (i := 2) (σ := [some (nI n), some (nI b), some (.ref p)]) (H := H1) rfl) eo_none (eo_some (ev_divN (ev_addN elen (ev_cN 1)) (ev_cN 2) (by decide))) (sq_of h1)
      rw [cut_to, nats_take] at z
      exact z
    · have z := sv_putTogether (K := K) (H := H2) (sq_of h2) g.top
      rw [vg_half hb] at z
      exact z
theorem ok_mirror_of (Z : Txt K mg) : Cal P w K mg base 2 "mirror_of" spMirrorOf [] := by
  refine Z.d_mirror_of.cal sc_mirror_of (fun vs H Q E h => ?_) (fun f cdv A outer s H vs Q E hr h => ?_)
  · obtain ⟨h, s, b, rfl, _⟩ := h
    rfl
  · obtain ⟨h, s, b, rfl, g, q⟩ := h
    have hb := g.two
    have hl : (dl b h).length ≤ 200 := g.ln
    refine ⟨_, (pss_cons (ps_set (i := 3) sc_mirror_of.nd rfl (Or.inl rfl) (pe_c (ok_figures_of Z) hr (by decide) (by rfl) (pa_cons (pv 0) (pa_cons (pv 2) pa_nil))))
      (pss_one (ps_ret (pe_c (ok_put_together Z) hr (by decide) (by rfl) (pa_cons (pe_op op_cat (pv 3) (pe_revL (pe_slice sl_list (pv 3) po_none (po_some (pe_op op_fdiv (pv 1) pe_int))))) (pa_cons (pv 2) pa_nil)))))), ?_⟩
    refine q_asgL (el_call (ea_cons (ev_var rfl) (ea_cons (ev_var rfl) ea_nil)) (sl_figuresOf g)) fun p H1 hp e1 h1 => ?_
    refine s_ret (v := nI (mir b h s)) (ev_callL (vs := [nI b]) (xs := nats ((dl b h).reverse ++ ((dl b h).reverse.take (s / 2)).reverse)) ?_ (fun H2 e2 => ea_cons (ev_var rfl) ea_nil) fun r H2 e2 h2 => ?_) fun H2 e2 => q H2 (e1.trans e2)
    · have z := el_revL (K := K) (el_sl (K := K) (hi := some ((s / 2 : Nat) : Int)) (ev_var (i := 3) (σ := [some (nI h), some (nI s), some (nI b), some (.ref p)]) (H := H1) rfl) eo_none (eo_some (ev_divN (ev_var (i := 1) (v := nI s) rfl) (ev_cN 2) (by decide))) (sq_of h1))
      rw [cut_to, nats_take, nats_rev] at z
      have y := el_catL (ev_var (i := 3) (σ := [some (nI h), some (nI s), some (nI b), some (.ref p)]) rfl) h1 z (by simp only [List.length_map, List.length_reverse, List.length_take]; omega)
      rw [nats_app] at y
      exact y
    · have z := sv_putTogether (K := K) (H := H2) (sq_of h2) g.top
      rw [vg_mir] at z
      exact z
theorem ok_many_of_size (Z : Txt K mg) : Cal P w K mg base 2 "many_of_size" spManyOfSize [] := by
  refine Z.d_many_of_size.cal sc_many_of_size (fun vs H Q E h => ?_) (fun f cdv A outer s H vs Q E hr h => ?_)
  · obtain ⟨n, b, rfl, _⟩ := h
    rfl
  · obtain ⟨s, b, rfl, hb, ht, h1, h2, q⟩ := h
    refine ⟨_, (pss_one (ps_ret (pe_op op_mul (pe_op op_sub (pv 1) pe_int) (pe_c (ok_power_of Z) hr (by decide) (by rfl) (pa_cons (pv 1) (pa_cons (pe_op op_fdiv (pe_op op_sub (pv 0) pe_int) pe_int) pa_nil)))))), ?_⟩
    exact s_ret (v := nI (mos b s)) (ev_mulL (ev_subN (ev_var rfl) (ev_cN 1) (by omega)) (ev_call (ea_cons (ev_var rfl) (ea_cons (x := nI ((s - 1) / 2)) (ev_divN (ev_subN (ev_var rfl) (ev_cN 1) (by omega)) (ev_cN 2) (by decide)) ea_nil)) (sv_powerOf ht (by omega))) (by omega)) q
end
end Mir
namespace Mir
open PySem PySem.Spec PyProof.Rows L2 Evl
open C8 (Cal pe_c)
/-! ## how many to, by the place -/
theorem sum_cast : ∀ l : List Nat, ((l.map fun d : Nat => (d : Int)).sum : Int) = ((l.sum : Nat) : Int)
  | [] => rfl
  | d :: l => by
    rw [List.map_cons, List.sum_cons, List.sum_cons, sum_cast l]
    omega
theorem mirGo_bound {b p left s : Nat} (hb : 2 ≤ b) (ht : b ≤ 36) (hp : p < 2 ^ 100) (h : less b s + left + 1 = p) (hs : 1 ≤ s) : s ≤ 202 ∧ b ^ ((s - 1) / 2) + left < 2 ^ 200 := by
  by_cases c : s = 1
  · subst c
    simp
    omega
  · obtain ⟨k, rfl⟩ : ∃ k, s = k + 2 := ⟨s - 2, by omega⟩
    have q := less_succ b (k + 1) (by omega)
    have e : k + 1 + 1 = k + 2 := rfl
    rw [e] at q
    have m : b ^ (k / 2) ≤ mos b (k + 1) := by
      unfold mos
      have e2 : (k + 1 - 1) / 2 = k / 2 := by omega
      rw [e2]
      have w : 1 * b ^ (k / 2) ≤ (b - 1) * b ^ (k / 2) := Nat.mul_le_mul_right _ (by omega)
      omega
    have l2 : b ^ (k / 2) < 2 ^ 100 := by omega
    have l3 : 2 ^ (k / 2) ≤ b ^ (k / 2) := Nat.pow_le_pow_left hb _
    have l4 := pow_lt_inj (b := 2) (by omega) (Nat.lt_of_le_of_lt l3 l2)
    have l5 : b ^ ((k + 2 - 1) / 2) ≤ b * b ^ (k / 2) := by
      rw [Nat.mul_comm, ← Nat.pow_succ]
      exact Nat.pow_le_pow_right (by omega) (by omega)
    have l6 : b * b ^ (k / 2) ≤ 36 * b ^ (k / 2) := Nat.mul_le_mul_right _ ht
    refine ⟨by omega, ?_⟩
    have l7 : (37 : Nat) * 2 ^ 100 < 2 ^ 200 := by decide
    omega
section
variable {P : Program} {w : World} {K : PySem.W.Frag} {mg : Str → Option Value} {base : Heap}
theorem ok_many_to (Z : Txt K mg) : Cal P w K mg base 3 "many_to" spManyTo [] := by
  refine Z.d_many_to.cal sc_many_to (fun vs H Q E h => ?_) (fun f cdv A outer s H vs Q E hr h => ?_)
  · obtain ⟨n, b, rfl, _⟩ := h
    rfl
  · obtain ⟨n, b, rfl, g, q⟩ := h
    have hb := g.two
    have hl := g.ln
    have hl1 := ln_pos hb n
    refine ⟨_, (pss_cons (ps_expr (pe_c (ok_need_base Z) hr (by decide) (by rfl) (pa_cons (pv 1) pa_nil)))
      (pss_cons (ps_if (pt_cmpR op_eq (pv 0) pe_int (nomark _))
        (pss_one (ps_ret pe_int))
        pss_nil)
      (pss_cons (ps_asg (pe_c (ok_half_of Z) hr (by decide) (by rfl) (pa_cons (pv 0) (pa_cons (pv 1) pa_nil))) (pg_tup rfl (pgs_cons (pg_name (i := 2) sc_many_to.nd rfl (Or.inl rfl)) (pgs_cons (pg_name (i := 3) sc_many_to.nd rfl (Or.inl rfl)) pgs_nil))))
      (pss_cons (ps_set (i := 4) sc_many_to.nd rfl (Or.inl rfl) (pe_op op_add (pe_op op_sub (pv 3) (pe_c (ok_power_of Z) hr (by decide) (by rfl) (pa_cons (pv 1) (pa_cons (pe_op op_fdiv (pe_op op_sub (pv 2) pe_int) pe_int) pa_nil)))) (pe_callTy call_int1 (by rfl) Z.f_int (by decide +kernel) (pa_cons (pe_cmpR op_le (pe_c (ok_mirror_of Z) hr (by decide) (by rfl) (pa_cons (pv 3) (pa_cons (pv 2) (pa_cons (pv 1) pa_nil)))) (pv 0) (nomark _)) pa_nil))))
      (pss_one (ps_ret (pe_op op_add (pv 4) (pe_callB (cr_sum rfl) (by rfl) Z.f_sum (by decide +kernel) (pa_cons (pe_lc (own := [("lesser", 5)]) (g := gName 5) (tt := tYes) rfl sc_many_to.nd (pi_range2 (by rfl) Z.f_range (pa_cons pe_int (pa_cons (pv 2) pa_nil))) (blkOk_by (N := nm_many_to) (sc := defScope s_many_to) (by decide +kernel)) (fun _ _ _ _ _ => pg_name (i := 5) sc_many_to.nd rfl (Or.inl rfl)) (fun _ _ _ _ _ => pts_nil) (fun _ _ _ _ _ => (pe_c (ok_many_of_size Z) hr (by decide) (by rfl) (pa_cons (pv 5) (pa_cons (pv 1) pa_nil))))) pa_nil))))))))), ?_⟩
    refine q_drop (ev_call (ea_cons (ev_var rfl) ea_nil) (sv_needBase g.two g.top)) fun H1 e1 => ?_
    refine q_when (b := decide (n = 0)) (et_test (ev_eqN (ev_var rfl) (ev_cN 0))) (fun hc H2 e2 => ?_) fun hc H2 e2 => ?_
    · have hc := of_decide_eq_true hc
      refine s_ret (ev_cN 0) fun H3 e3 => ?_
      have z := q H3 ((e1.trans e2).trans e3)
      rw [hc, cnt_zero] at z
      exact z
    · have hc := of_decide_eq_false hc
      have HH := half_hf hb (n := n) (by omega)
      have hlo : b ^ ((ln b n - 1) / 2) ≤ hf b n := HH.2.1
      refine q_asg2 (eu_call (ea_cons (ev_var rfl) (ea_cons (ev_var rfl) ea_nil)) (su_halfOf g)) fun H3 e3 => ?_
      refine q_asg (v := nI (hf b n - lo b (ln b n) + (if mir b (hf b n) (ln b n) ≤ n then 1 else 0))) (ev_addN (ev_subN (ev_var rfl) (ev_call (ea_cons (ev_var rfl) (ea_cons (x := nI ((ln b n - 1) / 2)) (ev_divN (ev_subN (ev_var rfl) (ev_cN 1) (by omega)) (ev_cN 2) (by decide)) ea_nil)) (sv_powerOf g.top (by omega))) hlo)
        (ev_is (ev_cb (ea_cons (ev_leN (ev_call (ea_cons (ev_var rfl) (ea_cons (ev_var rfl) (ea_cons (ev_var rfl) ea_nil))) (sv_mirrorOf g.hf)) (ev_var rfl)) ea_nil) rc_int1) (congrArg V.int (?_ : (if decide (mir b (hf b n) (ln b n) ≤ n) = true then (1 : Int) else 0) = (((if mir b (hf b n) (ln b n) ≤ n then 1 else 0) : Nat) : Int))))) fun H4 e4 => ?_
      · by_cases d : mir b (hf b n) (ln b n) ≤ n
        · rw [if_pos d, decide_eq_true d]
          rfl
        · rw [if_neg d, decide_eq_false d]
          rfl
      · refine s_ret (v := nI (cnt b n)) (ev_is (ev_addN (b := less b (ln b n)) (ev_var rfl) (ev_is (ev_sumNew (ns := (List.range (ln b n - 1)).map fun i => (mos b (i + 1) : Int)) (EvL.is (el_lcR2 (lo := 1) (n := (ln b n : Int)) (fun _ => true) (fun i => nI (mos b (i + 1))) (ea_cons ev_c (ea_cons (ev_var rfl) ea_nil)) ⟨by omega, by omega, by omega, by omega⟩ (fun _ => rfl) (fun i H5 e5 hi H6 e6 Q6 q6 => q6 H6 (Ex.refl H6)) fun i H5 e5 hi _ => ?_) ?_)) ?_)) ?_) fun H5 e5 => q H5 ((((e1.trans e2).trans e3).trans e4).trans e5)
        · refine ev_call (ea_cons (x := nI (i + 1)) (ev_is (ev_var rfl) (congrArg V.int (by omega))) (ea_cons (ev_var rfl) ea_nil)) (sv_manyOfSize hb g.top (by omega) (by omega))
        · rw [given_all, List.map_map]
          have e : ((ln b n : Int) - 1).toNat = ln b n - 1 := by omega
          rw [e]
          rfl
        · refine congrArg V.int ?_
          have z := sum_cast ((List.range (ln b n - 1)).map fun i => mos b (i + 1))
          rw [List.map_map] at z
          exact z
        · rw [cnt_pos (by omega)]
theorem ok_mirrored_at (Z : Txt K mg) : Cal P w K mg base 3 "mirrored_at" spMirroredAt [] := by
  refine Z.d_mirrored_at.cal sc_mirrored_at (fun vs H Q E h => ?_) (fun f cdv A outer s H vs Q E hr h => ?_)
  · obtain ⟨n, b, rfl, _⟩ := h
    rfl
  · obtain ⟨p, b, rfl, hb, ht, hp, q⟩ := h
    refine ⟨_, (pss_cons (ps_expr (pe_c (ok_need_base Z) hr (by decide) (by rfl) (pa_cons (pv 1) pa_nil)))
      (pss_cons (ps_if (pt_cmpR op_eq (pv 0) pe_int (nomark _))
        (pss_one (ps_ret pe_int))
        pss_nil)
      (pss_cons (ps_set (i := 2) sc_mirrored_at.nd rfl (Or.inl rfl) (pe_op op_sub (pv 0) pe_int))
      (pss_cons (ps_set (i := 3) sc_mirrored_at.nd rfl (Or.inl rfl) pe_int)
      (pss_cons (ps_while PassesOwn.never (pt_cmpR op_ge (pv 2) (pe_c (ok_many_of_size Z) hr (by decide) (by rfl) (pa_cons (pv 3) (pa_cons (pv 1) pa_nil))) (nomark _))
        (pss_cons (ps_aug (i := 2) sc_mirrored_at.nd rfl (Or.inl rfl) (pe_c (ok_many_of_size Z) hr (by decide) (by rfl) (pa_cons (pv 3) (pa_cons (pv 1) pa_nil))) iop_sub)
        (pss_one (ps_aug (i := 3) sc_mirrored_at.nd rfl (Or.inl rfl) pe_int iop_add))))
      (pss_one (ps_ret (pe_c (ok_mirror_of Z) hr (by decide) (by rfl) (pa_cons (pe_op op_add (pe_c (ok_power_of Z) hr (by decide) (by rfl) (pa_cons (pv 1) (pa_cons (pe_op op_fdiv (pe_op op_sub (pv 3) pe_int) pe_int) pa_nil))) (pv 2)) (pa_cons (pv 3) (pa_cons (pv 1) pa_nil))))))))))), ?_⟩
    refine q_drop (ev_call (ea_cons (ev_var rfl) ea_nil) (sv_needBase hb ht)) fun H1 e1 => ?_
    refine q_when (b := decide (p = 0)) (et_test (ev_eqN (ev_var rfl) (ev_cN 0))) (fun hc H2 e2 => ?_) fun hc H2 e2 => ?_
    · have hc := of_decide_eq_true hc
      refine s_ret (ev_cN 0) fun H3 e3 => ?_
      have z := q H3 ((e1.trans e2).trans e3)
      unfold mirAt at z
      rw [if_pos hc] at z
      exact z
    · have hc := of_decide_eq_false hc
      refine q_asg (v := nI (p - 1)) (ev_subN (ev_var rfl) (ev_cN 1) (by omega)) fun H3 e3 => ?_
      refine q_asg (ev_cN 1) fun H4 e4 => ?_
      refine q_while (fun m σ H' => ∃ (left sz f : Nat), m = left ∧ σ = [some (nI p), some (nI b), some (nI left), some (nI sz)] ∧ Ex H H' ∧ left < f ∧ mirGo b f left sz = mirAt b p ∧ less b sz + left + 1 = p ∧ 1 ≤ sz) (p - 1)
        ⟨p - 1, 1, p, rfl, rfl, ((e1.trans e2).trans e3).trans e4, by omega, ?_, ?_, Nat.le_refl _⟩ ?_
      · unfold mirAt
        rw [if_neg hc]
      · rw [less_one]
        omega
      · rintro m σ H' ⟨left, sz, f, rfl, rfl, e', hf, hg, hle, hs⟩
        obtain ⟨bs, bl⟩ := mirGo_bound hb ht hp hle hs
        obtain ⟨f, rfl⟩ : ∃ f', f = f' + 1 := ⟨f - 1, by omega⟩
        have hm := mos_pos hb sz
        have em : ∀ H6, Ev (tCall spManyOfSize [] E0 (tCons (tVar 3) (tCons (tVar 1) tNil))) [some (nI p), some (nI b), some (nI m), some (nI sz)] H6 (nI (mos b sz)) := fun H6 => ev_call (ea_cons (ev_var rfl) (ea_cons (ev_var rfl) ea_nil)) (sv_manyOfSize hb ht hs (by omega))
        have gs : mirGo b (f + 1) m sz = if mos b sz ≤ m then mirGo b f (m - mos b sz) (sz + 1) else mir b (b ^ ((sz - 1) / 2) + m) sz := rfl
        rw [gs] at hg
        refine ⟨decide (mos b sz ≤ m), et_geN (ev_var rfl) (em H'), fun hd H5 e5 => ?_, fun hd H5 e5 => ?_⟩
        · have hd := of_decide_eq_true hd
          rw [if_pos hd] at hg
          refine ⟨fun σ3 H3 => ∃ (left sz f : Nat), left < m ∧ σ3 = [some (nI p), some (nI b), some (nI left), some (nI sz)] ∧ Ex H H3 ∧ left < f ∧ mirGo b f left sz = mirAt b p ∧ less b sz + left + 1 = p ∧ 1 ≤ sz, fun σ3 H3 ⟨l3, s3, f3, a0, a1, a2, a3, a4, a5, a6⟩ => ⟨l3, a0, l3, s3, f3, rfl, a1, a2, a3, a4, a5, a6⟩, ?_⟩
          refine q_augR (x := nI m) (y := nI (mos b sz)) (z := nI (m - mos b sz)) rfl (em H5) (rv_val fun H6 _ Q q => ⟨_, _, rfl, rfl, ?_⟩) fun H6 e6 => ?_
          · have e0 : ((m : Nat) : Int) - (mos b sz : Int) = ((m - mos b sz : Nat) : Int) := by omega
            show Q (.int (((m : Nat) : Int) - (mos b sz : Int))) H6
            rw [e0]
            exact q
          · refine s_augR (x := nI sz) (y := .int 1) (z := nI (sz + 1)) rfl ev_c (rv_val fun H6 _ Q q => ⟨_, _, rfl, rfl, q⟩) fun H7 e7 => ⟨m - mos b sz, sz + 1, f, by omega, rfl, ((e'.trans e5).trans e6).trans e7, by omega, hg, ?_, by omega⟩
            rw [less_succ b sz hs]
            omega
        · have hd := of_decide_eq_false hd
          rw [if_neg hd] at hg
          refine s_ret (v := nI (mirAt b p)) ?_ fun H6 e6 => q H6 ((e'.trans e5).trans e6)
          rw [← hg]
          exact ev_call (ea_cons (x := nI (b ^ ((sz - 1) / 2) + m)) (ev_addN (ev_call (ea_cons (ev_var rfl) (ea_cons (x := nI ((sz - 1) / 2)) (ev_divN (ev_subN (ev_var rfl) (ev_cN 1) (by omega)) (ev_cN 2) (by decide)) ea_nil)) (sv_powerOf ht (by omega))) (ev_var rfl)) (ea_cons (ev_var rfl) (ea_cons (ev_var rfl) ea_nil))) (sv_mirrorOf ⟨hb, ht, bl⟩)
end
end Mir
namespace Mir
/-! ## ways by a number of parts: p i is the part at i -/
def Cw (p : Nat → Nat) : Nat → Nat → Nat → Nat
  | 0, 0, l => if l = 0 then 1 else 0
  | 0, _ + 1, _ => 0
  | a + 1, 0, l => Cw p a 0 l
  | a + 1, c + 1, l => Cw p a (c + 1) l + (if p a ≤ l then Cw p (a + 1) c (l - p a) else 0)
theorem Cw_none (p : Nat → Nat) : ∀ a l, Cw p a 0 l = if l = 0 then 1 else 0
  | 0, l => by rw [Cw]
  | a + 1, l => by rw [Cw, Cw_none p a l]
theorem Cw_zero (p : Nat → Nat) (c l : Nat) : Cw p 0 (c + 1) l = 0 := by rw [Cw]
theorem Cw_succ (p : Nat → Nat) (a c l : Nat) : Cw p (a + 1) (c + 1) l = Cw p a (c + 1) l + (if p a ≤ l then Cw p (a + 1) c (l - p a) else 0) := by rw [Cw]
theorem Cw_le (p : Nat → Nat) : ∀ a c l, Cw p a c l ≤ 2 ^ (a + c)
  | 0, 0, l => by rw [Cw]; split <;> simp
  | 0, c + 1, l => by rw [Cw]; exact Nat.zero_le _
  | a + 1, 0, l => by
    rw [Cw]
    exact Nat.le_trans (Cw_le p a 0 l) (Nat.pow_le_pow_right (by decide) (by omega))
  | a + 1, c + 1, l => by
    rw [Cw]
    have h1 := Cw_le p a (c + 1) l
    have h2 : (if p a ≤ l then Cw p (a + 1) c (l - p a) else 0) ≤ 2 ^ (a + 1 + c) := by
      split
      · exact Cw_le p (a + 1) c _
      · exact Nat.zero_le _
    have e1 : 2 ^ (a + 1 + (c + 1)) = 2 ^ (a + (c + 1)) + 2 ^ (a + 1 + c) := by
      rw [show a + 1 + (c + 1) = (a + (c + 1)) + 1 by omega, Nat.pow_succ, show a + 1 + c = a + (c + 1) by omega]
      omega
    omega
/-- the places of the parts of the way at d -/
def wa (p : Nat → Nat) : Nat → Nat → Nat → Nat → List Nat
  | 0, _, _, _ => []
  | _ + 1, 0, _, _ => []
  | c + 1, a + 1, l, d => if d < (if p a ≤ l then Cw p (a + 1) c (l - p a) else 0) then a :: wa p c (a + 1) (l - p a) d else wa p (c + 1) a l (d - (if p a ≤ l then Cw p (a + 1) c (l - p a) else 0))
termination_by c a => (c, a)
theorem wa_yes {p : Nat → Nat} {c a l d : Nat} (h : d < (if p a ≤ l then Cw p (a + 1) c (l - p a) else 0)) : wa p (c + 1) (a + 1) l d = a :: wa p c (a + 1) (l - p a) d := by
  rw [wa, if_pos h]
theorem wa_no {p : Nat → Nat} {c a l d : Nat} (h : ¬ d < (if p a ≤ l then Cw p (a + 1) c (l - p a) else 0)) : wa p (c + 1) (a + 1) l d = wa p (c + 1) a l (d - (if p a ≤ l then Cw p (a + 1) c (l - p a) else 0)) := by
  rw [wa, if_neg h]
theorem wa_nil (p : Nat → Nat) (a l d : Nat) : wa p 0 a l d = [] := by rw [wa]
/-- what is behind the turn stays in range -/
theorem in_yes {p : Nat → Nat} {c a l d : Nat} (h : d < (if p a ≤ l then Cw p (a + 1) c (l - p a) else 0)) : p a ≤ l ∧ d < Cw p (a + 1) c (l - p a) := by
  by_cases q : p a ≤ l
  · rw [if_pos q] at h
    exact ⟨q, h⟩
  · rw [if_neg q] at h
    omega
theorem in_no {p : Nat → Nat} {c a l d : Nat} (hd : d < Cw p (a + 1) (c + 1) l) (h : ¬ d < (if p a ≤ l then Cw p (a + 1) c (l - p a) else 0)) : d - (if p a ≤ l then Cw p (a + 1) c (l - p a) else 0) < Cw p a (c + 1) l := by
  rw [Cw_succ] at hd
  omega
theorem in_pos {p : Nat → Nat} {c a l d : Nat} (hd : d < Cw p a (c + 1) l) : 1 ≤ a := by
  cases a with
  | zero => rw [Cw_zero] at hd; omega
  | succ a => omega
theorem wa_spec (p : Nat → Nat) : ∀ c a l d, d < Cw p a c l → (wa p c a l d).length = c ∧ ((wa p c a l d).map p).sum = l ∧ (∀ i ∈ wa p c a l d, i < a) ∧ (wa p c a l d).Pairwise (fun i j => j ≤ i)
  | 0, a, l, d, h => by
    rw [Cw_none] at h
    rw [wa_nil]
    refine ⟨rfl, ?_, fun i hi => absurd hi List.not_mem_nil, List.Pairwise.nil⟩
    by_cases e : l = 0
    · rw [e]; rfl
    · rw [if_neg e] at h; omega
  | c + 1, 0, l, d, h => by rw [Cw_zero] at h; omega
  | c + 1, a + 1, l, d, h => by
    by_cases q : d < (if p a ≤ l then Cw p (a + 1) c (l - p a) else 0)
    · obtain ⟨q1, q2⟩ := in_yes q
      obtain ⟨h1, h2, h3, h4⟩ := wa_spec p c (a + 1) (l - p a) d q2
      rw [wa_yes q]
      refine ⟨by rw [List.length_cons, h1], by rw [List.map_cons, List.sum_cons, h2]; omega, fun i hi => ?_, .cons (fun j hj => ?_) h4⟩
      · rcases List.mem_cons.mp hi with e | e
        · omega
        · exact h3 i e
      · have := h3 j hj
        omega
    · obtain ⟨h1, h2, h3, h4⟩ := wa_spec p (c + 1) a l _ (in_no h q)
      rw [wa_no q]
      exact ⟨h1, h2, fun i hi => Nat.lt_succ_of_lt (h3 i hi), h4⟩
termination_by c a => (c, a)
/-- how many ways stand before -/
def wpW (p : Nat → Nat) (own c l : Nat) : Nat → Nat → Nat × Nat
  | 0, f => (f, 0)
  | m + 1, f => if own < p m then wpW p own c l m (f + (if p m ≤ l then Cw p (m + 1) c (l - p m) else 0)) else (f, m + 1)
def wp (p : Nat → Nat) : List Nat → Nat → Nat → Nat → Nat
  | [], _, _, f => f
  | i :: r, l, m, f => wp p r (l - p i) (wpW p (p i) r.length l m f).2 (wpW p (p i) r.length l m f).1
theorem wpW_yes {p : Nat → Nat} {own c l m f : Nat} (h : own < p m) : wpW p own c l (m + 1) f = wpW p own c l m (f + (if p m ≤ l then Cw p (m + 1) c (l - p m) else 0)) := if_pos h
theorem wpW_no {p : Nat → Nat} {own c l m f : Nat} (h : ¬ own < p m) : wpW p own c l (m + 1) f = (f, m + 1) := if_neg h
theorem wpW_top (p : Nat → Nat) (own c l : Nat) : ∀ m f, (wpW p own c l m f).2 ≤ m
  | 0, f => Nat.le_refl _
  | m + 1, f => by
    by_cases h : own < p m
    · rw [wpW_yes h]
      exact Nat.le_trans (wpW_top p own c l m _) (Nat.le_succ m)
    · rw [wpW_no h]
      exact Nat.le_refl _
theorem wpW_low (p : Nat → Nat) (c l i : Nat) (up : ∀ x y, x ≤ y → p x ≤ p y) : ∀ m f, i < m → i < (wpW p (p i) c l m f).2
  | 0, f, h => by omega
  | m + 1, f, h => by
    by_cases q : p i < p m
    · rw [wpW_yes q]
      by_cases e : i = m
      · rw [e] at q
        omega
      · exact wpW_low p c l i up m _ (by omega)
    · rw [wpW_no q]
      exact h
theorem wpW_le (p : Nat → Nat) (own c l N : Nat) : ∀ m f, m ≤ N → (wpW p own c l m f).1 ≤ f + m * 2 ^ (N + c)
  | 0, f, h => Nat.le_add_right _ _
  | m + 1, f, h => by
    by_cases q : own < p m
    · rw [wpW_yes q]
      have h1 := wpW_le p own c l N m (f + (if p m ≤ l then Cw p (m + 1) c (l - p m) else 0)) (by omega)
      have h2 : (if p m ≤ l then Cw p (m + 1) c (l - p m) else 0) ≤ 2 ^ (N + c) := by
        split
        · exact Nat.le_trans (Cw_le p _ _ _) (Nat.pow_le_pow_right (by decide) (by omega))
        · exact Nat.zero_le _
      rw [Nat.add_mul, Nat.one_mul]
      omega
    · rw [wpW_no q]
      exact Nat.le_add_right _ _
theorem wp_le (p : Nat → Nat) (N M : Nat) : ∀ (is : List Nat) (l m f : Nat), m ≤ N → is.length ≤ M → wp p is l m f ≤ f + is.length * (N * 2 ^ (N + M))
  | [], l, m, f, _, _ => Nat.le_add_right _ _
  | i :: r, l, m, f, hm, hM => by
    show wp p r _ _ _ ≤ _
    have ht := wpW_top p (p i) r.length l m f
    rw [List.length_cons] at hM ⊢
    have h1 := wp_le p N M r (l - p i) (wpW p (p i) r.length l m f).2 (wpW p (p i) r.length l m f).1 (by omega) (by omega)
    have h2 := wpW_le p (p i) r.length l N m f hm
    have h3 : m * 2 ^ (N + r.length) ≤ N * 2 ^ (N + M) := Nat.mul_le_mul hm (Nat.pow_le_pow_right (by decide) (by omega))
    rw [Nat.add_mul, Nat.one_mul]
    omega
/-! ## all ways -/
def nrow (r : Nat → Nat) (q : Nat) (l : Nat) : Nat := r l + if h : 1 ≤ q ∧ q ≤ l then nrow r q (l - q) else 0
termination_by l
decreasing_by omega
theorem nrow_lo {r : Nat → Nat} {q l : Nat} (h : l < q) : nrow r q l = r l := by
  rw [nrow, dif_neg (by omega)]
  rfl
theorem nrow_hi {r : Nat → Nat} {q l : Nat} (h1 : 1 ≤ q) (h2 : q ≤ l) : nrow r q l = r l + nrow r q (l - q) := by
  rw [nrow, dif_pos ⟨h1, h2⟩]
theorem nrow_le {r : Nat → Nat} {q M N : Nat} (h : ∀ l, l ≤ N → r l ≤ M) : ∀ l, l ≤ N → nrow r q l ≤ (l + 1) * M := by
  intro l
  induction l using Nat.strongRecOn with
  | ind l ih =>
    intro hl
    have h0 := h l hl
    by_cases c : 1 ≤ q ∧ q ≤ l
    · rw [nrow_hi c.1 c.2]
      have h1 := ih (l - q) (by omega) (by omega)
      have h2 : (l - q + 1) * M ≤ l * M := Nat.mul_le_mul_right M (by omega)
      rw [Nat.add_mul, Nat.one_mul]
      omega
    · rw [nrow, dif_neg c, Nat.add_mul, Nat.one_mul]
      omega
def Aw (p : Nat → Nat) : Nat → Nat → Nat
  | 0, l => if l = 0 then 1 else 0
  | a + 1, l => nrow (Aw p a) (p a) l
theorem Aw_le (p : Nat → Nat) (N : Nat) : ∀ a l, l ≤ N → Aw p a l ≤ (N + 1) ^ a
  | 0, l, _ => by
    show (if l = 0 then 1 else 0) ≤ 1
    split <;> omega
  | a + 1, l, h => by
    show nrow (Aw p a) (p a) l ≤ _
    have h1 := nrow_le (q := p a) (Aw_le p N a) l h
    have h2 : (l + 1) * (N + 1) ^ a ≤ (N + 1) * (N + 1) ^ a := Nat.mul_le_mul_right _ (by omega)
    rw [Nat.pow_succ, Nat.mul_comm]
    omega
/-! ## the fewest, by the law of the search -/
def scan (stop go : Nat → Bool) (f : Nat → Option (List Nat)) : Nat → Option (List Nat)
  | 0 => none
  | i + 1 => if stop i = true then none else if go i = true then (match f i with
    | some x => some x
    | none => scan stop go f i) else scan stop go f i
def gb (p : Nat → Nat) (mem : Nat → Bool) : Nat → Nat → Nat → Nat → Option (List Nat)
  | 0, _, _, _ => none
  | 1, _, n, q => if decide (n ≤ q) && mem n then some [n] else none
  | m + 2, r, n, q => scan (fun i => decide (p i * (m + 2) < n)) (fun i => decide (p i ≤ q) && decide (p i + (m + 2) ≤ n + 1)) (fun i => (gb p mem (m + 1) (i + 1) (n - p i) (p i)).map (p i :: ·)) r
theorem scan_stop {stop go : Nat → Bool} {f : Nat → Option (List Nat)} {i : Nat} (h : stop i = true) : scan stop go f (i + 1) = none := if_pos h
theorem scan_skip {stop go : Nat → Bool} {f : Nat → Option (List Nat)} {i : Nat} (h : stop i = false) (g : go i = false) : scan stop go f (i + 1) = scan stop go f i := by
  rw [scan, h, g]
  rfl
theorem scan_hit {stop go : Nat → Bool} {f : Nat → Option (List Nat)} {i : Nat} {x : List Nat} (h : stop i = false) (g : go i = true) (e : f i = some x) : scan stop go f (i + 1) = some x := by
  rw [scan, h, g, e]
  rfl
theorem scan_miss {stop go : Nat → Bool} {f : Nat → Option (List Nat)} {i : Nat} (h : stop i = false) (g : go i = true) (e : f i = none) : scan stop go f (i + 1) = scan stop go f i := by
  rw [scan, h, g, e]
  rfl
theorem scan_first {stop go : Nat → Bool} {f : Nat → Option (List Nat)} {x : List Nat} (h0 : stop 0 = false) (g0 : go 0 = true) (e : f 0 = some x) : ∀ r, 1 ≤ r → (∀ i, 1 ≤ i → i < r → stop i = false ∧ go i = false) → scan stop go f r = some x
  | 0, h, _ => by omega
  | 1, _, _ => scan_hit h0 g0 e
  | r + 2, _, a => by
    rw [scan_skip (a (r + 1) (by omega) (by omega)).1 (a (r + 1) (by omega) (by omega)).2]
    exact scan_first h0 g0 e (r + 1) (by omega) fun i h1 h2 => a i h1 (by omega)
/-- at number parts: ones -/
theorem gb_ones {p : Nat → Nat} {mem : Nat → Bool} (h0 : p 0 = 1) (h1 : ∀ i, 1 ≤ i → 2 ≤ p i) (hm : mem 1 = true) : ∀ (n r q : Nat), 1 ≤ n → 1 ≤ r → 1 ≤ q → gb p mem n r n q = some (List.replicate n 1)
  | 0, _, _, h, _, _ => by omega
  | 1, r, q, _, _, hq => by
    rw [gb, hm, decide_eq_true hq]
    rfl
  | n + 2, r, q, _, hr, hq => by
    rw [gb]
    refine scan_first ?_ ?_ ?_ r hr fun i hi _ => ⟨?_, ?_⟩
    · rw [h0]
      exact decide_eq_false (by omega)
    · rw [h0, decide_eq_true hq, decide_eq_true (by omega)]
      rfl
    · rw [h0, show n + 2 - 1 = n + 1 by omega, gb_ones h0 h1 hm (n + 1) (0 + 1) 1 (by omega) (by omega) (by omega)]
      rfl
    · have := h1 i hi
      have h3 : 1 * (n + 2) ≤ p i * (n + 2) := Nat.mul_le_mul_right _ (by omega)
      exact decide_eq_false (by omega)
    · have := h1 i hi
      rw [decide_eq_false (show ¬ p i + (n + 2) ≤ n + 2 + 1 by omega), Bool.and_false]
theorem scan_spec {stop go : Nat → Bool} {f : Nat → Option (List Nat)} {P : List Nat → Prop} (h : ∀ i x, go i = true → f i = some x → P x) : ∀ r x, scan stop go f r = some x → P x
  | 0, x, e => by cases e
  | r + 1, x, e => by
    cases hs : stop r with
    | true => rw [scan_stop hs] at e; cases e
    | false =>
      cases hg : go r with
      | false =>
        rw [scan_skip hs hg] at e
        exact scan_spec h r x e
      | true =>
        cases hf : f r with
        | none =>
          rw [scan_miss hs hg hf] at e
          exact scan_spec h r x e
        | some y =>
          rw [scan_hit hs hg hf] at e
          cases e
          exact h r _ hg hf
theorem gb_len {p : Nat → Nat} {mem : Nat → Bool} : ∀ (m r n q : Nat) (x : List Nat), gb p mem m r n q = some x → x.length = m ∧ ∀ y ∈ x, y ≤ n
  | 0, _, _, _, x, e => by cases e
  | 1, _, n, q, x, e => by
    rw [gb] at e
    split at e
    · cases e
      exact ⟨rfl, fun y hy => by rw [List.mem_singleton.mp hy]; exact Nat.le_refl _⟩
    · cases e
  | m + 2, r, n, q, x, e => by
    rw [gb] at e
    refine scan_spec (P := fun x => x.length = m + 2 ∧ ∀ y ∈ x, y ≤ n) (fun i y hg hf => ?_) r x e
    obtain ⟨z, hz, rfl⟩ := Option.map_eq_some_iff.mp hf
    obtain ⟨h1, h2⟩ := gb_len (m + 1) _ _ _ z hz
    obtain ⟨_, g2⟩ := Bool.and_eq_true_iff.mp hg
    have g2 := of_decide_eq_true g2
    refine ⟨by rw [List.length_cons, h1], fun y hy => ?_⟩
    rcases List.mem_cons.mp hy with e' | e'
    · omega
    · have := h2 y e'
      omega
def fwGo (p : Nat → Nat) (mem : Nat → Bool) (R n : Nat) : Nat → Nat → List Nat
  | 0, _ => []
  | k + 1, m => match gb p mem m R n n with
    | some x => x
    | none => fwGo p mem R n k (m + 1)
theorem fwGo_hit {p : Nat → Nat} {mem : Nat → Bool} {R n k m : Nat} {x : List Nat} (h : gb p mem m R n n = some x) : fwGo p mem R n (k + 1) m = x := by
  rw [fwGo, h]
theorem fwGo_miss {p : Nat → Nat} {mem : Nat → Bool} {R n k m : Nat} (h : gb p mem m R n n = none) : fwGo p mem R n (k + 1) m = fwGo p mem R n k (m + 1) := by
  rw [fwGo, h]
theorem fwGo_len {p : Nat → Nat} {mem : Nat → Bool} {R n : Nat} : ∀ (k m : Nat), (fwGo p mem R n k m).length ≤ m + k ∧ ∀ y ∈ fwGo p mem R n k m, y ≤ n
  | 0, m => ⟨Nat.zero_le _, fun y hy => by cases hy⟩
  | k + 1, m => by
    cases h : gb p mem m R n n with
    | some x =>
      rw [fwGo_hit h]
      obtain ⟨h1, h2⟩ := gb_len m R n n x h
      exact ⟨by omega, h2⟩
    | none =>
      rw [fwGo_miss h]
      obtain ⟨h1, h2⟩ := fwGo_len (p := p) (mem := mem) (R := R) (n := n) k (m + 1)
      exact ⟨by omega, h2⟩
/-! ## the table -/
def mnl : List Nat → Nat
  | [] => 0
  | [a] => a
  | a :: b :: r => min a (mnl (b :: r))
theorem mnl_mem : ∀ (l : List Nat), l ≠ [] → mnl l ∈ l ∧ ∀ x ∈ l, mnl l ≤ x
  | [], h => absurd rfl h
  | [a], _ => ⟨List.mem_singleton.mpr rfl, fun x hx => by rw [List.mem_singleton.mp hx]; exact Nat.le_refl _⟩
  | a :: b :: r, _ => by
    obtain ⟨h1, h2⟩ := mnl_mem (b :: r) (by simp)
    have e : mnl (a :: b :: r) = min a (mnl (b :: r)) := rfl
    rw [e]
    refine ⟨?_, fun x hx => ?_⟩
    · rcases Nat.le_total a (mnl (b :: r)) with q | q
      · rw [Nat.min_eq_left q]; exact List.mem_cons_self
      · rw [Nat.min_eq_right q]; exact List.mem_cons_of_mem _ h1
    · rcases List.mem_cons.mp hx with q | q
      · rw [q]; exact Nat.min_le_left _ _
      · exact Nat.le_trans (Nat.min_le_right _ _) (h2 x q)
theorem mnl_eq {l : List Nat} {m : Nat} (h1 : m ∈ l) (h2 : ∀ x ∈ l, m ≤ x) : m = mnl l := by
  obtain ⟨g1, g2⟩ := mnl_mem l fun e => by rw [e] at h1; cases h1
  exact Nat.le_antisymm (h2 _ g1) (g2 m h1)
def tsel (p : Nat → Nat) (M k : Nat) (l : List Nat) : List Nat := ((List.range M).filter fun i => decide (p i ≤ k)).map fun i => l.getD (k - p i) 0
def tb (p : Nat → Nat) (M : Nat) : Nat → List Nat
  | 0 => [0]
  | k + 1 => tb p M k ++ [1 + mnl (tsel p M (k + 1) (tb p M k))]
theorem tb_len (p : Nat → Nat) (M : Nat) : ∀ k, (tb p M k).length = k + 1
  | 0 => rfl
  | k + 1 => by
    show (tb p M k ++ [_]).length = _
    rw [List.length_append, tb_len p M k]
    rfl
theorem tb_zero (p : Nat → Nat) (M : Nat) : ∀ k, (tb p M k)[0]? = some 0
  | 0 => rfl
  | k + 1 => by
    show (tb p M k ++ [_])[0]? = _
    rw [List.getElem?_append_left (by rw [tb_len]; omega)]
    exact tb_zero p M k
theorem tb_le {p : Nat → Nat} {M : Nat} (hM : 1 ≤ M) (h0 : p 0 = 1) : ∀ (k i x : Nat), (tb p M k)[i]? = some x → x ≤ i
  | 0, i, x, h => by
    cases i with
    | zero => cases h; exact Nat.le_refl _
    | succ i => cases h
  | k + 1, i, x, h => by
    have h : (tb p M k ++ [1 + mnl (tsel p M (k + 1) (tb p M k))])[i]? = some x := h
    by_cases c : i < k + 1
    · rw [List.getElem?_append_left (by rw [tb_len]; omega)] at h
      exact tb_le hM h0 k i x h
    · rw [List.getElem?_append_right (by rw [tb_len]; omega), tb_len] at h
      have e : i = k + 1 := by
        have := (List.getElem?_eq_some_iff.mp h).1
        rw [List.length_singleton] at this
        omega
      subst e
      have h : some (1 + mnl (tsel p M (k + 1) (tb p M k))) = some x := by simpa using h
      have hm : (tb p M k).getD k 0 ∈ tsel p M (k + 1) (tb p M k) := by
        refine List.mem_map.mpr ⟨0, List.mem_filter.mpr ⟨List.mem_range.mpr (by omega), by rw [h0]; exact decide_eq_true (by omega)⟩, ?_⟩
        rw [h0]
        rfl
      have h2 := (mnl_mem _ (fun z => by rw [z] at hm; cases hm)).2 _ hm
      have h3 : (tb p M k).getD k 0 ≤ k := by
        have hk : k < (tb p M k).length := by rw [tb_len]; omega
        have := tb_le hM h0 k k _ (List.getElem?_eq_getElem hk)
        rw [List.getD_eq_getElem?_getD, List.getElem?_eq_getElem hk]
        exact this
      have h4 := Option.some.inj h
      omega
/-! ## the parts -/
def prt (b i : Nat) : Nat := mirAt b (i + 1)
def ris (b n : Nat) : List Nat := (List.range (cnt b n)).map (prt b)
theorem prt_lt {b i j : Nat} (hb : 2 ≤ b) (h : i < j) : prt b i < prt b j := mirAt_lt hb (by omega)
theorem prt_le {b i j : Nat} (hb : 2 ≤ b) (h : i ≤ j) : prt b i ≤ prt b j := by
  rcases Nat.lt_or_ge i j with q | q
  · exact Nat.le_of_lt (prt_lt hb q)
  · rw [show i = j by omega]
    exact Nat.le_refl _
theorem prt_inj {b i j : Nat} (hb : 2 ≤ b) (h : prt b i = prt b j) : i = j := by
  rcases Nat.lt_trichotomy i j with q | q | q
  · have := prt_lt hb q; omega
  · exact q
  · have := prt_lt hb q; omega
theorem prt_zero {b : Nat} (hb : 2 ≤ b) : prt b 0 = 1 := by
  have h1 : cnt b 1 = 1 := by
    rw [cnt_succ hb 0, cnt_zero, if_pos (pal_small (by omega))]
  have := mirAt_cnt hb (p := pal_small (b := b) (n := 1) (by omega))
  rw [h1] at this
  exact this
theorem prt_pos {b : Nat} (hb : 2 ≤ b) (i : Nat) : 1 ≤ prt b i := by
  have := prt_le hb (Nat.zero_le i)
  rw [prt_zero hb] at this
  exact this
theorem prt_two {b i : Nat} (hb : 2 ≤ b) (h : 1 ≤ i) : 2 ≤ prt b i := by
  have := prt_lt hb (show 0 < i by omega)
  rw [prt_zero hb] at this
  omega
theorem prt_top {b n i : Nat} (hb : 2 ≤ b) (h : i < cnt b n) : prt b i ≤ n := (mirAt_le_iff hb).mpr (by omega)
theorem cnt_one {b n : Nat} (hb : 2 ≤ b) (h : 1 ≤ n) : 1 ≤ cnt b n := by
  have h1 : cnt b 1 = 1 := by
    rw [cnt_succ hb 0, cnt_zero, if_pos (pal_small (by omega))]
  have := cnt_mono hb h
  omega
/-- is it one of the parts to N -/
def isPrt (b N x : Nat) : Bool := decide (1 ≤ x) && (decide (x ≤ N) && pal b x)
end Mir
namespace Mir
open PySem PySem.Spec PyProof.Rows L2 Evl
open C8 (Cal pe_c)
/-! ## rules -/
def gIx (K : PySem.W.Frag) : V → V → Hp → VK → Prop := fun x y H Q => ∃ (p : Addr) (xs : List V) (j : Nat) (v : V), x = .ref p ∧ y = nI j ∧ SqL K H p xs ∧ xs[j]? = some v ∧ Q v H
theorem pget_list {X : Cx} : PGet X (gIx X.K) := by
  intro pins s σ H o i ov iv Q I ro ri h
  obtain ⟨p, xs, j, v, rfl, rfl, hq, he, q⟩ := h
  cases ro
  obtain ⟨t, rfl⟩ := ri
  obtain ⟨its, r, pl, hz⟩ := I.list hq
  obtain ⟨w, ew, rw'⟩ := r.get he
  have hj : j < xs.length := (List.getElem?_eq_some_iff.mp he).1
  have hn := line63
  exact getItem_listL pl.isList (by omega) (by omega) (by rw [Int.toNat_natCast]; exact ew) ⟨v, H, I, rw', q⟩
def tNo : TE := fun _ _ _ => False
theorem pe_no {X : Cx} {f : Expr} {es : List Expr} {t : TA} {pos : Pos} (_ : PA X es t) : PE X (.Call f es [] pos) tNo := ⟨fun _ _ _ _ _ _ h => h.elim⟩
theorem rv_notN {x : V} {H : Hp} : RV (fun x y H Q => y = .non ∧ Q (.bl (!decide (x = .non))) H) x .non H (.bl (!decide (x = .non))) := fun H1 e Q q => ⟨rfl, q H1 (Ex.refl H1)⟩
theorem rv_isN {x : V} {H : Hp} : RV (fun x y H Q => y = .non ∧ Q (.bl (decide (x = .non))) H) x .non H (.bl (decide (x = .non))) := fun H1 e Q q => ⟨rfl, q H1 (Ex.refl H1)⟩
theorem el_catLK {σ : L2.St} {H : Hp} {ta tb : TE} {b : Addr} {xs ys : List V} (ha : EvL ta σ H xs) (hb : Ev tb σ H (.ref b)) (hy : H b = some (.lst ys)) (hz : xs.length + ys.length ≤ 100000) : EvL (tOp rCat ta tb) σ H (xs ++ ys) := fun H1 e Q q =>
  ha H1 e _ fun a H2 han e2 hx => hb H2 (e.trans e2) _ fun H3 e3 => ⟨a, b, xs, ys, rfl, rfl, e3 a _ hx, ((e.trans e2).trans e3) b _ hy, sz_of hz, fun p hp => q p _ (fresh_back (e2.trans e3) hp) ((e2.trans e3).trans (Ex.new hp)) upd_same⟩
theorem ev_din {σ : L2.St} {H : Hp} {ty td : TE} {y : V} {a : Addr} {o : Option V} (hy : Ev ty σ H y) (hd : Ev td σ H (.ref a)) (g : ∀ H1, Ex H H1 → DGet H1 a y o) : Ev (tDIn ty td) σ H (.bl o.isSome) := fun H1 e Q q =>
  hy H1 e _ fun H2 e2 => hd H2 (e.trans e2) _ fun H3 e3 => ⟨a, o, rfl, g H3 ((e.trans e2).trans e3), q H3 (e2.trans e3)⟩
theorem ev_dget {σ : L2.St} {H : Hp} {ty td : TE} {y v : V} {a : Addr} (hd : Ev td σ H (.ref a)) (hy : Ev ty σ H y) (g : ∀ H1, Ex H H1 → DGet H1 a y (some v)) : Ev (tDGet td ty) σ H v := fun H1 e Q q =>
  hd H1 e _ fun H2 e2 => hy H2 (e.trans e2) _ fun H3 e3 => ⟨a, v, rfl, g H3 ((e.trans e2).trans e3), q H3 (e2.trans e3)⟩
theorem paired_of {α β : Type} {F : α → β → Prop} : ∀ {xs : List α} {ys : List β}, xs.length = ys.length → (∀ (i : Nat) x y, xs[i]? = some x → ys[i]? = some y → F x y) → Paired F xs ys
  | [], [], _, _ => .nil
  | x :: xs, y :: ys, h, g => .cons (g 0 x y rfl rfl) (paired_of (Nat.succ.inj h) fun i x y a b => g (i + 1) x y a b)
/-! ## the parts -/
def rp (b r : Nat) : List Nat := (List.range r).map (prt b)
theorem rp_len (b r : Nat) : (rp b r).length = r := by
  unfold rp
  rw [List.length_map, List.length_range]
theorem rp_get {b r i : Nat} (h : i < r) : (rp b r)[i]? = some (prt b i) := by
  unfold rp
  rw [List.getElem?_map, List.getElem?_range h]
  rfl
theorem nats_at {l : List Nat} {i x : Nat} (h : l[i]? = some x) : (nats l)[i]? = some (nI x) := by
  rw [List.getElem?_map, h]
  rfl
theorem rp_take {b r i : Nat} (h : i ≤ r) : (rp b r).take i = rp b i := by
  unfold rp
  rw [← List.map_take, List.take_range, Nat.min_eq_left h]
theorem rp_rev {b r i : Nat} {x : V} (h : (nats (rp b r)).reverse[i]? = some x) : ∃ k, r - i = k + 1 ∧ r - (i + 1) = k ∧ k < r ∧ x = nI (prt b k) := by
  have hi := (List.getElem?_eq_some_iff.mp h).1
  rw [List.length_reverse, List.length_map, rp_len] at hi
  rw [List.getElem?_reverse (by rw [List.length_map, rp_len]; exact hi), List.length_map, rp_len, nats_at (rp_get (show r - 1 - i < r by omega))] at h
  exact ⟨r - 1 - i, by omega, by omega, by omega, (Option.some.inj h).symm⟩
theorem prt_iff {b x r : Nat} (hb : 2 ≤ b) : prt b r = x ↔ pal b x = true ∧ cnt b x = r + 1 := by
  constructor
  · intro e
    subst e
    exact ⟨mirAt_pal hb _, cnt_mirAt hb _⟩
  · rintro ⟨p, e⟩
    unfold prt
    rw [← e]
    exact mirAt_cnt hb p
theorem isPrt_iff {b N x : Nat} (hb : 2 ≤ b) : isPrt b N x = true ↔ pal b x = true ∧ 1 ≤ cnt b x ∧ cnt b x ≤ cnt b N := by
  unfold isPrt
  rw [Bool.and_eq_true_iff, Bool.and_eq_true_iff, decide_eq_true_iff, decide_eq_true_iff]
  constructor
  · rintro ⟨h1, h2, p⟩
    have z := cnt_lt hb (m := 0) (n := x) (by omega) p
    exact ⟨p, by omega, cnt_mono hb h2⟩
  · rintro ⟨p, h1, h2⟩
    refine ⟨?_, ?_, p⟩
    · cases x with
      | zero => rw [cnt_zero] at h1; omega
      | succ x => omega
    · have z := (mirAt_le_iff (n := N) hb).mpr h2
      rw [mirAt_cnt hb p] at z
      exact z
theorem isPrt_prt {b N i : Nat} (hb : 2 ≤ b) (h : i < cnt b N) : isPrt b N (prt b i) = true := (isPrt_iff hb).mpr ⟨mirAt_pal hb _, by unfold prt; rw [cnt_mirAt hb]; omega, by unfold prt; rw [cnt_mirAt hb]; omega⟩
/-- the table of places: a part's place, from 1 on -/
def plc (b N x : Nat) : Option V := if isPrt b N x = true then some (nI (cnt b x)) else none
theorem plc_some (b N x : Nat) : (plc b N x).isSome = isPrt b N x := by
  unfold plc
  cases isPrt b N x <;> rfl
def kvTo (b r : Nat) : List (Key × V) := (List.range r).map fun j => (.inl ((prt b j : Nat) : Int), nI (j + 1))
theorem kvTo_val {b : Nat} (hb : 2 ≤ b) (x : Nat) : ∀ r, valV (mergeK [] (kvTo b r)) (.inl (x : Int)) = if pal b x = true ∧ 1 ≤ cnt b x ∧ cnt b x ≤ r then some (nI (cnt b x)) else none
  | 0 => by
    rw [if_neg (by omega)]
    rfl
  | r + 1 => by
    have e : mergeK [] (kvTo b (r + 1)) = putK (mergeK [] (kvTo b r)) (.inl ((prt b r : Nat) : Int)) (nI (r + 1)) := by
      unfold kvTo mergeK
      rw [List.range_succ, List.map_append, List.foldl_append]
      rfl
    rw [e, valV_put, kvTo_val hb x r]
    by_cases c : prt b r = x
    · have z := (prt_iff hb).mp c
      rw [if_pos (by rw [c]), if_pos ⟨z.1, by omega, by omega⟩, z.2]
    · rw [if_neg (fun h => c (by have := Sum.inl.inj h; omega))]
      by_cases d : pal b x = true ∧ 1 ≤ cnt b x ∧ cnt b x ≤ r
      · rw [if_pos d, if_pos ⟨d.1, d.2.1, by omega⟩]
      · rw [if_neg d, if_neg (fun h => d ⟨h.1, h.2.1, by
          have : cnt b x ≠ r + 1 := fun z => c ((prt_iff hb).mpr ⟨h.1, z⟩)
          omega⟩)]
theorem kvTo_plc {b : Nat} (hb : 2 ≤ b) (N x : Nat) : valV (mergeK [] (kvTo b (cnt b N))) (.inl (x : Int)) = plc b N x := by
  rw [kvTo_val hb]
  unfold plc
  by_cases c : isPrt b N x = true
  · rw [if_pos c, if_pos ((isPrt_iff hb).mp c)]
  · rw [if_neg c, if_neg fun h => c ((isPrt_iff hb).mpr h)]
def Places (H : Hp) (D : Addr) (b N : Nat) : Prop := ∃ kvs, H D = some (.dK kvs) ∧ ∀ x : Nat, valV kvs (.inl (x : Int)) = plc b N x
theorem Places.mono {H H' : Hp} {D : Addr} {b N : Nat} (h : Places H D b N) (e : Ex H H') : Places H' D b N := by
  obtain ⟨kvs, h1, h2⟩ := h
  exact ⟨kvs, e D _ h1, h2⟩
theorem Places.get {H : Hp} {D : Addr} {b N x : Nat} (h : Places H D b N) : DGet H D (nI x) (plc b N x) := by
  obtain ⟨kvs, h1, h2⟩ := h
  have z := DGet.k (k := .inl (x : Int)) h1
  rw [h2] at z
  exact z
/-! ## promises -/
def RetO (o : Option (List Nat)) (H : Hp) (Q : VK) : Prop := match o with
  | none => RetV .non H Q
  | some l => RetL (nats l) H Q
def spMirTo : Sp := fun vs H Q _ => ∃ n b : Nat, vs = [nI n, nI b] ∧ Good n b ∧ n ≤ 1000 ∧ RetL (nats (rp b (cnt b n))) H Q
def spGreat (K : PySem.W.Frag) (m : Nat) : Sp := fun vs H Q _ => ∃ (a D : Addr) (b N r n q : Nat), vs = [.ref a, .ref D, nI n, nI m, nI q] ∧ 2 ≤ b ∧ r ≤ cnt b N ∧ N ≤ 1000 ∧ m ≤ 1000 ∧ SqL K H a (nats (rp b r)) ∧ Places H D b N ∧ RetO (gb (prt b) (isPrt b N) m r n q) H Q
def spGreatAll (K : PySem.W.Frag) : Sp := fun vs H Q E => ∃ m, m ≤ 60 ∧ spGreat K (m + 1) vs H Q E
def fwv (b n : Nat) : List Nat := if n = 0 then [] else fwGo (prt b) (isPrt b n) (cnt b n) n n 1
def spFewest : Sp := fun vs H Q _ => ∃ n b : Nat, vs = [nI n, nI b] ∧ Good n b ∧ n ≤ 60 ∧ RetL (nats (fwv b n)) H Q
theorem sl_mirTo {n b : Nat} {H : Hp} (g : Good n b) (h : n ≤ 1000) : SpL spMirTo [nI n, nI b] H (nats (rp b (cnt b n))) := fun _ _ _ q _ => ⟨n, b, rfl, g, h, q⟩
theorem sl_fewest {n b : Nat} {H : Hp} (g : Good n b) (h : n ≤ 60) : SpL spFewest [nI n, nI b] H (nats (fwv b n)) := fun _ _ _ q _ => ⟨n, b, rfl, g, h, q⟩
section
variable {P : Program} {w : World} {K : PySem.W.Frag} {mg : Str → Option Value} {base : Heap}
theorem ok_mirrored_to (Z : Txt K mg) : Cal P w K mg base 4 "mirrored_to" spMirTo [] := by
  refine Z.d_mirrored_to.cal sc_mirrored_to (fun vs H Q E h => ?_) (fun f cdv A outer s H vs Q E hr h => ?_)
  · obtain ⟨n, b, rfl, _⟩ := h
    rfl
  · obtain ⟨n, b, rfl, g, hn, q⟩ := h
    have hb := g.two
    have hc := cnt_le hb n
    refine ⟨_, (pss_one (ps_ret (pe_lc (own := [("place", 2)]) (g := gName 2) (tt := tYes) rfl sc_mirrored_to.nd (pi_range2 (by rfl) Z.f_range (pa_cons pe_int (pa_cons (pe_op op_add (pe_c (ok_many_to Z) hr (by decide) (by rfl) (pa_cons (pv 0) (pa_cons (pv 1) pa_nil))) pe_int) pa_nil))) (blkOk_by (N := nm_mirrored_to) (sc := defScope s_mirrored_to) (by decide +kernel)) (fun _ _ _ _ _ => pg_name (i := 2) sc_mirrored_to.nd rfl (Or.inl rfl)) (fun _ _ _ _ _ => pts_nil) (fun _ _ _ _ _ => (pe_c (ok_mirrored_at Z) hr (by decide) (by rfl) (pa_cons (pv 2) (pa_cons (pv 1) pa_nil))))))), ?_⟩
    refine s_retL (EvL.is (el_lcR2 (lo := 1) (n := ((cnt b n + 1 : Nat) : Int)) (fun _ => true) (fun i => nI (prt b i)) (ea_cons ev_c (ea_cons (ev_addN (ev_call (ea_cons (ev_var rfl) (ea_cons (ev_var rfl) ea_nil)) (sv_manyTo g)) (ev_cN 1)) ea_nil)) ⟨by omega, by omega, by omega, by omega⟩ (fun _ => rfl)
      (fun i H5 e5 hi H6 e6 Q6 q6 => q6 H6 (Ex.refl H6)) fun i H5 e5 hi _ => ?_) ?_) fun p H2 hp e2 h2 => q p H2 hp e2 h2
    · exact ev_call (ea_cons (x := nI (i + 1)) (ev_is (ev_var rfl) (congrArg V.int (by omega))) (ea_cons (ev_var rfl) ea_nil)) (sv_mirroredAt hb g.top (Nat.lt_of_le_of_lt (show i + 1 ≤ 1001 by omega) (by decide)))
    · rw [given_all]
      have e : (((cnt b n + 1 : Nat) : Int) - 1).toNat = cnt b n := by omega
      rw [e]
      unfold rp nats
      rw [List.map_map]
      rfl
theorem great_fn (Z : Txt K mg) {f : Addr} {fd : FuncData} (F : FunD K "greatest_by" "greatest_by" (defArgs s_greatest_by) (defBody s_greatest_by) (defScope s_greatest_by) [] [] f fd) (hm : mg "greatest_by" = some (.ref f)) (hbd : Binds K fd ["rising", "places", "number", "many", "most"] []) :
    ∀ m, FnOk P w K mg base CX0 (m + 1) f fd ["rising", "places", "number", "many", "most"] (spGreat K (m + 1))
  | 0 => by
    refine F.ok sc_greatest_by (fun vs H Q E h => ?_) (fun cdv A outer s H vs Q E hr h => ?_)
    · obtain ⟨a, D, b, N, r, n, q, rfl, _⟩ := h
      rfl
    · obtain ⟨a, D, b, N, r, n, q, rfl, hb, hr', hN, hm', hs, hP, k⟩ := h
      refine ⟨_, PSs.nox (pss_cons (ps_if (pt_cmpR op_eq (pv 3) pe_int (nomark _))
        (pss_cons (ps_if (PW.pt (pw_and (pt_cmpR op_le (pv 2) (pv 4) (nomark _)) (pw_and1 (pt_cmp (pc_din (hu_of hr) (pv 2) (pv 1)) (by rfl)))))
          (pss_one (ps_ret (pe_lst (pa_cons (pv 2) pa_nil))))
          pss_nil)
        (pss_one (ps_ret pe_non)))
        pss_nil)
      (pss_cons (ps_for PassesOwn.never rfl (pi_list (pe_revL (pv 0))) (pg_name (i := 5) sc_greatest_by.nd rfl (Or.inl rfl))
        (pss_cons (ps_if (pt_cmpR op_lt (pe_op op_mul (pv 5) (pv 3)) (pv 2) (nomark _))
          (pss_one (ps_ret pe_non))
          pss_nil)
        (pss_one (ps_if (PW.pt (pw_and (pt_cmpR op_le (pv 5) (pv 4) (nomark _)) (pw_and1 (pt_cmpR op_le (pe_op op_add (pv 5) (pv 3)) (pe_op op_add (pv 2) pe_int) (nomark _)))))
          (pss_cons (ps_set (i := 6) sc_greatest_by.nd rfl (Or.inl rfl) (pe_no (pa_cons (pe_slice sl_list (pv 0) po_none (po_some (pe_dget (hu_of hr) (pv 1) (pv 5) (fun _ _ => rfl)))) (pa_cons (pv 1) (pa_cons (pe_op op_sub (pv 2) (pv 5)) (pa_cons (pe_op op_sub (pv 3) pe_int) (pa_cons (pv 5) pa_nil)))))))
          (pss_one (ps_if (pt_cmpR op_notN (pv 6) pe_non (nomark _))
            (pss_one (ps_ret (pe_op op_cat (pe_lst (pa_cons (pv 5) pa_nil)) (pv 6))))
            pss_nil)))
          pss_nil))))
      (pss_one (ps_ret pe_non)))), ?_⟩
      refine q_when (b := decide (1 = 1)) (et_test (ev_eqN (ev_var rfl) (ev_cN 1))) (fun _ H1 e1 => ?_) fun hc H1 e1 => (of_decide_eq_false hc rfl).elim
      refine q_when (b := decide (n ≤ q) && isPrt b N n) (et_and (et_leN (ev_var rfl) (ev_var rfl)) fun _ => et_is (et_B (ev_din (y := nI n) (a := D) (o := plc b N n) (ev_var rfl) (ev_var rfl) fun H2 e2 => ((hP.mono e1).mono e2).get)) (plc_some b N n)) (fun hc H2 e2 => ?_) fun hc H2 e2 => ?_
      · rw [gb, hc] at k
        exact s_retL (xs := nats [n]) (el_lst (ea_cons (ev_var rfl) ea_nil) (by show 1 ≤ 100000; decide)) fun p H3 hp e3 h3 => k p H3 (fresh_back (e1.trans e2) hp) ((e1.trans e2).trans e3) h3
      · rw [gb, hc] at k
        exact s_ret ev_c fun H3 e3 => k H3 ((e1.trans e2).trans e3)
  | m + 1 => by
    have ih : Cal P w K mg base (m + 1) "greatest_by" (spGreat K (m + 1)) [] := ⟨⟨f, fd, _, [], great_fn Z F hm hbd m, hm, F.kp, hbd, .nil⟩⟩
    refine F.ok sc_greatest_by (fun vs H Q E h => ?_) (fun cdv A outer s H vs Q E hr h => ?_)
    · obtain ⟨a, D, b, N, r, n, q, rfl, _⟩ := h
      rfl
    · obtain ⟨a, D, b, N, r, n, q, rfl, hb, hr', hN, hm', hs, hP, k⟩ := h
      refine ⟨_, PSs.nox (pss_cons (ps_if (pt_cmpR op_eq (pv 3) pe_int (nomark _))
        (pss_cons (ps_if (PW.pt (pw_and (pt_cmpR op_le (pv 2) (pv 4) (nomark _)) (pw_and1 (pt_cmp (pc_din (hu_of hr) (pv 2) (pv 1)) (by rfl)))))
          (pss_one (ps_ret (pe_lst (pa_cons (pv 2) pa_nil))))
          pss_nil)
        (pss_one (ps_ret pe_non)))
        pss_nil)
      (pss_cons (ps_for PassesOwn.never rfl (pi_list (pe_revL (pv 0))) (pg_name (i := 5) sc_greatest_by.nd rfl (Or.inl rfl))
        (pss_cons (ps_if (pt_cmpR op_lt (pe_op op_mul (pv 5) (pv 3)) (pv 2) (nomark _))
          (pss_one (ps_ret pe_non))
          pss_nil)
        (pss_one (ps_if (PW.pt (pw_and (pt_cmpR op_le (pv 5) (pv 4) (nomark _)) (pw_and1 (pt_cmpR op_le (pe_op op_add (pv 5) (pv 3)) (pe_op op_add (pv 2) pe_int) (nomark _)))))
          (pss_cons (ps_set (i := 6) sc_greatest_by.nd rfl (Or.inl rfl) (pe_c ih hr (Nat.le_refl _) (by rfl) (pa_cons (pe_slice sl_list (pv 0) po_none (po_some (pe_dget (hu_of hr) (pv 1) (pv 5) (fun _ _ => rfl)))) (pa_cons (pv 1) (pa_cons (pe_op op_sub (pv 2) (pv 5)) (pa_cons (pe_op op_sub (pv 3) pe_int) (pa_cons (pv 5) pa_nil)))))))
          (pss_one (ps_if (pt_cmpR op_notN (pv 6) pe_non (nomark _))
            (pss_one (ps_ret (pe_op op_cat (pe_lst (pa_cons (pv 5) pa_nil)) (pv 6))))
            pss_nil)))
          pss_nil))))
      (pss_one (ps_ret pe_non)))), ?_⟩
      refine q_when (b := decide (m + 1 + 1 = 1)) (et_test (ev_eqN (ev_var rfl) (ev_cN 1))) (fun hc H1 e1 => absurd (of_decide_eq_true hc) (by omega)) fun hc H1 e1 => ?_
      have hgb := gb.eq_3 (prt b) (isPrt b N) r n q m
      rw [hgb] at k
      generalize hst : (fun i => decide (prt b i * (m + 2) < n)) = st at k
      generalize hgo : (fun i => decide (prt b i ≤ q) && decide (prt b i + (m + 2) ≤ n + 1)) = go at k
      generalize hfn : (fun i => (gb (prt b) (isPrt b N) (m + 1) (i + 1) (n - prt b i) (prt b i)).map (prt b i :: ·)) = fn at k
      refine q_forNLn (el_rev (ev_var rfl) (ex_l e1 hs)) (fun l i σ' H' => ∃ o5 o6, σ' = [some (.ref a), some (.ref D), some (nI n), some (nI (m + 1 + 1)), some (nI q), o5, o6] ∧ Ex H H' ∧ H' l = some (.lst (nats (rp b r)).reverse) ∧ scan st go fn r = scan st go fn (r - i))
        (fun l H2 hl e2 h2 => ⟨none, none, rfl, e1.trans e2, h2, by rw [Nat.sub_zero]⟩) (fun l i σ' H' _ ⟨_, _, _, _, h2, _⟩ => sq_of h2) ?_ ?_
      · rintro l i x σ' H' hx ⟨o5, o6, rfl, e', hl, hsc⟩
        obtain ⟨j, j1, j2, j3, rfl⟩ := rp_rev hx
        rw [j1] at hsc
        have hpl : prt b j ≤ N := prt_top hb (by omega)
        refine q_when (b := decide (prt b j * (m + 1 + 1) < n)) (et_ltN (ev_mulR (ev_var rfl) (ev_var rfl) (by omega)) (ev_var rfl)) (fun hc H2 e2 => ?_) fun hc H2 e2 => ?_
        · rw [hsc, scan_stop (by rw [← hst]; exact hc)] at k
          exact s_ret ev_c fun H3 e3 => k H3 ((e'.trans e2).trans e3)
        · have hc' : st j = false := by rw [← hst]; exact hc
          refine s_when (b := decide (prt b j ≤ q) && decide (prt b j + (m + 1 + 1) ≤ n + 1)) (et_and (et_leN (ev_var rfl) (ev_var rfl)) fun _ => et_leN (ev_addN (ev_var rfl) (ev_var rfl)) (ev_addN (ev_var rfl) (ev_cN 1))) (fun hd H3 e3 => ?_) fun hd H3 e3 => ?_
          · have hd' : go j = true := by rw [← hgo]; exact hd
            obtain ⟨d1, d2⟩ := Bool.and_eq_true_iff.mp hd
            have d2 := of_decide_eq_true d2
            have e03 := (e'.trans e2).trans e3
            have hP3 := hP.mono e03
            have hplc : plc b N (prt b j) = some (nI (j + 1)) := by
              unfold plc
              rw [if_pos (isPrt_prt hb (by omega))]
              unfold prt
              rw [cnt_mirAt hb]
            have esl := el_sl (K := K) (te := tVar 0) (σ := [some (.ref a), some (.ref D), some (nI n), some (nI (m + 1 + 1)), some (nI q), some (nI (prt b j)), o6]) (H := H3) (hi := some ((j + 1 : Nat) : Int)) (ev_var rfl) eo_none (eo_some (te := tDGet (tVar 1) (tVar 5)) (ev_dget (v := nI (j + 1)) (a := D) (y := nI (prt b j)) (ev_var rfl) (ev_var rfl) fun H4 e4 => by
              have z := (hP3.mono e4).get (x := prt b j)
              rw [hplc] at z
              exact z)) (ex_l e03 hs)
            rw [cut_to, nats_take, rp_take (show j + 1 ≤ r by omega)] at esl
            refine esl H3 (Ex.refl H3) _ fun l2 H4 hl2 e4 h4 => ?_
            refine (ea_cons (x := .ref D) (ev_var rfl) (ea_cons (x := nI (n - prt b j)) (ev_subN (ev_var rfl) (ev_var rfl) (by omega)) (ea_cons (x := nI (m + 1)) (ev_is (ev_subN (a := m + 1 + 1) (ev_var rfl) (ev_cN 1) (by omega)) (congrArg V.int (by omega))) (ea_cons (ev_var rfl) ea_nil)))) H4 (Ex.refl H4) _ fun H5 e5 => ?_
            refine ⟨l2, D, b, N, j + 1, n - prt b j, prt b j, rfl, hb, by omega, hN, by omega, sq_of (e5 _ _ h4), (hP3.mono e4).mono e5, ?_⟩
            have hf : fn j = (gb (prt b) (isPrt b N) (m + 1) (j + 1) (n - prt b j) (prt b j)).map (prt b j :: ·) := by rw [← hfn]
            have e05 := (e03.trans e4).trans e5
            cases hg : gb (prt b) (isPrt b N) (m + 1) (j + 1) (n - prt b j) (prt b j) with
            | none =>
              rw [hg] at hf
              refine fun H6 e6 => ?_
              refine s_when (b := !decide (V.non = V.non)) (et_test (ev_op (ev_var rfl) ev_c rv_notN)) (fun hz H7 e7 => by rw [decide_eq_true rfl] at hz; cases hz) fun _ H7 e7 => ?_
              refine ⟨_, _, rfl, (e05.trans e6).trans e7, (((((e2.trans e3).trans e4).trans e5).trans e6).trans e7) _ _ hl, ?_⟩
              rw [hsc, scan_miss hc' hd' hf, j2]
            | some y =>
              rw [hg] at hf
              refine fun p6 H6 hp6 e6 h6 => ?_
              have hy := gb_len _ _ _ _ _ hg
              refine s_when (b := !decide (V.ref p6 = V.non)) (et_test (ev_op (ev_var rfl) ev_c rv_notN)) (fun hz H7 e7 => ?_) fun hz H7 e7 => by
                rw [decide_eq_false (fun z => nomatch z)] at hz
                cases hz
              rw [hsc, scan_hit hc' hd' hf] at k
              refine s_retL (xs := nats (prt b j :: y)) (el_catLK (xs := [nI (prt b j)]) (ys := nats y) (el_lst (ea_cons (ev_var rfl) ea_nil) (by show 1 ≤ 100000; decide)) (ev_var rfl) (e7 _ _ h6) (by rw [List.length_map, hy.1]; show 1 + (m + 1) ≤ 100000; omega)) fun p8 H8 hp8 e8 h8 => ?_
              exact k p8 H8 (fresh_back ((e05.trans e6).trans e7) hp8) (((e05.trans e6).trans e7).trans e8) h8
          · have hd' : go j = false := by rw [← hgo]; exact hd
            exact ⟨_, _, rfl, (e'.trans e2).trans e3, (e2.trans e3) _ _ hl, by rw [hsc, scan_skip hc' hd', j2]⟩
      · rintro l σ' H' ⟨o5, o6, rfl, e', hl, hsc⟩
        rw [List.length_reverse, List.length_map, rp_len, Nat.sub_self] at hsc
        rw [hsc] at k
        exact s_ret ev_c fun H3 e3 => k H3 (e'.trans e3)
theorem ok_greatest_by (Z : Txt K mg) : Cal P w K mg base 61 "greatest_by" (spGreatAll K) [] := by
  obtain ⟨f, fd, F, hm, hb⟩ := Z.d_greatest_by.ex
  refine ⟨⟨f, fd, _, [], ⟨fun vs H Q E h => ?_, fun A outer s H args us vs Q E hr he hbd hv h => ?_⟩, hm, F.kp, hb, .nil⟩⟩
  · obtain ⟨m, _, h⟩ := h
    exact (great_fn (P := P) (w := w) (base := base) Z F hm hb m).len vs H Q E h
  · obtain ⟨m, h1, h⟩ := h
    exact (great_fn Z F hm hb m).run A outer s H args us vs Q E (hr.mono (by omega)) he hbd hv h
end
end Mir
namespace Mir
open PySem PySem.Spec PyProof.Rows L2 Evl
open C8 (Cal pe_c)
/-! ## rows of numbers -/
def rowV (f : Nat → Nat) (n : Nat) : List V := (List.range (n + 1)).map fun l => nI (f l)
theorem rowV_len (f : Nat → Nat) (n : Nat) : (rowV f n).length = n + 1 := by
  unfold rowV
  rw [List.length_map, List.length_range]
theorem rowV_get {f : Nat → Nat} {n l : Nat} (h : l ≤ n) : (rowV f n)[l]? = some (nI (f l)) := by
  unfold rowV
  rw [List.getElem?_map, List.getElem?_range (by omega)]
  rfl
theorem rowV_congr {f g : Nat → Nat} {n : Nat} (h : ∀ l, l ≤ n → f l = g l) : rowV f n = rowV g n := by
  unfold rowV
  refine List.map_congr_left fun l hl => ?_
  rw [h l (by have := List.mem_range.mp hl; omega)]
theorem rowV_set {f g : Nat → Nat} {n c : Nat} (h : c ≤ n) : (rowV (fun l => if l < c then f l else g l) n).set c (nI (f c)) = rowV (fun l => if l < c + 1 then f l else g l) n := by
  refine List.ext_getElem? fun l => ?_
  by_cases hl : l ≤ n
  · rw [rowV_get hl]
    by_cases e : c = l
    · subst e
      rw [List.getElem?_set_self (by rw [rowV_len]; omega), if_pos (by omega)]
    · rw [List.getElem?_set_ne e, rowV_get hl]
      by_cases d : l < c
      · rw [if_pos d, if_pos (by omega)]
      · rw [if_neg d, if_neg (by omega)]
  · rw [List.getElem?_eq_none (by rw [List.length_set, rowV_len]; omega), List.getElem?_eq_none (by rw [rowV_len]; omega)]
theorem row0 (n : Nat) : [nI 1] ++ List.replicate n (nI 0) = rowV (fun l => if l = 0 then 1 else 0) n := by
  show nI 1 :: List.replicate n (nI 0) = _
  unfold rowV
  rw [List.range_succ_eq_map, List.map_cons, List.map_map]
  refine congrArg (nI 1 :: ·) ?_
  rw [show ((fun l : Nat => nI (if l = 0 then 1 else 0)) ∘ Nat.succ) = fun _ => nI 0 from funext fun l => rfl, List.map_const', List.length_range]
theorem rowZ (n : Nat) : List.replicate (n + 1) (nI 0) = rowV (fun _ => 0) n := by
  unfold rowV
  rw [List.map_const', List.length_range]
theorem atI_end {xs : List V} {k : Nat} {v : V} (hl : xs.length = k + 1) (h : xs[k]? = some v) : atI xs (-1) = some v := by
  unfold atI
  have e : ixN xs.length (-1) = some k := by
    unfold ixN
    rw [hl, if_neg (by decide), if_pos (by omega)]
    exact congrArg some (by omega)
  rw [e]
  exact h
section
variable {K : PySem.W.Frag} {σ : L2.St} {H : Hp} {D : Ends} {ta tb tc td to ti te : TE}
theorem el_rep0 {k : Nat} {v : V} (hv : ∀ {H1 : Hp}, Ev tc σ H1 v) (h : Ev tb σ H (nI k)) (hk : k ≤ 100000) : EvL (tOp rRep (tLst (tCons tc tNil)) tb) σ H (List.replicate k v) := fun H1 e Q q =>
  el_lst (σ := σ) (H := H) (ea_cons hv ea_nil) (by show 1 ≤ 100000; decide) H1 e _ fun l H2 hl e2 h2 => h H2 (e.trans e2) _ fun H3 e3 =>
    ⟨l, (k : Int), [v], rfl, rfl, e3 l _ h2, by omega, by omega, sz_of (by rw [Int.toNat_natCast]; show 1 * k ≤ 100000; omega), fun p hp => q p _ (fresh_back (e2.trans e3) hp) ((e2.trans e3).trans (Ex.new hp)) (by
      rw [upd_same, Int.toNat_natCast]
      have z : ∀ m : Nat, (List.replicate m [v]).flatten = List.replicate m v := fun m => by
        induction m with
        | zero => rfl
        | succ m ih => rw [List.replicate_succ, List.flatten_cons, ih]; rfl
      rw [z])⟩
theorem goU {xs : List V} {Q : VK} (h : EvU te σ H xs) (k : ∀ p H2, H p = none → Ex H H2 → H2 p = some (.tup xs) → Q (.ref p) H2) : te σ H Q := h H (Ex.refl H) _ k
theorem goL {xs : List V} {Q : VK} (h : EvL te σ H xs) (k : ∀ p H2, H p = none → Ex H H2 → H2 p = some (.lst xs) → Q (.ref p) H2) : te σ H Q := h H (Ex.refl H) _ k
theorem goV {x : V} {Q : VK} (h : Ev te σ H x) (k : ∀ H2, Ex H H2 → Q x H2) : te σ H Q := h H (Ex.refl H) _ k
theorem goCall {sp : Sp} {E : XK} {ts : TA} {vs : List V} {Q : VK} (h : EvA ts σ H vs) (k : ∀ H2, Ex H H2 → sp vs H2 Q E) : tCall sp [] E ts σ H Q := h H (Ex.refl H) _ fun H2 e2 => by
  rw [List.append_nil]
  exact k H2 e2
theorem goYes {A B : Hp → Prop} (h : A H) : tYes σ H (fun b H3 => if b = true then A H3 else B H3) := by
  show (if true = true then A H else B H)
  rw [if_pos rfl]
  exact h
theorem s_augS {p : Addr} {xs : List V} {j u v : Nat} (ho : Ev to σ H (.ref p)) (hi : Ev ti σ H (nI j)) (hp : H p = some (.lst xs)) (hx : xs[j]? = some (nI u)) (he : Ev te σ H (nI v)) (k : ∀ H1, Ex H H1 → D.nx σ (upd H1 p (.lst (xs.set j (nI (u + v)))))) :
    tAugS to ti te (gIx K) (ipI fun i j => i + j) rSetL D σ H := ho H (Ex.refl H) _ fun H1 e1 => hi H1 e1 _ fun H2 e2 =>
  ⟨p, xs, j, nI u, rfl, rfl, sq_of (e2 p _ (e1 p _ hp)), hx, he H2 (e1.trans e2) _ fun H3 e3 => ⟨(u : Int), (v : Int), rfl, rfl, p, xs, (j : Int), j, rfl, rfl, e3 p _ (e2 p _ (e1 p _ hp)), ixN_nat (List.getElem?_eq_some_iff.mp hx).1, by
    have z := k H3 ((e1.trans e2).trans e3)
    have e : (u : Int) + (v : Int) = ((u + v : Nat) : Int) := by omega
    show D.nx σ (upd H3 p (.lst (xs.set j (V.int ((u : Int) + (v : Int))))))
    rw [e]
    exact z⟩⟩
/-! ## tables of rows; tables of tables: F apart -/
def MatF (H : Hp) (F R : Addr) (f : Nat → Nat → Nat) (m n : Nat) : Prop := R ≠ F ∧ ∃ rs : List Addr, H R = some (.lst (rs.map V.ref)) ∧ rs.length = m + 1 ∧ ∀ (c : Nat) (x : Addr), rs[c]? = some x → x ≠ F ∧ H x = some (.lst (rowV (f c) n))
def Cube (H : Hp) (F : Addr) (p : Nat → Nat) (k n m : Nat) : Prop := ∃ Rs : List Addr, H F = some (.lst (Rs.map V.ref)) ∧ Rs.length = k + 1 ∧ ∀ (i : Nat) (R : Addr), Rs[i]? = some R → MatF H F R (Cw p i) m n
theorem MatF.mono {H H' : Hp} {F R : Addr} {f : Nat → Nat → Nat} {m n : Nat} (h : MatF H F R f m n) (e : Ex H H') : MatF H' F R f m n := by
  obtain ⟨h0, rs, h1, h2, h3⟩ := h
  exact ⟨h0, rs, e _ _ h1, h2, fun c x hc => ⟨(h3 c x hc).1, e _ _ (h3 c x hc).2⟩⟩
theorem MatF.put {H : Hp} {F R : Addr} {f : Nat → Nat → Nat} {m n : Nat} {o : HO} (h : MatF H F R f m n) : MatF (upd H F o) F R f m n := by
  obtain ⟨h0, rs, h1, h2, h3⟩ := h
  exact ⟨h0, rs, by rw [upd_ne h0]; exact h1, h2, fun c x hc => ⟨(h3 c x hc).1, by rw [upd_ne (h3 c x hc).1]; exact (h3 c x hc).2⟩⟩
theorem Cube.mono {H H' : Hp} {F : Addr} {p : Nat → Nat} {k n m : Nat} (h : Cube H F p k n m) (e : Ex H H') : Cube H' F p k n m := by
  obtain ⟨Rs, h1, h2, h3⟩ := h
  exact ⟨Rs, e _ _ h1, h2, fun i R hi => (h3 i R hi).mono e⟩
theorem Cube.snoc {H : Hp} {F R : Addr} {p : Nat → Nat} {k n m : Nat} {Rs : List Addr} (h2 : Rs.length = k + 1) (h3 : ∀ (i : Nat) (R : Addr), Rs[i]? = some R → MatF H F R (Cw p i) m n) (h : MatF H F R (Cw p (k + 1)) m n) :
    Cube (L2.upd H F (.lst (Rs.map V.ref ++ [V.ref R]))) F p (k + 1) n m := by
  refine ⟨Rs ++ [R], by rw [upd_same, List.map_append]; rfl, by rw [List.length_append, h2]; rfl, fun i R' hi => ?_⟩
  by_cases c : i < Rs.length
  · rw [List.getElem?_append_left c] at hi
    exact (h3 i R' hi).put
  · have e : i = k + 1 := by
      have := (List.getElem?_eq_some_iff.mp hi).1
      rw [List.length_append, List.length_singleton] at this
      omega
    subst e
    rw [← h2] at hi
    have e1 : R = R' := by simpa using hi
    subst e1
    exact h.put
/-- F[i][c][l] -/
theorem ev_mat {F R : Addr} {f : Nat → Nat → Nat} {m n c l : Nat} (ha : Ev ta σ H (.ref R)) (hb : Ev tb σ H (nI c)) (hc : Ev tc σ H (nI l)) (h : MatF H F R f m n) (h1 : c ≤ m) (h2 : l ≤ n) : Ev (tOp (rIxL K) (tOp (rIxL K) ta tb) tc) σ H (nI (f c l)) := by
  obtain ⟨_, rs, g1, g2, g3⟩ := h
  obtain ⟨x, hx⟩ : ∃ x, rs[c]? = some x := ⟨rs[c]'(by omega), List.getElem?_eq_getElem (by omega)⟩
  refine ev_op (ev_op ha hb (rv_ixL (sq_of g1) (atI_nat (v := V.ref x) ?_))) hc (rv_ixL (sq_of (g3 c x hx).2) (atI_nat (rowV_get h2)))
  rw [List.getElem?_map, hx]
  rfl
theorem ev_cube {F : Addr} {p : Nat → Nat} {k n m i c l : Nat} (ha : Ev ta σ H (.ref F)) (hb : Ev tb σ H (nI i)) (hc : Ev tc σ H (nI c)) (hd : Ev td σ H (nI l)) (h : Cube H F p k n m) (h0 : i ≤ k) (h1 : c ≤ m) (h2 : l ≤ n) :
    Ev (tOp (rIxL K) (tOp (rIxL K) (tOp (rIxL K) ta tb) tc) td) σ H (nI (Cw p i c l)) := by
  obtain ⟨Rs, g1, g2, g3⟩ := h
  obtain ⟨R, hR⟩ : ∃ R, Rs[i]? = some R := ⟨Rs[i]'(by omega), List.getElem?_eq_getElem (by omega)⟩
  refine ev_mat (ev_op ha hb (rv_ixL (sq_of g1) (atI_nat (v := V.ref R) ?_))) hc hd (g3 i R hR) h1 h2
  rw [List.getElem?_map, hR]
  rfl
theorem ev_cubeEnd {F : Addr} {p : Nat → Nat} {k n m c l : Nat} (ha : Ev ta σ H (.ref F)) (hb : Ev tb σ H (.int (-1))) (hc : Ev tc σ H (nI c)) (hd : Ev td σ H (nI l)) (h : Cube H F p k n m) (h1 : c ≤ m) (h2 : l ≤ n) :
    Ev (tOp (rIxL K) (tOp (rIxL K) (tOp (rIxL K) ta tb) tc) td) σ H (nI (Cw p k c l)) := by
  obtain ⟨Rs, g1, g2, g3⟩ := h
  obtain ⟨R, hR⟩ : ∃ R, Rs[k]? = some R := ⟨Rs[k]'(by omega), List.getElem?_eq_getElem (by omega)⟩
  refine ev_mat (ev_op ha hb (rv_ixL (sq_of g1) (atI_end (k := k) (v := V.ref R) (by rw [List.length_map, g2]) ?_))) hc hd (g3 k R hR) h1 h2
  rw [List.getElem?_map, hR]
  rfl
/-- the rows under way -/
def RowsAt (H : Hp) (R : Addr) (ns : List Addr) (G : Nat → Nat → Nat) (n : Nat) : Prop := H R = some (.lst (ns.map V.ref)) ∧ ∀ (c : Nat) (x : Addr), ns[c]? = some x → H x = some (.lst (rowV (G c) n))
theorem RowsAt.mono {H H' : Hp} {R : Addr} {ns : List Addr} {G : Nat → Nat → Nat} {n : Nat} (h : RowsAt H R ns G n) (e : Ex H H') : RowsAt H' R ns G n := ⟨e _ _ h.1, fun c x hc => e _ _ (h.2 c x hc)⟩
theorem RowsAt.congr {H : Hp} {R : Addr} {ns : List Addr} {G G' : Nat → Nat → Nat} {n : Nat} (h : RowsAt H R ns G n) (g : ∀ c l, c < ns.length → l ≤ n → G c l = G' c l) : RowsAt H R ns G' n := ⟨h.1, fun c x hc => by
  rw [h.2 c x hc, rowV_congr fun l hl => g c l (List.getElem?_eq_some_iff.mp hc).1 hl]⟩
theorem RowsAt.put {H : Hp} {R : Addr} {ns : List Addr} {G : Nat → Nat → Nat} {n c : Nat} {x : Addr} {f : Nat → Nat} (h : RowsAt H R ns G n) (nd : ns.Nodup) (nR : R ∉ ns) (hc : ns[c]? = some x) :
    RowsAt (L2.upd H x (.lst (rowV f n))) R ns (fun d => if d = c then f else G d) n := by
  refine ⟨by rw [upd_ne (fun e => nR (by rw [e]; exact List.mem_of_getElem? hc))]; exact h.1, fun d y hd => ?_⟩
  by_cases e : d = c
  · subst e
    rw [hc] at hd
    cases hd
    rw [upd_same]
    show some (HO.lst (rowV f n)) = some (HO.lst (rowV (if d = d then f else G d) n))
    rw [if_pos rfl]
  · have ne : y ≠ x := fun z => by
      subst z
      exact e ((List.getElem?_inj (List.getElem?_eq_some_iff.mp hd).1 nd).mp (hd.trans hc.symm))
    rw [upd_ne ne]
    show H y = some (HO.lst (rowV (if d = c then f else G d) n))
    rw [if_neg e]
    exact h.2 d y hd
end
/-! ## promises -/
def Parts (K : PySem.W.Frag) (H : Hp) (a : Addr) (b r : Nat) : Prop := SqL K H a (nats (rp b r))
def spCounts (K : PySem.W.Frag) : Sp := fun vs H Q _ => ∃ (a : Addr) (b r n m : Nat), vs = [.ref a, nI n, nI m] ∧ 2 ≤ b ∧ r ≤ cnt b n ∧ n ≤ 1000 ∧ m ≤ 1000 ∧ Parts K H a b r ∧ ∀ F H2, H F = none → Ex H H2 → Cube H2 F (prt b) r n m → Q (.ref F) H2
def spManyWays : Sp := fun vs H Q _ => ∃ n b m : Nat, vs = [nI n, nI b, nI m] ∧ Good n b ∧ n ≤ 1000 ∧ m ≤ 1000 ∧ RetV (nI (Cw (prt b) (cnt b n) m n)) H Q
def spAllWays : Sp := fun vs H Q _ => ∃ n b : Nat, vs = [nI n, nI b] ∧ Good n b ∧ n ≤ 1000 ∧ RetV (nI (Aw (prt b) (cnt b n) n)) H Q
theorem sv_manyWays {n b m : Nat} {H : Hp} (g : Good n b) (h : n ≤ 1000) (h2 : m ≤ 1000) : SpV spManyWays [nI n, nI b, nI m] H (nI (Cw (prt b) (cnt b n) m n)) := fun _ _ _ q _ => ⟨n, b, m, rfl, g, h, h2, q⟩
theorem sv_allWays {n b : Nat} {H : Hp} (g : Good n b) (h : n ≤ 1000) : SpV spAllWays [nI n, nI b] H (nI (Aw (prt b) (cnt b n) n)) := fun _ _ _ q _ => ⟨n, b, rfl, g, h, q⟩
section
variable {P : Program} {w : World} {K : PySem.W.Frag} {mg : Str → Option Value} {base : Heap}
theorem ok_fewest (Z : Txt K mg) : Cal P w K mg base 62 "fewest" spFewest [] := by
  refine Z.d_fewest.cal sc_fewest (fun vs H Q E h => ?_) (fun f cdv A outer s H vs Q E hr h => ?_)
  · obtain ⟨n, b, rfl, _⟩ := h
    rfl
  · obtain ⟨n, b, rfl, g, hn, q⟩ := h
    have hb := g.two
    refine ⟨_, (pss_cons (ps_set (i := 2) sc_fewest.nd rfl (Or.inl rfl) (pe_c (ok_mirrored_to Z) hr (by decide) (by rfl) (pa_cons (pv 0) (pa_cons (pv 1) pa_nil))))
      (pss_cons (ps_if (pt_cmpR op_eq (pv 0) pe_int (nomark _))
        (pss_one (ps_ret (pe_lst pa_nil)))
        pss_nil)
      (pss_cons (ps_set (i := 3) sc_fewest.nd rfl (Or.inl rfl) (pe_callTy (call_dictP rfl) (by rfl) Z.f_dict (by decide +kernel) (pa_cons (pe_lc (own := [("at", 6), ("part", 7)]) (g := gTup _ 2 (gCons (gName 6) (gCons (gName 7) gNil))) (tt := tYes) rfl sc_fewest.nd (pi_enum (by rfl) Z.f_enumerate (pa_cons (pv 2) pa_nil)) (blkOk_by (N := nm_fewest) (sc := defScope s_fewest) (by decide +kernel)) (fun _ _ _ _ _ => pg_tup rfl (pgs_cons (pg_name (i := 6) sc_fewest.nd rfl (Or.inl rfl)) (pgs_cons (pg_name (i := 7) sc_fewest.nd rfl (Or.inl rfl)) pgs_nil))) (fun _ _ _ _ _ => pts_nil) (fun _ _ _ _ _ => (pe_tup (pa_cons (pv 7) (pa_cons (pe_op op_add (pv 6) pe_int) pa_nil))))) pa_nil)))
      (pss_cons (ps_set (i := 4) sc_fewest.nd rfl (Or.inl rfl) pe_non)
      (pss_cons (ps_set (i := 5) sc_fewest.nd rfl (Or.inl rfl) pe_int)
      (pss_cons (ps_while PassesOwn.never (pt_cmpR op_isN (pv 4) pe_non (nomark _))
        (pss_cons (ps_aug (i := 5) sc_fewest.nd rfl (Or.inl rfl) pe_int iop_add)
        (pss_one (ps_set (i := 4) sc_fewest.nd rfl (Or.inl rfl) (pe_c (ok_greatest_by Z) hr (by decide) (by rfl) (pa_cons (pv 2) (pa_cons (pv 3) (pa_cons (pv 0) (pa_cons (pv 5) (pa_cons (pv 0) pa_nil))))))))))
      (pss_one (ps_ret (pv 4))))))))), ?_⟩
    refine q_asgL (el_call (ea_cons (ev_var rfl) (ea_cons (ev_var rfl) ea_nil)) (sl_mirTo g (by omega))) fun a H1 ha e1 h1 => ?_
    refine q_when (b := decide (n = 0)) (et_test (ev_eqN (ev_var rfl) (ev_cN 0))) (fun hc H2 e2 => ?_) fun hc H2 e2 => ?_
    · have z : fwv b n = [] := if_pos (of_decide_eq_true hc)
      rw [z] at q
      exact s_retL (xs := nats []) (el_lst ea_nil (Nat.zero_le _)) fun p H3 hp e3 h3 => q p H3 (fresh_back (e1.trans e2) hp) ((e1.trans e2).trans e3) h3
    · have hc := of_decide_eq_false hc
      have hfw : fwv b n = fwGo (prt b) (isPrt b n) (cnt b n) n n 1 := if_neg hc
      have ha2 := e2 _ _ h1
      refine ⟨.ref a, rfl, a, nats (rp b (cnt b n)), rfl, sq_of ha2, fun Dl hD => lc_it (walk_enum (xs := nats (rp b (cnt b n)))) (fun i H' => Ex H2 H' ∧ ∃ ts : List Addr, H' Dl = some (.lst (ts.map V.ref)) ∧ ts.length = i ∧ ∀ (j : Nat) (t : Addr), ts[j]? = some t → t ≠ Dl ∧ H' t = some (.tup [nI (prt b j), nI (j + 1)])) ?_ ?_ ?_ ?_⟩
      · exact ⟨Ex.new hD, [], upd_same, rfl, fun j t h => by simp at h⟩
      · exact fun i H' _ ⟨e', _⟩ => sq_of (e' _ _ ha2)
      · rintro i x H' H3 hi ⟨e', ts, t1, t2, t3⟩ ⟨T, x0, y0, rfl, hT, rfl, hx0, hy0⟩
        cases hx0
        rw [List.length_map, rp_len] at hi
        replace hy0 : (nats (rp b (cnt b n)))[i]? = some y0 := hy0
        rw [nats_at (rp_get hi)] at hy0
        cases hy0
        refine ⟨T, [nI i, nI (prt b i)], rfl, st_of upd_same, rfl, nI i, [nI (prt b i)], rfl, nI (prt b i), [], rfl, rfl, rfl, ?_⟩
        have eT : Ex H' (upd H' T (.tup [nI i, nI (prt b i)])) := Ex.new hT
        refine goYes ?_
        refine goU (xs := [nI (prt b i), nI (i + 1)]) (eu_tup (ea_cons (ev_var rfl) (ea_cons (ev_addN (ev_var rfl) (ev_cN 1)) ea_nil)) (by show 2 ≤ 100000; decide)) fun t H5 ht e5 h5 => ?_
        have e6 := eT.trans e5
        have htD : t ≠ Dl := fun z => by
          rw [z] at ht
          rw [eT _ _ t1] at ht
          cases ht
        refine ⟨ts.map V.ref, e6 _ _ t1, sz_lt (by rw [List.length_map]; have := cnt_le hb n; omega), Ex.mut (e'.trans e6) hD, ts ++ [t], by rw [upd_same, List.map_append]; rfl, by rw [List.length_append, t2]; rfl, fun j t' hj => ?_⟩
        by_cases c : j < ts.length
        · rw [List.getElem?_append_left c] at hj
          obtain ⟨g1, g2⟩ := t3 j t' hj
          exact ⟨g1, by rw [upd_ne g1]; exact e6 _ _ g2⟩
        · have e : j = i := by
            have := (List.getElem?_eq_some_iff.mp hj).1
            rw [List.length_append, List.length_singleton] at this
            omega
          subst e
          rw [← t2] at hj
          have e1 : t = t' := by simpa using hj
          subst e1
          exact ⟨htD, by rw [upd_ne htD]; exact h5⟩
      · rintro H3 ⟨e3, ts, t1, t2, t3⟩
        rw [List.length_map, rp_len] at t2
        refine ⟨Dl, ts, kvTo b (cnt b n), rfl, sq_of t1, paired_of (by unfold kvTo; rw [List.length_map, List.length_range, t2]) fun i t kv h4 h5 => ?_, fun D hDn => ?_⟩
        · have hi := (List.getElem?_eq_some_iff.mp h4).1
          have z := (t3 i t h4).2
          unfold kvTo at h5
          rw [List.getElem?_map, List.getElem?_range (by omega)] at h5
          cases h5
          exact st_of z
        · have e03 := (e1.trans e2).trans e3
          have a3 := (Ex.new (o := .dK (mergeK [] (kvTo b (cnt b n)))) hDn) _ _ (e3 _ _ ha2)
          have hPl : Places (upd H3 D (.dK (mergeK [] (kvTo b (cnt b n))))) D b n := ⟨_, upd_same, fun x => kvTo_plc hb n x⟩
          refine q_asg (i := 4) (v := .non) ev_c fun H4 e4 => ?_
          refine q_asg (i := 5) (ev_cN 0) fun H5 e5 => ?_
          have e45 := e4.trans e5
          have e05 : Ex H H5 := (e03.trans (Ex.new hDn)).trans e45
          have a5 := e45 _ _ a3
          have hP5 := hPl.mono e45
          have c1 := cnt_one hb (n := n) (by omega)
          refine q_while (fun m σ' H' => (∃ k, m = n - k ∧ k < n ∧ σ' = [some (nI n), some (nI b), some (.ref a), some (.ref D), some .non, some (nI k), none, none] ∧ Ex H5 H' ∧ fwv b n = fwGo (prt b) (isPrt b n) (cnt b n) n (n - k) (k + 1)) ∨
              (m = 0 ∧ ∃ (l : List Nat) (k : Nat) (pl : Addr), σ' = [some (nI n), some (nI b), some (.ref a), some (.ref D), some (.ref pl), some (nI k), none, none] ∧ Ex H5 H' ∧ H' pl = some (.lst (nats l)) ∧ H pl = none ∧ fwv b n = l)) (n - 0)
            (.inl ⟨0, rfl, by omega, rfl, Ex.refl H5, hfw⟩) ?_
          rintro m σ' H' (⟨k, rfl, hk, rfl, e', hv⟩ | ⟨rfl, l, k, pl, rfl, e', h', hp, hv⟩)
          · refine ⟨decide (V.non = V.non), et_test (ev_op (ev_var rfl) ev_c rv_isN), fun _ H6 e6 => ⟨_, fun σ2 H2 h => h, ?_⟩, fun hz => by rw [decide_eq_true rfl] at hz; cases hz⟩
            refine q_augR (x := nI k) (y := .int 1) (z := nI (k + 1)) rfl ev_c (rv_val fun H7 _ Q q => ⟨_, _, rfl, rfl, q⟩) fun H7 e7 => ?_
            have e57 := (e'.trans e6).trans e7
            refine goCall (vs := [.ref a, .ref D, nI n, nI (k + 1), nI n]) (ea_cons (ev_var rfl) (ea_cons (ev_var rfl) (ea_cons (ev_var rfl) (ea_cons (ev_var rfl) (ea_cons (ev_var rfl) ea_nil))))) fun H8 e8 => ?_
            have e58 := e57.trans e8
            refine ⟨k, by omega, a, D, b, n, cnt b n, n, n, rfl, hb, Nat.le_refl _, by omega, by omega, sq_of (e58 _ _ a5), hP5.mono e58, ?_⟩
            obtain ⟨k', hk'⟩ : ∃ k', n - k = k' + 1 := ⟨n - k - 1, by omega⟩
            rw [hk'] at hv
            cases hg : gb (prt b) (isPrt b n) (k + 1) (cnt b n) n n with
            | none =>
              refine fun H9 e9 => ⟨n - (k + 1), by omega, .inl ⟨k + 1, rfl, ?_, rfl, e58.trans e9, ?_⟩⟩
              · apply Classical.byContradiction
                intro c
                have e : k + 1 = n := by omega
                rw [e, gb_ones (prt_zero hb) (fun i hi => prt_two hb hi) (by have z := isPrt_prt hb (N := n) (i := 0) (by omega); rw [prt_zero hb] at z; exact z) n (cnt b n) n (by omega) c1 (by omega)] at hg
                cases hg
              · rw [hv, fwGo_miss hg, show n - (k + 1) = k' by omega]
            | some y =>
              refine fun p9 H9 hp9 e9 h9 => ⟨0, by omega, .inr ⟨rfl, y, k + 1, p9, rfl, e58.trans e9, h9, fresh_back (e05.trans e58) hp9, ?_⟩⟩
              rw [hv, fwGo_hit hg]
          · refine ⟨decide (V.ref pl = V.non), et_test (ev_op (ev_var rfl) ev_c rv_isN), fun hz => ?_, fun _ H6 e6 => ?_⟩
            · rw [decide_eq_false (fun z => nomatch z)] at hz
              cases hz
            · refine s_ret (ev_var rfl) fun H7 e7 => ?_
              rw [hv] at q
              exact q pl H7 hp (((e05.trans e').trans e6).trans e7) ((e6.trans e7) _ _ h')
end
end Mir
namespace Mir
open PySem PySem.Spec PyProof.Rows L2 Evl
open C8 (Cal pe_c)
/-! ## ways counted -/
section
variable {σ : L2.St} {H : Hp}
theorem goA {ts : TA} {vs : List V} {Q : List V → Hp → Prop} (h : EvA ts σ H vs) (k : ∀ H2, Ex H H2 → Q vs H2) : ts σ H Q := h H (Ex.refl H) _ k
end
section
variable {P : Program} {w : World} {K : PySem.W.Frag} {mg : Str → Option Value} {base : Heap}
theorem ok_all_ways (Z : Txt K mg) : Cal P w K mg base 5 "all_ways" spAllWays [] := by
  refine Z.d_all_ways.cal sc_all_ways (fun vs H Q E h => ?_) (fun f cdv A outer s H vs Q E hr h => ?_)
  · obtain ⟨n, b, rfl, _⟩ := h
    rfl
  · obtain ⟨n, b, rfl, g, hn, q⟩ := h
    have hb := g.two
    refine ⟨_, (pss_cons (ps_set (i := 2) sc_all_ways.nd rfl (Or.inl rfl) (pe_c (ok_mirrored_to Z) hr (by decide) (by rfl) (pa_cons (pv 0) (pa_cons (pv 1) pa_nil))))
      (pss_cons (ps_set (i := 3) sc_all_ways.nd rfl (Or.inl rfl) (pe_op op_cat (pe_lst (pa_cons pe_int pa_nil)) (pe_op op_rep (pe_lst (pa_cons pe_int pa_nil)) (pv 0))))
      (pss_cons (ps_for PassesOwn.never rfl (pi_list (pv 2)) (pg_name (i := 4) sc_all_ways.nd rfl (Or.inl rfl))
        (pss_one (ps_for PassesOwn.never rfl (pi_range2 (by rfl) Z.f_range (pa_cons (pv 4) (pa_cons (pe_op op_add (pv 0) pe_int) pa_nil))) (pg_name (i := 5) sc_all_ways.nd rfl (Or.inl rfl))
          (pss_one (ps_augS (pv 3) (pv 5) pget_list (pe_ix ix_list (pv 3) (pe_op op_sub (pv 5) (pv 4)) (fun _ _ => rfl)) ip_add set_list)))))
      (pss_one (ps_ret (pe_ix ix_list (pv 3) (pv 0) (fun _ _ => rfl))))))), ?_⟩
    refine q_asgL (el_call (ea_cons (ev_var rfl) (ea_cons (ev_var rfl) ea_nil)) (sl_mirTo g (by omega))) fun a H1 ha e1 h1 => ?_
    refine q_asgL (el_catLL (xs := [nI 1]) (ys := List.replicate n (nI 0)) (el_lst (ea_cons (ev_cN 1) ea_nil) (by show 1 ≤ 100000; decide)) (fun H2 e2 => el_rep0 (fun {_} => ev_cN 0) (ev_var rfl) (by omega)) (by rw [List.length_replicate]; show 1 + n ≤ 100000; omega)) fun v H2 hv e2 h2 => ?_
    rw [row0] at h2
    have hv0 : H v = none := fresh_back e1 hv
    refine q_forLn (a := a) (xs := nats (rp b (cnt b n))) (ev_var rfl) (sq_of (e2 _ _ h1)) (fun i σ' H' => ∃ o4 o5, σ' = [some (nI n), some (nI b), some (.ref a), some (.ref v), o4, o5] ∧ Ex H1 H' ∧ H' v = some (.lst (rowV (Aw (prt b) i) n)))
      (fun H3 e3 => ⟨none, none, rfl, e2.trans e3, by rw [e3 _ _ h2]; rfl⟩) (fun i σ' H' _ ⟨_, _, _, e', _⟩ => sq_of (e' _ _ h1)) ?_ ?_
    · rintro i x σ' H' hx ⟨o4, o5, rfl, e', h'⟩
      have hi : i < cnt b n := by
        have := (List.getElem?_eq_some_iff.mp hx).1
        rw [List.length_map, rp_len] at this
        exact this
      rw [nats_at (rp_get hi)] at hx
      cases hx
      have p1 := prt_pos hb i
      have p2 := prt_top hb hi
      refine s_forR2 (lo := (prt b i : Int)) (n := ((n + 1 : Nat) : Int)) (ea_cons (x := nI (prt b i)) (ev_var rfl) (ea_cons (ev_addN (ev_var rfl) (ev_cN 1)) ea_nil)) ⟨by omega, by omega, by omega, by omega⟩
        (fun j σ' H' => ∃ o5, σ' = [some (nI n), some (nI b), some (.ref a), some (.ref v), some (nI (prt b i)), o5] ∧ Ex H1 H' ∧ H' v = some (.lst (rowV (fun l => if l < prt b i + j then Aw (prt b) (i + 1) l else Aw (prt b) i l) n)))
        (fun H3 e3 => ⟨o5, rfl, e'.trans e3, by
          rw [e3 _ _ h', rowV_congr (g := fun l => if l < prt b i + 0 then Aw (prt b) (i + 1) l else Aw (prt b) i l) fun l _ => ?_]
          by_cases c : l < prt b i + 0
          · rw [if_pos c]
            exact (nrow_lo (by omega)).symm
          · rw [if_neg c]⟩) ?_ ?_
      · rintro j σ' H3 hj ⟨o5, rfl, e3, h3⟩
        have hj' : prt b i + j ≤ n := by omega
        refine s_augS (p := v) (j := prt b i + j) (u := Aw (prt b) i (prt b i + j)) (v := Aw (prt b) (i + 1) j) (ev_var rfl) (ev_is (ev_var rfl) (congrArg V.int (by omega))) h3 (by rw [rowV_get hj', if_neg (by omega)])
          (ev_op (ev_var rfl) (ev_is (w := nI j) (ev_op (ev_var rfl) (ev_var rfl) rv_I0) (congrArg V.int (by omega))) (rv_ixL (sq_of h3) (atI_nat (by rw [rowV_get (by omega), if_pos (by omega)])))) fun H4 e4 => ⟨_, rfl, Ex.mut (e3.trans e4) hv, ?_⟩
        have hs : Aw (prt b) i (prt b i + j) + Aw (prt b) (i + 1) j = Aw (prt b) (i + 1) (prt b i + j) := by
          have z := nrow_hi (r := Aw (prt b) i) p1 (show prt b i ≤ prt b i + j by omega)
          rw [show prt b i + j - prt b i = j by omega] at z
          exact z.symm
        rw [hs, upd_same, rowV_set hj']
        rfl
      · rintro σ' H3 ⟨o5, rfl, e3, h3⟩
        refine ⟨_, _, rfl, e3, ?_⟩
        rw [h3, rowV_congr (g := Aw (prt b) (i + 1)) fun l hl => ?_]
        rw [if_pos (by omega)]
    · rintro σ' H' ⟨o4, o5, rfl, e', h'⟩
      rw [List.length_map, rp_len] at h'
      exact s_ret (ev_op (ev_var rfl) (ev_var rfl) (rv_ixL (sq_of h') (atI_nat (rowV_get (Nat.le_refl n))))) fun H2 e2 => q H2 ((e1.trans e').trans e2)
theorem ok_counts_by (Z : Txt K mg) : Cal P w K mg base 1 "counts_by" (spCounts K) [] := by
  refine Z.d_counts_by.cal sc_counts_by (fun vs H Q E h => ?_) (fun f cdv A outer s H vs Q E hr h => ?_)
  · obtain ⟨a, b, r, n, m, rfl, _⟩ := h
    rfl
  · obtain ⟨a, b, r, n, m, rfl, hb, hr', hn, hm, hs, q⟩ := h
    have hcn := cnt_le hb n
    refine ⟨_, (pss_cons (ps_set (i := 3) sc_counts_by.nd rfl (Or.inl rfl) (pe_lst (pa_cons (pe_op op_cat (pe_lst (pa_cons (pe_op op_cat (pe_lst (pa_cons pe_int pa_nil)) (pe_op op_rep (pe_lst (pa_cons pe_int pa_nil)) (pv 1))) pa_nil)) (pe_lc (own := [("count", 6)]) (g := gName 6) (tt := tYes) rfl sc_counts_by.nd (pi_range1 (by rfl) Z.f_range (pa_cons (pv 2) pa_nil)) (blkOk_by (N := nm_counts_by) (sc := defScope s_counts_by) (by decide +kernel)) (fun _ _ _ _ _ => pg_name (i := 6) sc_counts_by.nd rfl (Or.inl rfl)) (fun _ _ _ _ _ => pts_nil) (fun _ _ _ _ _ => (pe_op op_rep (pe_lst (pa_cons pe_int pa_nil)) (pe_op op_add (pv 1) pe_int))))) pa_nil)))
      (pss_cons (ps_for PassesOwn.never rfl (pi_list (pv 0)) (pg_name (i := 4) sc_counts_by.nd rfl (Or.inl rfl))
        (pss_cons (ps_setLc (i := 5) (own := [("row", 8)]) (g := gName 8) (tt := tYes) rfl sc_counts_by.nd rfl rfl (by rfl) (pi_list (pe_ix ix_list (pv 3) (pe_un un_neg pe_int) (fun _ _ => rfl))) (blkOk_by (N := nm_counts_by) (sc := defScope s_counts_by) (by decide +kernel)) (fun _ _ _ _ _ => pg_name (i := 8) sc_counts_by.nd rfl (Or.inl rfl)) (fun _ _ _ _ _ => pts_nil) (fun _ _ _ _ _ => (pe_callTy (T := "list") (r := rListS K) call_list_of (by rfl) Z.f_list (by decide +kernel) (pa_cons (pv 8) pa_nil))))
        (pss_cons (ps_for PassesOwn.never rfl (pi_range2 (by rfl) Z.f_range (pa_cons pe_int (pa_cons (pe_op op_add (pv 2) pe_int) pa_nil))) (pg_name (i := 6) sc_counts_by.nd rfl (Or.inl rfl))
          (pss_one (ps_for PassesOwn.never rfl (pi_range2 (by rfl) Z.f_range (pa_cons (pv 4) (pa_cons (pe_op op_add (pv 1) pe_int) pa_nil))) (pg_name (i := 7) sc_counts_by.nd rfl (Or.inl rfl))
            (pss_one (ps_augS (pe_ix ix_list (pv 5) (pv 6) (fun _ _ => rfl)) (pv 7) pget_list (pe_ix ix_list (pe_ix ix_list (pv 5) (pe_op op_sub (pv 6) pe_int) (fun _ _ => rfl)) (pe_op op_sub (pv 7) (pv 4)) (fun _ _ => rfl)) ip_add set_list)))))
        (pss_one (ps_expr (pe_bm PySem.F.plainAttrs_list PySem.F.slot_list_append PySem.F.type_list_append mt_append (pv 3) (pa_cons (pv 5) pa_nil)))))))
      (pss_one (ps_ret (pv 3))))), ?_⟩
    -- the first table
    show tOp rCat (tLst (tCons (tC (.int 1)) tNil)) (tOp rRep (tLst (tCons (tC (.int 0)) tNil)) (tVar 1)) _ _ _
    refine goL (xs := rowV (fun l => if l = 0 then 1 else 0) n) (EvL.is (el_catLL (xs := [nI 1]) (ys := List.replicate n (nI 0)) (el_lst (ea_cons (ev_cN 1) ea_nil) (by show 1 ≤ 100000; decide)) (fun H2 e2 => el_rep0 (fun {_} => ev_cN 0) (ev_var rfl) (by omega)) (by rw [List.length_replicate]; show 1 + n ≤ 100000; omega)) (row0 n)) fun r0 H1 hr0 e1 h1 => ?_
    refine ⟨sz_of (by show 1 ≤ 100000; decide), fun l0 hl0 => ?_⟩
    have e1' := e1.trans (Ex.new (o := .lst [.ref r0]) hl0)
    have hl0' : upd H1 l0 (.lst [.ref r0]) l0 = some (.lst [.ref r0]) := upd_same
    have h1' := (Ex.new (o := .lst [.ref r0]) hl0) _ _ h1
    generalize upd H1 l0 (.lst [.ref r0]) = H2 at e1' hl0' h1'
    refine ⟨nI m, rfl, (m : Int), rfl, by omega, by omega, fun Dl hD => lc_range (lo := 0) (n := m) (fun i H' => Ex H2 H' ∧ ∃ rs : List Addr, H' Dl = some (.lst (rs.map V.ref)) ∧ rs.length = i ∧ ∀ x ∈ rs, x ≠ Dl ∧ H' x = some (.lst (rowV (fun _ => 0) n))) ?_ ?_ ?_⟩
    · exact ⟨Ex.new hD, [], upd_same, rfl, fun x hx => by cases hx⟩
    · rintro i H' hi ⟨e', rs, g1, g2, g3⟩
      refine ⟨rfl, goYes ?_⟩
      refine goL (EvL.is (el_rep0 (k := n + 1) (fun {_} => ev_cN 0) (ev_addN (ev_var rfl) (ev_cN 1)) (by omega)) (rowZ n)) fun t H3 ht e3 h3 => ?_
      have htD : t ≠ Dl := fun z => by
        rw [z, g1] at ht
        cases ht
      refine ⟨rs.map V.ref, e3 _ _ g1, sz_lt (by rw [List.length_map]; omega), Ex.mut (e'.trans e3) hD, rs ++ [t], by rw [upd_same, List.map_append]; rfl, by rw [List.length_append, g2]; rfl, fun x hx => ?_⟩
      rcases List.mem_append.mp hx with hx | hx
      · obtain ⟨k1, k2⟩ := g3 x hx
        exact ⟨k1, by rw [upd_ne k1]; exact e3 _ _ k2⟩
      · rw [List.mem_singleton.mp hx]
        exact ⟨htD, by rw [upd_ne htD]; exact h3⟩
    · rintro H3 ⟨e3, rs, g1, g2, g3⟩
      refine ⟨l0, Dl, [.ref r0], rs.map V.ref, rfl, rfl, e3 _ _ hl0', g1, sz_of (by rw [List.length_map]; show 1 + _ ≤ 100000; omega), fun R0 hR0 => ?_⟩
      have e4 := Ex.new (o := .lst ([V.ref r0] ++ rs.map V.ref)) hR0
      refine ⟨sz_of (by show 1 ≤ 100000; decide), fun F hF => ?_⟩
      have e5 := Ex.new (o := .lst [V.ref R0]) hF
      have eF := (e1'.trans e3).trans e4
      have hF0 : H F = none := fresh_back eF hF
      have cube0 : Cube (upd (upd H3 R0 (.lst ([V.ref r0] ++ rs.map V.ref))) F (.lst [V.ref R0])) F (prt b) 0 n m := by
        refine ⟨[R0], upd_same, rfl, fun i R hi => ?_⟩
        cases i with
        | succ i => cases hi
        | zero =>
          cases hi
          have nR : R0 ≠ F := fun z => by rw [← z, upd_same] at hF; cases hF
          refine ⟨nR, r0 :: rs, by rw [upd_ne nR, upd_same]; rfl, by rw [List.length_cons, g2], fun c x hc => ?_⟩
          cases c with
          | zero =>
            cases hc
            have z := e4 _ _ (e3 _ _ h1')
            refine ⟨ne_of_none z hF, ?_⟩
            rw [e5 _ _ z, rowV_congr fun l _ => ?_]
            exact (Cw_none (prt b) 0 l).symm
          | succ c =>
            have hx : x ∈ rs := List.mem_of_getElem? hc
            have z := e4 _ _ (g3 x hx).2
            refine ⟨ne_of_none z hF, ?_⟩
            rw [e5 _ _ z, rowV_congr fun l _ => ?_]
            exact (Cw_zero (prt b) c l).symm
      have e05 := eF.trans e5
      generalize upd (upd H3 R0 (.lst ([V.ref r0] ++ rs.map V.ref))) F (.lst [V.ref R0]) = H5 at cube0 e05 e5
      -- part by part
      refine q_forLn (j := 4) (a := a) (xs := nats (rp b r)) (σ := [some (.ref a), some (nI n), some (nI m), some (.ref F), none, none, none, none, none]) (ev_var (i := 0) rfl) (ex_l e05 hs) (fun i σ' H' => ∃ o4 o5 o6 o7 o8, σ' = [some (.ref a), some (nI n), some (nI m), some (.ref F), o4, o5, o6, o7, o8] ∧ Ex H H' ∧ Cube H' F (prt b) i n m)
        (fun H6 e6 => ⟨none, none, none, none, none, rfl, e05.trans e6, cube0.mono e6⟩) (fun i σ' H' _ ⟨_, _, _, _, _, _, e', _⟩ => ex_l e' hs) ?_ ?_
      · rintro i x σ' H' hx ⟨o4, o5, o6, o7, o8, rfl, e', Rs, c1, c2, c3⟩
        have hi : i < r := by
          have := (List.getElem?_eq_some_iff.mp hx).1
          rw [List.length_map, rp_len] at this
          exact this
        rw [nats_at (rp_get hi)] at hx
        cases hx
        obtain ⟨Rl, hRl⟩ : ∃ R, Rs[i]? = some R := ⟨Rs[i]'(by omega), List.getElem?_eq_getElem (by omega)⟩
        obtain ⟨nRl, os, d1, d2, d3⟩ := c3 i Rl hRl
        show tOp _ (tVar 3) (tUn _ (tC (.int 1))) _ _ _
        refine goV (x := V.ref Rl) (ev_op (ev_var rfl) (ev_un (ev_c (v := .int 1)) ru_neg) (rv_ixL (i := -1) (sq_of c1) (atI_end (k := i) (by rw [List.length_map, c2]) (by rw [List.getElem?_map, hRl]; rfl)))) fun H2 e2 => ?_
        refine ⟨Rl, rfl, ⟨os.map V.ref, sq_of (e2 _ _ d1)⟩, fun Dl hD => lc_list (xs := os.map V.ref) (fun j H3 => Ex H2 H3 ∧ ∃ ns : List Addr, H3 Dl = some (.lst (ns.map V.ref)) ∧ ns.length = j ∧ ns.Nodup ∧ (∀ y ∈ ns, H2 y = none ∧ y ≠ Dl) ∧ ∀ (c : Nat) (y : Addr), ns[c]? = some y → H3 y = some (.lst (rowV (Cw (prt b) i c) n))) ?_ ?_ ?_ ?_⟩
        · exact ⟨Ex.new hD, [], upd_same, rfl, List.Pairwise.nil, fun y hy => absurd hy List.not_mem_nil, fun c y h => (show False from nomatch h).elim⟩
        · exact fun j H3 _ ⟨e3, _⟩ => sq_of (e3 _ _ (e2 _ _ d1))
        · rintro j x H3 hx ⟨e3, ns, g1, g2, g3, g4, g5⟩
          have hj : j < os.length := by
            have := (List.getElem?_eq_some_iff.mp hx).1
            rw [List.length_map] at this
            exact this
          obtain ⟨y0, hy0⟩ : ∃ y, os[j]? = some y := ⟨os[j], List.getElem?_eq_getElem hj⟩
          rw [List.getElem?_map, hy0] at hx
          cases hx
          refine ⟨rfl, goYes ?_⟩
          refine goL (el_list (ev_var rfl) (sq_of (e3 _ _ (e2 _ _ (d3 j y0 hy0).2)))) fun t H4 ht e4 h4 => ?_
          have htD : t ≠ Dl := fun z => by
            rw [z, g1] at ht
            cases ht
          have htn : t ∉ ns := fun z => by
            obtain ⟨c, hc⟩ := List.mem_iff_getElem?.mp z
            rw [g5 c t hc] at ht
            cases ht
          refine ⟨ns.map V.ref, e4 _ _ g1, sz_lt (by rw [List.length_map]; omega), Ex.mut (e3.trans e4) hD, ns ++ [t], by rw [upd_same, List.map_append]; rfl, by rw [List.length_append, g2]; rfl, ?_, fun y hy => ?_, fun c y hc => ?_⟩
          · exact List.nodup_append.mpr ⟨g3, List.pairwise_singleton _ _, fun y hy z hz e => htn (by rw [List.mem_singleton.mp hz] at e; rw [← e]; exact hy)⟩
          · rcases List.mem_append.mp hy with hy | hy
            · exact g4 y hy
            · rw [List.mem_singleton.mp hy]
              exact ⟨fresh_back e3 ht, htD⟩
          · by_cases q1 : c < ns.length
            · rw [List.getElem?_append_left q1] at hc
              rw [upd_ne (g4 y (List.mem_of_getElem? hc)).2]
              exact e4 _ _ (g5 c y hc)
            · have e : c = j := by
                have := (List.getElem?_eq_some_iff.mp hc).1
                rw [List.length_append, List.length_singleton] at this
                omega
              subst e
              rw [← g2] at hc
              have e1 : t = y := by simpa using hc
              subst e1
              rw [upd_ne htD]
              exact h4
        · rintro H3 ⟨e3, ns, g1, g2, g3, g4, g5⟩
          rw [List.length_map, d2] at g2
          have nD : Dl ∉ ns := fun z => (g4 Dl z).2 rfl
          have p1 := prt_pos hb i
          have hF2 := e2 _ _ c1
          refine q_forR2 (j := 6) (lo := 1) (n := ((m + 1 : Nat) : Int)) (σ := [some (.ref a), some (nI n), some (nI m), some (.ref F), some (nI (prt b i)), some (.ref Dl), o6, o7, o8]) (ea_cons ev_c (ea_cons (ev_addN (a := m) (ev_var (i := 2) rfl) (ev_cN 1)) ea_nil)) ⟨by omega, by omega, by omega, by omega⟩
            (fun k σ' H4 => ∃ o6 o7, σ' = [some (.ref a), some (nI n), some (nI m), some (.ref F), some (nI (prt b i)), some (.ref Dl), o6, o7, o8] ∧ Ex H2 H4 ∧ RowsAt H4 Dl ns (fun c => if c ≤ k then Cw (prt b) (i + 1) c else Cw (prt b) i c) n)
            (fun H4 e4 => ⟨o6, o7, rfl, e3.trans e4, ((show RowsAt H3 Dl ns (Cw (prt b) i) n from ⟨g1, g5⟩).mono e4).congr fun c l _ _ => ?_⟩) ?_ ?_
          · by_cases q0 : c ≤ 0
            · rw [if_pos q0, show c = 0 by omega]
              exact (Cw_none _ _ _).trans (Cw_none _ _ _).symm
            · rw [if_neg q0]
          · rintro k σ' H4 hk ⟨o6, o7, rfl, e4, hrows⟩
            obtain ⟨y, hy⟩ : ∃ y, ns[k + 1]? = some y := ⟨ns[k + 1]'(by omega), List.getElem?_eq_getElem (by omega)⟩
            obtain ⟨z, hz⟩ : ∃ z, ns[k]? = some z := ⟨ns[k]'(by omega), List.getElem?_eq_getElem (by omega)⟩
            have hpn : prt b i ≤ n := prt_top hb (by omega)
            · refine s_forR2 (j := 7) (lo := (prt b i : Int)) (n := ((n + 1 : Nat) : Int)) (ea_cons (x := nI (prt b i)) (ev_var rfl) (ea_cons (ev_addN (ev_var rfl) (ev_cN 1)) ea_nil)) ⟨by omega, by omega, by omega, by omega⟩
                (fun j σ' H5 => ∃ o7, σ' = [some (.ref a), some (nI n), some (nI m), some (.ref F), some (nI (prt b i)), some (.ref Dl), some (.int (1 + (k : Int))), o7, o8] ∧ Ex H2 H5 ∧ RowsAt H5 Dl ns (fun c => if c = k + 1 then (fun l => if l < prt b i + j then Cw (prt b) (i + 1) (k + 1) l else Cw (prt b) i (k + 1) l) else if c ≤ k then Cw (prt b) (i + 1) c else Cw (prt b) i c) n)
                (fun H5 e5 => ⟨o7, rfl, e4.trans e5, (hrows.mono e5).congr fun c l _ _ => ?_⟩) ?_ ?_
              · by_cases q0 : c = k + 1
                · rw [if_neg (by omega), if_pos q0, q0]
                  by_cases q1 : l < prt b i + 0
                  · rw [if_pos q1, Cw_succ, if_neg (by omega)]
                    rfl
                  · rw [if_neg q1]
                · rw [if_neg q0]
              · rintro j σ' H5 hj ⟨o7, rfl, e5, hr5⟩
                have hj' : prt b i + j ≤ n := by omega
                have hrow := hr5.2 (k + 1) y hy
                dsimp only at hrow
                rw [if_pos rfl] at hrow
                have hrow2 := hr5.2 k z hz
                dsimp only at hrow2
                rw [if_neg (by omega), if_pos (Nat.le_refl k)] at hrow2
                refine s_augS (p := y) (j := prt b i + j) (u := Cw (prt b) i (k + 1) (prt b i + j)) (v := Cw (prt b) (i + 1) k j) (ev_op (ev_var rfl) (ev_is (w := nI (k + 1)) (ev_var rfl) (congrArg V.int (by omega))) (rv_ixL (sq_of hr5.1) (atI_nat (v := V.ref y) (by rw [List.getElem?_map, hy]; rfl)))) (ev_is (ev_var rfl) (congrArg V.int (by omega))) hrow (by rw [rowV_get hj', if_neg (by omega)])
                  (ev_op (ev_op (ev_var rfl) (ev_is (w := nI k) (ev_op (ev_var rfl) ev_c rv_I0) (congrArg V.int (by omega))) (rv_ixL (sq_of hr5.1) (atI_nat (v := V.ref z) (by rw [List.getElem?_map, hz]; rfl)))) (ev_is (w := nI j) (ev_op (ev_var rfl) (ev_var rfl) rv_I0) (congrArg V.int (by omega))) (rv_ixL (sq_of hrow2) (atI_nat (rowV_get (by omega))))) fun H6 e6 => ⟨_, rfl, Ex.mut (e5.trans e6) (g4 y (List.mem_of_getElem? hy)).1, ?_⟩
                have hsum : Cw (prt b) i (k + 1) (prt b i + j) + Cw (prt b) (i + 1) k j = Cw (prt b) (i + 1) (k + 1) (prt b i + j) := by
                  rw [Cw_succ, if_pos (by omega), show prt b i + j - prt b i = j by omega]
                rw [hsum, rowV_set hj']
                refine ((hr5.mono e6).put g3 nD hy).congr fun c l _ _ => ?_
                by_cases q0 : c = k + 1
                · rw [if_pos q0, if_pos q0]
                  rfl
                · rw [if_neg q0, if_neg q0, if_neg q0]
              · rintro σ' H5 ⟨o7, rfl, e5, hr5⟩
                refine ⟨_, _, rfl, e5, hr5.congr fun c l _ hl => ?_⟩
                by_cases q0 : c = k + 1
                · rw [if_pos q0, if_pos (by omega), q0, if_pos (by omega)]
                · rw [if_neg q0]
                  by_cases q1 : c ≤ k
                  · rw [if_pos q1, if_pos (by omega)]
                  · rw [if_neg q1, if_neg (by omega)]
          · rintro σ' H4 ⟨o6, o7, rfl, e4, hrows⟩
            have et : (((m + 1 : Nat) : Int) - 1).toNat = m := by omega
            rw [et] at hrows
            refine s_app (l := F) (xs := Rs.map V.ref) (v := V.ref Dl) (e4 _ _ hF2) (ev_var rfl) (ev_var rfl) (by rw [List.length_map]; omega) fun H5 e5 => ⟨_, _, _, _, _, rfl, Ex.mut (((e'.trans e2).trans e4).trans e5) hF0, Cube.snoc c2 (fun j R hj => (c3 j R hj).mono ((e2.trans e4).trans e5)) ⟨?_, ns, (hrows.mono e5).1, g2, fun c y hc => ⟨?_, ?_⟩⟩⟩
            · exact fun z => by rw [z, hF2] at hD; cases hD
            · exact fun z => by rw [z] at hc; rw [(g4 F (List.mem_of_getElem? hc)).1] at hF2; cases hF2
            · rw [(hrows.mono e5).2 c y hc]
              dsimp only
              rw [if_pos (by have := (List.getElem?_eq_some_iff.mp hc).1; omega)]
      · rintro σ' H' ⟨o4, o5, o6, o7, o8, rfl, e', hC⟩
        rw [List.length_map, rp_len] at hC
        exact s_ret (ev_var rfl) fun H6 e6 => q F H6 hF0 (e'.trans e6) (hC.mono e6)
theorem ok_many_ways (Z : Txt K mg) : Cal P w K mg base 5 "many_ways" spManyWays [] := by
  refine Z.d_many_ways.cal sc_many_ways (fun vs H Q E h => ?_) (fun f cdv A outer s H vs Q E hr h => ?_)
  · obtain ⟨n, b, m, rfl, _⟩ := h
    rfl
  · obtain ⟨n, b, m, rfl, g, hn, hm, q⟩ := h
    have hb := g.two
    have hc := cnt_le hb n
    refine ⟨_, (pss_one (ps_ret (pe_ix ix_list (pe_ix ix_list (pe_ix ix_list (pe_c (ok_counts_by Z) hr (by decide) (by rfl) (pa_cons (pe_c (ok_mirrored_to Z) hr (by decide) (by rfl) (pa_cons (pv 0) (pa_cons (pv 1) pa_nil))) (pa_cons (pv 0) (pa_cons (pv 2) pa_nil)))) (pe_un un_neg pe_int) (fun _ _ => rfl)) (pv 2) (fun _ _ => rfl)) (pv 0) (fun _ _ => rfl)))), ?_⟩
    show tCall spMirTo [] C8.E0 (tCons (tVar 0) (tCons (tVar 1) tNil)) [some (nI n), some (nI b), some (nI m)] H _
    refine goL (el_call (ea_cons (ev_var rfl) (ea_cons (ev_var rfl) ea_nil)) (sl_mirTo g (by omega))) fun a H1 ha e1 h1 => ?_
    refine goA (vs := [nI n, nI m]) (ea_cons (ev_var rfl) (ea_cons (ev_var rfl) ea_nil)) fun H2 e2 => ?_
    refine ⟨a, b, cnt b n, n, m, rfl, hb, Nat.le_refl _, hn, hm, sq_of (e2 _ _ h1), fun F H3 hF e3 hC => ?_⟩
    exact (ev_cubeEnd (K := K) (ta := fun _ H Q => Q (.ref F) H) (tb := tUn (rU fun i => .int (-i)) (tC (.int 1))) (tc := tVar 2) (td := tVar 0) (σ := [some (nI n), some (nI b), some (nI m)]) (fun H4 e4 Q q => q H4 (Ex.refl H4)) (ev_un (ev_c (v := .int 1)) ru_neg) (ev_var rfl) (ev_var rfl) hC (Nat.le_refl m) (Nat.le_refl n)) H3 (Ex.refl H3) _ fun H4 e4 => q H4 (((e1.trans e2).trans e3).trans e4)
end
end Mir
namespace Mir
open PySem PySem.Spec PyProof.Rows L2 Evl
open C8 (Cal pe_c)
/-! ## the way at a place -/
def wayV (b n m d : Nat) : List Nat := (wa (prt b) m (cnt b n) n d).map (prt b)
def spWayAt : Sp := fun vs H Q _ => ∃ n b m d : Nat, vs = [nI n, nI b, nI m, nI d] ∧ Good n b ∧ n ≤ 1000 ∧ m ≤ 1000 ∧ d < Cw (prt b) (cnt b n) m n ∧ RetL (nats (wayV b n m d)) H Q
theorem sl_wayAt {n b m d : Nat} {H : Hp} (g : Good n b) (h : n ≤ 1000) (h2 : m ≤ 1000) (hd : d < Cw (prt b) (cnt b n) m n) : SpL spWayAt [nI n, nI b, nI m, nI d] H (nats (wayV b n m d)) := fun _ _ _ q _ => ⟨n, b, m, d, rfl, g, h, h2, hd, q⟩
section
variable {σ : L2.St} {H : Hp} {D : Ends} {tu tz : TS}
theorem s_break (h : D.bk σ H) : tBreak D σ H := h
theorem s_forR3 {ta : TA} {j : Nat} {lo hi c : Int} {n : Nat} (h : EvA ta σ H [.int lo, .int hi, .int c]) (hr : RgC lo hi c n) (Pv : Nat → L2.St → Hp → Prop) (h0 : ∀ H1, Ex H H1 → Pv 0 σ H1)
    (hs : ∀ (i : Nat) σ' H', i < n → Pv i σ' H' → tu { D with nx := Pv (i + 1), ct := Pv (i + 1), bk := D.nx } (σ'.set j (some (.int (lo + (i : Nat) * c)))) H') (hd : ∀ σ' H', Pv n σ' H' → D.nx σ' H') : tFor (iRng3 ta) (gName j) tu D σ H :=
  h H (Ex.refl H) _ fun H1 e => ⟨lo, hi, c, n, rfl, hr, for_it walk_rangeC Pv (h0 H1 e) (fun _ _ _ _ _ => trivial) (fun i x σ' H' H'' hi p q => by
    obtain ⟨e1, e2⟩ := q
    subst e1 e2
    exact hs i σ' _ hi p) hd⟩
theorem q_forR3 {ta : TA} {j : Nat} {lo hi c : Int} {n : Nat} (h : EvA ta σ H [.int lo, .int hi, .int c]) (hr : RgC lo hi c n) (Pv : Nat → L2.St → Hp → Prop) (h0 : ∀ H1, Ex H H1 → Pv 0 σ H1)
    (hs : ∀ (i : Nat) σ' H', i < n → Pv i σ' H' → tu { D with nx := Pv (i + 1), ct := Pv (i + 1), bk := tz D } (σ'.set j (some (.int (lo + (i : Nat) * c)))) H') (hd : ∀ σ' H', Pv n σ' H' → tz D σ' H') : tSeq (tFor (iRng3 ta) (gName j) tu) tz D σ H :=
  s_forR3 (D := { D with nx := tz D }) h hr Pv h0 hs hd
end
section
variable {P : Program} {w : World} {K : PySem.W.Frag} {mg : Str → Option Value} {base : Heap}
theorem ok_way_at (Z : Txt K mg) : Cal P w K mg base 5 "way_at" spWayAt [] := by
  refine Z.d_way_at.cal sc_way_at (fun vs H Q E h => ?_) (fun f cdv A outer s H vs Q E hr h => ?_)
  · obtain ⟨n, b, m, d, rfl, _⟩ := h
    rfl
  · obtain ⟨n, b, m, d, rfl, g, hn, hm, hd, q⟩ := h
    have hb := g.two
    have hcn := cnt_le hb n
    refine ⟨_, (pss_cons (ps_set (i := 4) sc_way_at.nd rfl (Or.inl rfl) (pe_c (ok_mirrored_to Z) hr (by decide) (by rfl) (pa_cons (pv 0) (pa_cons (pv 1) pa_nil))))
      (pss_cons (ps_set (i := 5) sc_way_at.nd rfl (Or.inl rfl) (pe_c (ok_counts_by Z) hr (by decide) (by rfl) (pa_cons (pv 4) (pa_cons (pv 0) (pa_cons (pv 2) pa_nil)))))
      (pss_cons (ps_if (PW.pt (pw_or (pt_not (pt_val (pe_callB call_isi (by rfl) Z.f_isinstance (by decide +kernel) (pa_cons (pv 3) (pa_cons (pe_bltn (v := .ty "int") (by rfl) Z.f_int (by decide +kernel) rfl) pa_nil))))) (pw_or (pt_val (pe_callB call_isi (by rfl) Z.f_isinstance (by decide +kernel) (pa_cons (pv 3) (pa_cons (pe_bltn (v := .ty "bool") (by rfl) Z.f_bool (by decide +kernel) rfl) pa_nil)))) (pw_or1 (pt_not (pt_chain op_le op_lt pe_int (pv 3) (pe_ix ix_list (pe_ix ix_list (pe_ix ix_list (pv 5) (pe_un un_neg pe_int) (fun _ _ => rfl)) (pv 2) (fun _ _ => rfl)) (pv 0) (fun _ _ => rfl))))))))
        (pss_one ps_never)
        pss_nil)
      (pss_cons (ps_set (i := 6) sc_way_at.nd rfl (Or.inl rfl) (pe_lst pa_nil))
      (pss_cons (ps_set (i := 7) sc_way_at.nd rfl (Or.inl rfl) (pv 0))
      (pss_cons (ps_set (i := 8) sc_way_at.nd rfl (Or.inl rfl) (pv 3))
      (pss_cons (ps_set (i := 9) sc_way_at.nd rfl (Or.inl rfl) (pe_callB call_len_seq (by rfl) Z.f_len PySem.boot_len (pa_cons (pv 4) pa_nil)))
      (pss_cons (ps_for PassesOwn.never rfl (pi_range3 (by rfl) Z.f_range (pa_cons (pe_op op_sub (pv 2) pe_int) (pa_cons (pe_un un_neg pe_int) (pa_cons (pe_un un_neg pe_int) pa_nil)))) (pg_name (i := 10) sc_way_at.nd rfl (Or.inl rfl))
        (pss_cons (ps_while PassesOwn.never (pt_val pe_bl)
          (pss_cons (ps_set (i := 11) sc_way_at.nd rfl (Or.inl rfl) (pe_ix ix_list (pv 4) (pe_op op_sub (pv 9) pe_int) (fun _ _ => rfl)))
          (pss_cons (ps_set (i := 12) sc_way_at.nd rfl (Or.inl rfl) pe_int)
          (pss_cons (ps_if (pt_cmpR op_le (pv 11) (pv 7) (nomark _))
            (pss_one (ps_set (i := 12) sc_way_at.nd rfl (Or.inl rfl) (pe_ix ix_list (pe_ix ix_list (pe_ix ix_list (pv 5) (pv 9) (fun _ _ => rfl)) (pv 10) (fun _ _ => rfl)) (pe_op op_sub (pv 7) (pv 11)) (fun _ _ => rfl))))
            pss_nil)
          (pss_cons (ps_if (pt_cmpR op_lt (pv 8) (pv 12) (nomark _))
            (pss_one ps_break)
            pss_nil)
          (pss_cons (ps_aug (i := 8) sc_way_at.nd rfl (Or.inl rfl) (pv 12) iop_sub)
          (pss_one (ps_aug (i := 9) sc_way_at.nd rfl (Or.inl rfl) pe_int iop_sub))))))))
        (pss_cons (ps_expr (pe_bm PySem.F.plainAttrs_list PySem.F.slot_list_append PySem.F.type_list_append mt_append (pv 6) (pa_cons (pv 11) pa_nil)))
        (pss_one (ps_aug (i := 7) sc_way_at.nd rfl (Or.inl rfl) (pv 11) iop_sub)))))
      (pss_one (ps_ret (pv 6))))))))))), ?_⟩
    refine q_asgL (el_call (ea_cons (ev_var rfl) (ea_cons (ev_var rfl) ea_nil)) (sl_mirTo g (by omega))) fun a H1 ha e1 h1 => ?_
    show tCall (spCounts K) [] C8.E0 (tCons (tVar 4) (tCons (tVar 0) (tCons (tVar 2) tNil))) _ _ _
    refine goCall (vs := [.ref a, nI n, nI m]) (ea_cons (ev_var rfl) (ea_cons (ev_var rfl) (ea_cons (ev_var rfl) ea_nil))) fun H2 e2 => ⟨a, b, cnt b n, n, m, rfl, hb, Nat.le_refl _, hn, hm, sq_of (e2 _ _ h1), fun F H3 hF e3 hC => ?_⟩
    have h3 := e3 _ _ (e2 _ _ h1)
    refine q_when (b := false) (et_is (et_or (et_not (et_B (ev_cb (ea_cons (ev_var rfl) (ea_cons ev_c ea_nil)) (rc_isi (b := true) (by decide +kernel))))) fun _ => et_or (et_B (ev_cb (ea_cons (ev_var rfl) (ea_cons ev_c ea_nil)) (rc_isi (b := false) (by decide +kernel)))) fun _ => et_not (et_B (ev_chain (ev_c) (ev_var rfl) (rv_I0) (fun _ => ev_cubeEnd (ev_var rfl) (ev_un (ev_c (v := .int 1)) ru_neg) (ev_var rfl) (ev_var rfl) hC (Nat.le_refl m) (Nat.le_refl n)) (fun _ => rv_I0)))) ?_) (fun h => nomatch h) fun _ H4 e4 => ?_
    · rw [decide_eq_true (show (0 : Int) ≤ (d : Int) by omega), decide_eq_true (show ((d : Nat) : Int) < ((Cw (prt b) (cnt b n) m n : Nat) : Int) by omega)]
      rfl
    · refine q_asgL (el_lst ea_nil (Nat.zero_le _)) fun W H5 hW e5 h5 => ?_
      have e35 := e4.trans e5
      have hW3 : H3 W = none := fresh_back e4 hW
      refine q_asg (ev_var rfl) fun H6 e6 => ?_
      refine q_asg (ev_var rfl) fun H7 e7 => ?_
      refine q_asg (v := nI (cnt b n)) (ev_int (ev_lenA (ev_var rfl) (sq_of ((e35.trans (e6.trans e7)) _ _ h3))) (by rw [List.length_map, rp_len])) fun H8 e8 => ?_
      have e38 := e35.trans ((e6.trans e7).trans e8)
      have hrg : RgC ((m : Int) - 1) (-1) (-1) m := by
        have z := RgC.neg (i := (m : Int) - 1) (j := -1) (by omega) (by omega) (by omega) (by omega)
        have e : ((m : Int) - 1 - (-1)).toNat = m := by omega
        rw [e] at z
        exact z
      refine q_forR3 (lo := (m : Int) - 1) (hi := -1) (c := -1) (n := m) (ea_cons (ev_op (ev_var rfl) ev_c rv_I0) (ea_cons (ev_un (ev_c (v := .int 1)) ru_neg) (ea_cons (ev_un (ev_c (v := .int 1)) ru_neg) ea_nil))) hrg (fun k σ' H' => ∃ (at' left before : Nat) (done : List Nat) (o10 o11 o12 : Option V), σ' = [some (nI n), some (nI b), some (nI m), some (nI d), some (.ref a), some (.ref F), some (.ref W), some (nI left), some (nI before), some (nI at'), o10, o11, o12] ∧ Ex H3 H' ∧
          H' W = some (.lst (nats (done.map (prt b)))) ∧ done ++ wa (prt b) (m - k) at' left before = wa (prt b) m (cnt b n) n d ∧ before < Cw (prt b) at' (m - k) left ∧ at' ≤ cnt b n ∧ left ≤ n ∧ done.length = k)
        (fun H9 e9 => ⟨cnt b n, n, d, [], none, none, none, rfl, e38.trans e9, (((e6.trans e7).trans e8).trans e9) _ _ h5, rfl, hd, Nat.le_refl _, Nat.le_refl _, rfl⟩) ?_ ?_
      · rintro k σ' H' hk ⟨at0, left, before0, done, o10, o11, o12, rfl, e', hWl, hw, hlt, hat, hle, hdl⟩
        obtain ⟨c, hc⟩ : ∃ c, m - k = c + 1 := ⟨m - k - 1, by omega⟩
        rw [hc] at hw hlt
        have hc2 : m - (k + 1) = c := by omega
        refine q_while (fun mm σ' H'' => ∃ (before : Nat) (o11 o12 : Option V), σ' = [some (nI n), some (nI b), some (nI m), some (nI d), some (.ref a), some (.ref F), some (.ref W), some (nI left), some (nI before), some (nI mm), some (.int ((m : Int) - 1 + (k : Nat) * -1)), o11, o12] ∧ Ex H3 H'' ∧
          H'' W = some (.lst (nats (done.map (prt b)))) ∧ done ++ wa (prt b) (c + 1) mm left before = wa (prt b) m (cnt b n) n d ∧ before < Cw (prt b) mm (c + 1) left ∧ mm ≤ cnt b n) at0
          ⟨before0, o11, o12, rfl, e', hWl, hw, hlt, hat⟩ ?_
        rintro mm σ' H'' ⟨before, o11, o12, rfl, e'', hWl, hw, hlt, hat⟩
        refine ⟨true, et_B ev_c, fun _ H6 e6 => ⟨_, fun σ2 H2 h => h, ?_⟩, fun hz => nomatch hz⟩
        obtain ⟨A, rfl⟩ : ∃ A, mm = A + 1 := ⟨mm - 1, by have := in_pos hlt; omega⟩
        have e36 := e''.trans e6
        refine q_asg (v := nI (prt b A)) (ev_op (ev_var rfl) (ev_is (w := nI A) (ev_op (ev_var rfl) ev_c rv_I0) (congrArg V.int (by omega))) (rv_ixL (sq_of (e36 _ _ h3)) (atI_nat (nats_at (rp_get (by omega)))))) fun H7 e7 => ?_
        refine q_asg (ev_cN 0) fun H8 e8 => ?_
        have hC8 := hC.mono ((e36.trans e7).trans e8)
        refine q_ifAsg (v := nI (if prt b A ≤ left then Cw (prt b) (A + 1) c (left - prt b A) else 0)) (b := decide (prt b A ≤ left)) (et_leN (ev_var rfl) (ev_var rfl)) (fun hz => ?_) (fun hz => ?_) fun H9 e9 => ?_
        · rw [if_pos (of_decide_eq_true hz)]
          exact ev_cube (ev_var rfl) (ev_var rfl) (ev_is (ev_var rfl) (congrArg V.int (by omega))) (ev_subN (ev_var rfl) (ev_var rfl) (of_decide_eq_true hz)) hC8 hat (by omega) (by omega)
        · rw [if_neg (of_decide_eq_false hz)]
          rfl
        · refine q_when (b := decide (before < if prt b A ≤ left then Cw (prt b) (A + 1) c (left - prt b A) else 0)) (et_ltN (ev_var rfl) (ev_var rfl)) (fun hy H10 e10 => ?_) fun hy H10 e10 => ?_
          · have hy := of_decide_eq_true hy
            obtain ⟨y1, y2⟩ := in_yes hy
            rw [wa_yes hy] at hw
            have e610 := ((e7.trans e8).trans e9).trans e10
            have e310 := e36.trans e610
            refine s_break ?_
            refine q_app (l := W) (xs := nats (done.map (prt b))) (v := nI (prt b A)) ((e6.trans e610) _ _ hWl) (ev_var rfl) (ev_var rfl) (by rw [List.length_map, List.length_map]; omega) fun H11 e11 => ?_
            refine s_augR (x := nI left) (y := nI (prt b A)) (z := nI (left - prt b A)) rfl (ev_var rfl) (rv_val fun H12 _ Q q => ⟨_, _, rfl, rfl, ?_⟩) fun H12 e12 => ?_
            · have e0 : ((left : Nat) : Int) - (prt b A : Int) = ((left - prt b A : Nat) : Int) := by omega
              show Q (.int (((left : Nat) : Int) - (prt b A : Int))) H12
              rw [e0]
              exact q
            · refine ⟨A + 1, left - prt b A, before, done ++ [A], _, _, _, rfl, (Ex.mut (e310.trans e11) hW3).trans e12, e12 _ _ (by rw [upd_same, List.map_append, ← nats_app]; rfl), ?_, by rw [hc2]; exact y2, hat, by omega, by rw [List.length_append, hdl]; rfl⟩
              rw [hc2, List.append_assoc]
              exact hw
          · have hy := of_decide_eq_false hy
            rw [wa_no hy] at hw
            have hb2 := in_no hlt hy
            refine q_augR (x := nI before) (z := nI (before - if prt b A ≤ left then Cw (prt b) (A + 1) c (left - prt b A) else 0)) rfl (ev_var rfl) (rv_val fun H12 _ Q q => ⟨_, _, rfl, rfl, ?_⟩) fun H11 e11 => ?_
            · generalize (if prt b A ≤ left then Cw (prt b) (A + 1) c (left - prt b A) else 0) = hh at hy q
              have e0 : ((before : Nat) : Int) - (hh : Int) = ((before - hh : Nat) : Int) := by omega
              show Q (.int (((before : Nat) : Int) - (hh : Int))) H12
              rw [e0]
              exact q
            · have e611 := (((e7.trans e8).trans e9).trans e10).trans e11
              refine s_augR (x := nI (A + 1)) (y := .int 1) (z := nI A) rfl ev_c (rv_val fun H12 _ Q q => ⟨_, _, rfl, rfl, ?_⟩) fun H12 e12 => ⟨A, Nat.lt_succ_self A, _, _, _, rfl, (e36.trans e611).trans e12, ((e6.trans e611).trans e12) _ _ hWl, hw, hb2, by omega⟩
              have e0 : ((A + 1 : Nat) : Int) - 1 = (A : Int) := by omega
              show Q (.int (((A + 1 : Nat) : Int) - 1)) H12
              rw [e0]
              exact q
      · rintro σ' H' ⟨at0, left, before0, done, o10, o11, o12, rfl, e', hWl, hw, _⟩
        rw [Nat.sub_self, wa_nil, List.append_nil] at hw
        refine s_ret (ev_var rfl) fun H10 e10 => q W H10 (fresh_back ((e1.trans e2).trans e3) hW3) ((((e1.trans e2).trans e3).trans e').trans e10) ?_
        rw [e10 _ _ hWl, hw]
        rfl
end
end Mir
namespace Mir
open PySem PySem.Spec PyProof.Rows L2 Evl
open C8 (Cal pe_c)
/-! ## a way's place; tables -/
theorem cut_from (l : List V) (k : Nat) : cutV l (some (k : Int)) none = l.drop k := by
  unfold cutV
  rw [HT.sIx_nat, HT.sIx_none]
  by_cases h : k ≤ l.length
  · rw [Nat.min_eq_left h, List.take_of_length_le (by rw [List.length_drop]; omega)]
  · rw [Nat.min_eq_right (by omega), List.drop_length, List.drop_eq_nil_of_le (by omega), List.take_nil]
theorem nats_int (l : List Nat) : nats l = (l.map fun x : Nat => (x : Int)).map V.int := by
  rw [List.map_map]
  rfl
section
variable {K : PySem.W.Frag} {σ : L2.St} {H : Hp} {ta : TE}
theorem ev_sumA {a : Addr} {l : List Nat} (ha : Ev ta σ H (.ref a)) (h : SqL K H a (nats l)) : Ev (tCB (rSum K) (tCons ta tNil)) σ H (nI l.sum) := fun H1 e Q q =>
  ha H1 e _ fun H2 e2 => ⟨a, l.map fun x : Nat => (x : Int), rfl, by rw [← nats_int]; exact ex_l (e.trans e2) h, by rw [sum_cast]; exact q H2 e2⟩
theorem ev_minNew {l : List Nat} (ha : EvL ta σ H (nats l)) (hl : l ≠ []) : Ev (tCB (rMin K) (tCons ta tNil)) σ H (nI (mnl l)) := fun H1 e Q q =>
  ha H1 e _ fun p H2 _ e2 h2 => ⟨p, l.map fun x : Nat => (x : Int), rfl, by rw [← nats_int]; exact sq_of h2, by rw [List.length_map]; exact List.length_pos_iff.mpr hl, fun m hm hle => by
    obtain ⟨x, hx, rfl⟩ := List.mem_map.mp hm
    have e0 : x = mnl l := mnl_eq hx fun y hy => by
      have := hle _ (List.mem_map.mpr ⟨y, hy, rfl⟩)
      omega
    rw [e0]
    exact q H2 e2⟩
def mxl : List Nat → Nat
  | [] => 0
  | a :: r => max a (mxl r)
theorem mxl_eq {l : List Nat} {m : Nat} (h1 : m ∈ l) (h2 : ∀ x ∈ l, x ≤ m) : m = mxl l := by
  have up : ∀ (l : List Nat) x, x ∈ l → x ≤ mxl l := fun l => by
    induction l with
    | nil => intro x hx; cases hx
    | cons a r ih =>
      intro x hx
      show x ≤ max a (mxl r)
      rcases List.mem_cons.mp hx with e | e
      · omega
      · have := ih x e; omega
  have lo : ∀ (l : List Nat), (∀ x ∈ l, x ≤ m) → mxl l ≤ m := fun l => by
    induction l with
    | nil => intro _; exact Nat.zero_le _
    | cons a r ih =>
      intro h
      have h1 := h a List.mem_cons_self
      have h2 := ih fun x hx => h x (List.mem_cons_of_mem _ hx)
      show max a (mxl r) ≤ m
      omega
  exact Nat.le_antisymm (up l m h1) (lo l h2)
theorem ev_maxA {a : Addr} {l : List Nat} (ha : Ev ta σ H (.ref a)) (h : SqL K H a (nats l)) (hl : l ≠ []) : Ev (tCB (rMax K) (tCons ta tNil)) σ H (nI (mxl l)) := fun H1 e Q q =>
  ha H1 e _ fun H2 e2 => ⟨a, l.map fun x : Nat => (x : Int), rfl, by rw [← nats_int]; exact ex_l (e.trans e2) h, by rw [List.length_map]; exact List.length_pos_iff.mpr hl, fun m hm hle => by
    obtain ⟨x, hx, rfl⟩ := List.mem_map.mp hm
    have e0 : x = mxl l := mxl_eq hx fun y hy => by
      have := hle _ (List.mem_map.mpr ⟨y, hy, rfl⟩)
      omega
    rw [e0]
    exact q H2 e2⟩
theorem flat_nats : ∀ l : List Nat, (nats l).all flatV = true
  | [] => rfl
  | a :: l => by
    show (nI a :: nats l).all flatV = true
    rw [List.all_cons, flat_nats l]
    rfl
theorem ev_opL2 {tb : TE} {r : R2} {xs ys : List V} {z : V} (ha : EvL ta σ H xs) (hb : ∀ H1, Ex H H1 → EvL tb σ H1 ys) (hr : ∀ p q H1, H1 p = some (.lst xs) → H1 q = some (.lst ys) → RV r (.ref p) (.ref q) H1 z) : Ev (tOp r ta tb) σ H z := fun H1 e Q q =>
  ha H1 e _ fun a H2 _ e2 hx => hb H2 (e.trans e2) H2 (Ex.refl H2) _ fun c H3 _ e3 hy => hr a c H3 (e3 _ _ hx) hy H3 (Ex.refl H3) Q fun H4 e4 => q H4 ((e2.trans e3).trans e4)
theorem rv_neInts {a b : Addr} {ns ms : List Int} (ha : SqL K H a (ns.map V.int)) (hb : SqL K H b (ms.map V.int)) (h1 : ns.length ≤ sizeLine) (h2 : ms.length ≤ sizeLine) : RV (rNeD K) (.ref a) (.ref b) H (.bl (!decide (ns = ms))) := fun H1 e Q q => by
  refine ⟨.list (ns.map PyData.int), .list (ms.map PyData.int), .lst (ex_l e ha) (dpAll_ints ns), .lst (ex_l e hb) (dpAll_ints ms), shaped_ints ns h1, shaped_ints ms h2, ?_⟩
  have g : PyData.eqv (.list (ns.map PyData.int)) (.list (ms.map PyData.int)) = decide (ns = ms) := by
    rw [PyData.eqv]
    exact eqvAll_ints ns ms
  rw [g]
  exact q H1 (Ex.refl H1)
end
/-! ## promises -/
def WayOf (b n : Nat) (is : List Nat) : Prop := (∀ i ∈ is, i < cnt b n) ∧ is.Pairwise (fun i j => j ≤ i) ∧ (is.map (prt b)).sum = n
theorem WayOf.len {b n : Nat} {is : List Nat} (hb : 2 ≤ b) (h : WayOf b n is) : is.length ≤ n := by
  have z : ∀ l : List Nat, l.length ≤ (l.map (prt b)).sum := fun l => by
    induction l with
    | nil => exact Nat.le_refl _
    | cons a r ih =>
      rw [List.map_cons, List.sum_cons, List.length_cons]
      have := prt_pos hb a
      omega
  have := z is
  rw [h.2.2] at this
  exact this
def spNeedWay (K : PySem.W.Frag) : Sp := fun vs H Q _ => ∃ (n b : Nat) (a t : Addr) (is : List Nat), vs = [nI n, .ref a, .ref t] ∧ 2 ≤ b ∧ n ≤ 1000 ∧ Parts K H a b (cnt b n) ∧ H t = some (.lst (nats (is.map (prt b)))) ∧ WayOf b n is ∧ RetV .non H Q
def spWayPlace : Sp := fun vs H Q _ => ∃ (n b : Nat) (t : Addr) (is : List Nat), vs = [nI n, nI b, .ref t] ∧ Good n b ∧ n ≤ 1000 ∧ H t = some (.lst (nats (is.map (prt b)))) ∧ WayOf b n is ∧ RetV (nI (wp (prt b) is n (cnt b n) 0)) H Q
theorem sv_needWay {K : PySem.W.Frag} {n b : Nat} {a t : Addr} {is : List Nat} {H : Hp} (hb : 2 ≤ b) (hn : n ≤ 1000) (ha : Parts K H a b (cnt b n)) (ht : H t = some (.lst (nats (is.map (prt b))))) (w : WayOf b n is) : SpV (spNeedWay K) [nI n, .ref a, .ref t] H .non := fun _ e _ q _ => ⟨n, b, a, t, is, rfl, hb, hn, ex_l e ha, e _ _ ht, w, q⟩
theorem sv_wayPlace {n b : Nat} {t : Addr} {is : List Nat} {H : Hp} (g : Good n b) (hn : n ≤ 1000) (ht : H t = some (.lst (nats (is.map (prt b))))) (w : WayOf b n is) : SpV spWayPlace [nI n, nI b, .ref t] H (nI (wp (prt b) is n (cnt b n) 0)) := fun _ e _ q _ => ⟨n, b, t, is, rfl, g, hn, e _ _ ht, w, q⟩
section
variable {P : Program} {w : World} {K : PySem.W.Frag} {mg : Str → Option Value} {base : Heap}
theorem ok_need_way (Z : Txt K mg) : Cal P w K mg base 1 "need_way" (spNeedWay K) [] := by
  refine Z.d_need_way.cal sc_need_way (fun vs H Q E h => ?_) (fun f cdv A outer s H vs Q E hr h => ?_)
  · obtain ⟨n, b, a, t, is, rfl, _⟩ := h
    rfl
  · obtain ⟨n, b, a, t, is, rfl, hb, hn, ha, ht, hw, q⟩ := h
    have hl := hw.len hb
    refine ⟨_, (pss_cons (ps_if (PW.pt (pw_or (pt_not (pt_val (pe_callB call_isi (by rfl) Z.f_isinstance (by decide +kernel) (pa_cons (pv 2) (pa_cons (pe_bltn (v := .ty "list") (by rfl) Z.f_list (by decide +kernel) rfl) pa_nil))))) (pw_or1 (pt_cmpR op_gt (pe_callB call_len_seq (by rfl) Z.f_len PySem.boot_len (pa_cons (pv 2) pa_nil)) (pv 0) (nomark _)))))
        (pss_one ps_never)
        pss_nil)
      (pss_cons (ps_for PassesOwn.never rfl (pi_list (pv 2)) (pg_name (i := 3) sc_need_way.nd rfl (Or.inl rfl))
        (pss_one (ps_if (PW.pt (pw_or (pt_not (pt_val (pe_callB call_isi (by rfl) Z.f_isinstance (by decide +kernel) (pa_cons (pv 3) (pa_cons (pe_bltn (v := .ty "int") (by rfl) Z.f_int (by decide +kernel) rfl) pa_nil))))) (pw_or (pt_val (pe_callB call_isi (by rfl) Z.f_isinstance (by decide +kernel) (pa_cons (pv 3) (pa_cons (pe_bltn (v := .ty "bool") (by rfl) Z.f_bool (by decide +kernel) rfl) pa_nil)))) (pw_or1 (pt_cmpR op_notIn_seq (pv 3) (pv 1) (by rfl))))))
          (pss_one ps_never)
          pss_nil)))
      (pss_one (ps_if (PW.pt (pw_or (pt_cmpR (op_neD hr.units) (pe_lc (own := [("one", 4), ("other", 5)]) (g := gTup _ 2 (gCons (gName 4) (gCons (gName 5) gNil))) (tt := _) rfl sc_need_way.nd (pi_zip (by rfl) Z.f_zip (pa_cons (pv 2) (pa_cons (pe_slice sl_list (pv 2) (po_some pe_int) po_none) pa_nil))) (blkOk_by (N := nm_need_way) (sc := defScope s_need_way) (by decide +kernel)) (fun _ _ _ _ _ => pg_tup rfl (pgs_cons (pg_name (i := 4) sc_need_way.nd rfl (Or.inl rfl)) (pgs_cons (pg_name (i := 5) sc_need_way.nd rfl (Or.inl rfl)) pgs_nil))) (fun _ _ _ _ _ => (pts_one (pt_cmpR op_lt (pv 4) (pv 5) (nomark _)))) (fun _ _ _ _ _ => pe_int)) (pe_lst pa_nil) (nomark _)) (pw_or1 (pt_cmpR op_ne (pe_callB (cr_sum rfl) (by rfl) Z.f_sum (by decide +kernel) (pa_cons (pv 2) pa_nil)) (pv 0) (nomark _)))))
        (pss_one ps_never)
        pss_nil)))), ?_⟩
    refine q_when (b := false) (et_is (et_or (et_not (et_B (ev_cb (ea_cons (ev_var rfl) (ea_cons ev_c ea_nil)) (z := .bl true) fun H1 e1 Q1 q1 => ⟨.ref t, .ty "list", _, _, true, rfl, .ty "list", .base (.lst (e1 _ _ ht)), kit_ty (by decide +kernel), q1 H1 (Ex.refl H1)⟩))) fun _ => et_gtN (ev_int (j := (is.length : Int)) (ev_lenA (ev_var rfl) (sq_of ht)) (by rw [List.length_map, List.length_map])) (ev_var rfl)) ?_) (fun h => nomatch h) fun _ H1 e1 => ?_
    · rw [decide_eq_false (by omega)]
      rfl
    · refine q_forLn (a := t) (xs := nats (is.map (prt b))) (ev_var rfl) (sq_of (e1 _ _ ht)) (fun i σ' H' => ∃ o3, σ' = [some (nI n), some (.ref a), some (.ref t), o3, none, none] ∧ Ex H H') (fun H2 e2 => ⟨none, rfl, e1.trans e2⟩) (fun i σ' H' _ ⟨_, _, e'⟩ => sq_of (e' _ _ ht)) ?_ ?_
      · rintro i x σ' H' hx ⟨o3, rfl, e'⟩
        rw [List.getElem?_map, List.getElem?_map] at hx
        obtain ⟨j, hj, hx⟩ : ∃ j, is[i]? = some j ∧ some (nI (prt b j)) = some x := by
          cases hj : is[i]? with
          | none => rw [hj] at hx; cases hx
          | some j => rw [hj] at hx; exact ⟨j, rfl, hx⟩
        cases hx
        have hjc := hw.1 j (List.mem_of_getElem? hj)
        have hin : inV (nI (prt b j)) (nats (rp b (cnt b n))) = true := by
          refine List.any_eq_true.mpr ⟨nI (prt b j), List.mem_of_getElem? (nats_at (rp_get hjc)), ?_⟩
          simp [eqV]
        refine s_when (b := false) (et_is (et_or (et_not (et_B (ev_cb (ea_cons (ev_var rfl) (ea_cons ev_c ea_nil)) (rc_isi (b := true) (by decide +kernel))))) fun _ => et_or (et_B (ev_cb (ea_cons (ev_var rfl) (ea_cons ev_c ea_nil)) (rc_isi (b := false) (by decide +kernel)))) fun _ => et_test (ev_op (ev_var rfl) (ev_var rfl) (rv_niL (x := nI (prt b j)) (ex_l e' ha) rfl (flat_nats _)))) (by rw [hin]; rfl)) (fun h => nomatch h) fun _ H2 e2 => ⟨_, rfl, e'.trans e2⟩
      · rintro σ' H' ⟨o3, rfl, e'⟩
        have ht' := e' _ _ ht
        have etail := el_sl (K := K) (te := tVar 2) (σ := [some (nI n), some (.ref a), some (.ref t), o3, none, none]) (H := H') (lo := some ((1 : Nat) : Int)) (ev_var rfl) (eo_some (te := tC (.int 1)) (ev_cN 1)) eo_none (sq_of ht')
        rw [cut_from] at etail
        have ecomp : EvL (tLc (iZip K (tCons (tVar 2) (tCons (tSl (rSlL K) (tVar 2) (tPart (tC (.int 1))) tNoPart) tNil))) (gTup K 2 (gCons (gName 4) (gCons (gName 5) gNil))) (tTest (tOp (rI0 fun i j => .bl (decide (i < j))) (tVar 4) (tVar 5))) (tC (.int 1)) [4, 5]) [some (nI n), some (.ref a), some (.ref t), o3, none, none] H' (([] : List Int).map V.int) := fun H1 e Q q => by
          refine ⟨.ref t, rfl, ?_⟩
          refine goL (etail.mono e) fun t2 H2 ht2 e2 h2 => ?_
          refine ⟨t, t2, nats (is.map (prt b)), (nats (is.map (prt b))).drop 1, rfl, sq_of (e2 _ _ (e _ _ ht')), sq_of h2, fun Dl hD => lc_it (walk_zip rfl) (fun i H3 => Ex H2 H3 ∧ H3 Dl = some (.lst [])) ⟨Ex.new hD, upd_same⟩ (fun i H3 _ ⟨e3, _⟩ => ⟨sq_of (e3 _ _ (e2 _ _ (e _ _ ht'))), sq_of (e3 _ _ h2)⟩) ?_ fun H3 ⟨e3, h3⟩ => q Dl H3 (fresh_back e2 hD) (e2.trans e3) h3⟩
          rintro i x H3 H4 hi ⟨e3, h3⟩ ⟨T, x0, y0, rfl, hT, rfl, hx0, hy0⟩
          replace hx0 : (nats (is.map (prt b)))[i]? = some x0 := hx0
          replace hy0 : ((nats (is.map (prt b))).drop 1)[i]? = some y0 := hy0
          rw [List.getElem?_drop, Nat.add_comm, List.getElem?_map, List.getElem?_map] at hy0
          rw [List.getElem?_map, List.getElem?_map] at hx0
          obtain ⟨u, hu, hx0⟩ : ∃ u, is[i]? = some u ∧ some (nI (prt b u)) = some x0 := by
            cases hj : is[i]? with
            | none => rw [hj] at hx0; cases hx0
            | some j => rw [hj] at hx0; exact ⟨j, rfl, hx0⟩
          obtain ⟨v, hv, hy0⟩ : ∃ v, is[i + 1]? = some v ∧ some (nI (prt b v)) = some y0 := by
            cases hj : is[i + 1]? with
            | none => rw [hj] at hy0; cases hy0
            | some j => rw [hj] at hy0; exact ⟨j, rfl, hy0⟩
          cases hx0
          cases hy0
          have huv : v ≤ u := by
            obtain ⟨l1, l2⟩ := List.getElem?_eq_some_iff.mp hu
            obtain ⟨l3, l4⟩ := List.getElem?_eq_some_iff.mp hv
            have z := List.pairwise_iff_getElem.mp hw.2.1 i (i + 1) l1 l3 (Nat.lt_succ_self i)
            rw [l2, l4] at z
            exact z
          have hp := prt_le hb huv
          have eT : Ex H3 (upd H3 T (.tup [nI (prt b u), nI (prt b v)])) := Ex.new hT
          refine ⟨T, [nI (prt b u), nI (prt b v)], rfl, st_of upd_same, rfl, nI (prt b u), [nI (prt b v)], rfl, nI (prt b v), [], rfl, rfl, rfl, ?_⟩
          refine (et_ltN (a := prt b u) (b := prt b v) (ta := tVar 4) (tb := tVar 5) (σ := [some (nI n), some (.ref a), some (.ref t), o3, some (nI (prt b u)), some (nI (prt b v))]) (ev_var rfl) (ev_var rfl)) _ (Ex.refl _) _ fun H5 e5 => ?_
          rw [decide_eq_false (show ¬ prt b u < prt b v by omega)]
          show (if false = true then _ else _)
          rw [if_neg Bool.false_ne_true]
          exact ⟨e3.trans (eT.trans e5), (eT.trans e5) _ _ h3⟩
        refine s_when (b := false) (et_is (et_or (et_test (ev_opL2 ecomp (fun H1 e1 => el_lst (vs := ([] : List Int).map V.int) ea_nil (Nat.zero_le _)) fun p1 p2 H1 h1 h2 => rv_neInts (ns := []) (ms := []) (sq_of h1) (sq_of h2) (sz_of (Nat.zero_le _)) (sz_of (Nat.zero_le _)))) fun _ => et_test (ev_neN (ev_sumA (ev_var rfl) (sq_of ht')) (ev_var rfl))) ?_) (fun h => nomatch h) fun _ H2 e2 => q H2 (e'.trans e2)
        rw [hw.2.2, decide_eq_true rfl, decide_eq_true rfl]
        rfl
end
end Mir
namespace Mir
open PySem PySem.Spec PyProof.Rows L2 Evl
open C8 (Cal pe_c)
/-! ## a way's place, the table -/
def tbv (b n : Nat) : List Nat := tb (prt b) (cnt b n) n
def hmv (b n m : Nat) : Nat := (((tbv b n).drop 1).map fun x : Nat => (x : Int)).count (m : Int)
def hrd (b n : Nat) : List Nat := (List.range (n + 1)).filter fun i => decide ((tbv b n).getD i 0 = mxl (tbv b n))
def spTable : Sp := fun vs H Q _ => ∃ n b : Nat, vs = [nI n, nI b] ∧ Good n b ∧ n ≤ 1000 ∧ RetL (nats (tbv b n)) H Q
def spHowMany : Sp := fun vs H Q _ => ∃ n b m : Nat, vs = [nI n, nI b, nI m] ∧ Good n b ∧ n ≤ 1000 ∧ RetV (nI (hmv b n m)) H Q
def spHardest : Sp := fun vs H Q _ => ∃ n b : Nat, vs = [nI n, nI b] ∧ Good n b ∧ n ≤ 1000 ∧ RetL (nats (hrd b n)) H Q
theorem sl_table {n b : Nat} {H : Hp} (g : Good n b) (h : n ≤ 1000) : SpL spTable [nI n, nI b] H (nats (tbv b n)) := fun _ _ _ q _ => ⟨n, b, rfl, g, h, q⟩
theorem sv_howMany {n b m : Nat} {H : Hp} (g : Good n b) (h : n ≤ 1000) : SpV spHowMany [nI n, nI b, nI m] H (nI (hmv b n m)) := fun _ _ _ q _ => ⟨n, b, m, rfl, g, h, q⟩
theorem sl_hardest {n b : Nat} {H : Hp} (g : Good n b) (h : n ≤ 1000) : SpL spHardest [nI n, nI b] H (nats (hrd b n)) := fun _ _ _ q _ => ⟨n, b, rfl, g, h, q⟩
section
variable {P : Program} {w : World} {K : PySem.W.Frag} {mg : Str → Option Value} {base : Heap}
theorem ok_way_place (Z : Txt K mg) : Cal P w K mg base 5 "way_place" spWayPlace [] := by
  refine Z.d_way_place.cal sc_way_place (fun vs H Q E h => ?_) (fun f cdv A outer s H vs Q E hr h => ?_)
  · obtain ⟨n, b, t, is, rfl, _⟩ := h
    rfl
  · obtain ⟨n, b, t, is, rfl, g, hn, ht, hw, q⟩ := h
    have hb := g.two
    have hcn := cnt_le hb n
    have hil := hw.len hb
    refine ⟨_, (pss_cons (ps_set (i := 3) sc_way_place.nd rfl (Or.inl rfl) (pe_c (ok_mirrored_to Z) hr (by decide) (by rfl) (pa_cons (pv 0) (pa_cons (pv 1) pa_nil))))
      (pss_cons (ps_expr (pe_c (ok_need_way Z) hr (by decide) (by rfl) (pa_cons (pv 0) (pa_cons (pv 3) (pa_cons (pv 2) pa_nil)))))
      (pss_cons (ps_set (i := 4) sc_way_place.nd rfl (Or.inl rfl) (pe_c (ok_counts_by Z) hr (by decide) (by rfl) (pa_cons (pv 3) (pa_cons (pv 0) (pa_cons (pe_callB call_len_seq (by rfl) Z.f_len PySem.boot_len (pa_cons (pv 2) pa_nil)) pa_nil)))))
      (pss_cons (ps_set (i := 5) sc_way_place.nd rfl (Or.inl rfl) pe_int)
      (pss_cons (ps_set (i := 6) sc_way_place.nd rfl (Or.inl rfl) (pv 0))
      (pss_cons (ps_set (i := 7) sc_way_place.nd rfl (Or.inl rfl) (pe_callB call_len_seq (by rfl) Z.f_len PySem.boot_len (pa_cons (pv 3) pa_nil)))
      (pss_cons (ps_for PassesOwn.never rfl (pi_enum (by rfl) Z.f_enumerate (pa_cons (pv 2) pa_nil)) (pg_tup rfl (pgs_cons (pg_name (i := 8) sc_way_place.nd rfl (Or.inl rfl)) (pgs_cons (pg_name (i := 9) sc_way_place.nd rfl (Or.inl rfl)) pgs_nil)))
        (pss_cons (ps_while PassesOwn.never (pt_cmpR op_gt (pe_ix ix_list (pv 3) (pe_op op_sub (pv 7) pe_int) (fun _ _ => rfl)) (pv 9) (nomark _))
          (pss_cons (ps_if (pt_cmpR op_le (pe_ix ix_list (pv 3) (pe_op op_sub (pv 7) pe_int) (fun _ _ => rfl)) (pv 6) (nomark _))
            (pss_one (ps_aug (i := 5) sc_way_place.nd rfl (Or.inl rfl) (pe_ix ix_list (pe_ix ix_list (pe_ix ix_list (pv 4) (pv 7) (fun _ _ => rfl)) (pe_op op_sub (pe_op op_sub (pe_callB call_len_seq (by rfl) Z.f_len PySem.boot_len (pa_cons (pv 2) pa_nil)) pe_int) (pv 8)) (fun _ _ => rfl)) (pe_op op_sub (pv 6) (pe_ix ix_list (pv 3) (pe_op op_sub (pv 7) pe_int) (fun _ _ => rfl))) (fun _ _ => rfl)) iop_add))
            pss_nil)
          (pss_one (ps_aug (i := 7) sc_way_place.nd rfl (Or.inl rfl) pe_int iop_sub))))
        (pss_one (ps_aug (i := 6) sc_way_place.nd rfl (Or.inl rfl) (pv 9) iop_sub))))
      (pss_one (ps_ret (pv 5)))))))))), ?_⟩
    refine q_asgL (el_call (ea_cons (ev_var rfl) (ea_cons (ev_var rfl) ea_nil)) (sl_mirTo g (by omega))) fun a H1 ha e1 h1 => ?_
    refine q_drop (ev_call (ea_cons (ev_var rfl) (ea_cons (ev_var rfl) (ea_cons (ev_var rfl) ea_nil))) (sv_needWay hb hn (sq_of h1) (e1 _ _ ht) hw)) fun H2 e2 => ?_
    have ht2 := e2 _ _ (e1 _ _ ht)
    show tCall (spCounts K) [] C8.E0 (tCons (tVar 3) (tCons (tVar 0) (tCons (tCB _ (tCons (tVar 2) tNil)) tNil))) _ _ _
    refine goCall (vs := [.ref a, nI n, nI is.length]) (ea_cons (ev_var rfl) (ea_cons (ev_var rfl) (ea_cons (ev_int (ev_lenA (ev_var rfl) (sq_of ht2)) (by rw [List.length_map, List.length_map])) ea_nil))) fun H3 e3 => ⟨a, b, cnt b n, n, is.length, rfl, hb, Nat.le_refl _, hn, by omega, sq_of (e3 _ _ (e2 _ _ h1)), fun F H4 hF e4 hC => ?_⟩
    have e04 := ((e1.trans e2).trans e3).trans e4
    have h4 := e4 _ _ (e3 _ _ (e2 _ _ h1))
    have ht4 := e4 _ _ (e3 _ _ ht2)
    refine q_asg (i := 5) (ev_cN 0) fun H5 e5 => ?_
    refine q_asg (i := 6) (ev_var rfl) fun H6 e6 => ?_
    refine q_asg (i := 7) (v := nI (cnt b n)) (ev_int (ev_lenA (ev_var rfl) (sq_of ((e5.trans e6) _ _ h4))) (by rw [List.length_map, rp_len])) fun H7 e7 => ?_
    have e47 := (e5.trans e6).trans e7
    refine ⟨.ref t, rfl, t, nats (is.map (prt b)), rfl, sq_of (e47 _ _ ht4), for_it walk_enum (fun k σ' H' => ∃ (f l m : Nat) (o8 o9 : Option V), σ' = [some (nI n), some (nI b), some (.ref t), some (.ref a), some (.ref F), some (nI f), some (nI l), some (nI m), o8, o9] ∧ Ex H4 H' ∧
      wp (prt b) (is.drop k) l m f = wp (prt b) is n (cnt b n) 0 ∧ ((is.drop k).map (prt b)).sum = l ∧ (∀ i ∈ is.drop k, i < m) ∧ m ≤ cnt b n ∧ l ≤ n)
      ⟨0, n, cnt b n, none, none, rfl, e47, rfl, hw.2.2, hw.1, Nat.le_refl _, Nat.le_refl _⟩ (fun k σ' H' _ ⟨_, _, _, _, _, _, e', _⟩ => sq_of (e' _ _ ht4)) ?_ ?_⟩
    · rintro k x σ' H' H'' hk ⟨f, l, m, o8, o9, rfl, e', hwp, hsum, hall, hm, hl⟩ ⟨T, x0, y0, rfl, hT, rfl, hx0, hy0⟩
      cases hx0
      replace hy0 : (nats (is.map (prt b)))[k]? = some y0 := hy0
      rw [List.length_map, List.length_map] at hk
      rw [List.getElem?_map, List.getElem?_map, List.getElem?_eq_getElem hk] at hy0
      cases hy0
      have hdr : is.drop k = is[k] :: is.drop (k + 1) := List.drop_eq_getElem_cons hk
      have hpw : (is.drop k).Pairwise (fun i j => j ≤ i) := hw.2.1.sublist (List.drop_sublist _ _)
      rw [hdr] at hwp hsum hall hpw
      have hrl : (is.drop (k + 1)).length = is.length - 1 - k := by rw [List.length_drop]; omega
      generalize is[k] = i at hwp hsum hall hpw
      generalize is.drop (k + 1) = rest at hwp hsum hall hpw hrl
      have him : i < m := hall i List.mem_cons_self
      rw [List.map_cons, List.sum_cons] at hsum
      have hwp' : wp (prt b) rest (l - prt b i) (wpW (prt b) (prt b i) rest.length l m f).2 (wpW (prt b) (prt b i) rest.length l m f).1 = wp (prt b) is n (cnt b n) 0 := hwp
      refine ⟨T, [nI k, nI (prt b i)], rfl, st_of upd_same, rfl, nI k, [nI (prt b i)], rfl, nI (prt b i), [], rfl, rfl, ?_⟩
      have eT : Ex H' (upd H' T (.tup [nI k, nI (prt b i)])) := Ex.new hT
      refine q_while (fun mm σ' H'' => ∃ f2 : Nat, σ' = [some (nI n), some (nI b), some (.ref t), some (.ref a), some (.ref F), some (nI f2), some (nI l), some (nI mm), some (nI k), some (nI (prt b i))] ∧ Ex H4 H'' ∧ wpW (prt b) (prt b i) rest.length l mm f2 = wpW (prt b) (prt b i) rest.length l m f ∧ i < mm ∧ mm ≤ cnt b n) m
        ⟨f, rfl, e'.trans eT, rfl, him, hm⟩ ?_
      rintro mm σ' H8 ⟨f2, rfl, e8, hW, hi, hmm⟩
      obtain ⟨M, rfl⟩ : ∃ M, mm = M + 1 := ⟨mm - 1, by omega⟩
      have eprt : ∀ {f3 : Nat} {H9 : Hp}, Ex H8 H9 → Ev (tOp (rIxL K) (tVar 3) (tOp (rI0 fun i j => .int (i - j)) (tVar 7) (tC (.int 1)))) [some (nI n), some (nI b), some (.ref t), some (.ref a), some (.ref F), some (nI f3), some (nI l), some (nI (M + 1)), some (nI k), some (nI (prt b i))] H9 (nI (prt b M)) := fun {f3 H9} e9 =>
        ev_op (ev_var rfl) (ev_is (w := nI M) (ev_op (ev_var (v := nI (M + 1)) rfl) ev_c rv_I0) (congrArg V.int (by omega))) (rv_ixL (sq_of ((e8.trans e9) _ _ h4)) (atI_nat (nats_at (rp_get (by omega)))))
      refine ⟨decide (prt b i < prt b M), et_gtN (eprt (Ex.refl H8)) (ev_var rfl), fun hz H9 e9 => ⟨_, fun σ2 H2 h => h, ?_⟩, fun hz H9 e9 => ?_⟩
      · have hz := of_decide_eq_true hz
        have hiM : i < M := by
          apply Classical.byContradiction
          intro c
          have := prt_le hb (show M ≤ i by omega)
          omega
        rw [wpW_yes hz] at hW
        have tail : ∀ (H10 : Hp), Ex H9 H10 → tAug 7 (tC (.int 1)) (rI0 fun i j => .int (i - j)) { nx := fun σ2 H2 => ∃ m', m' < M + 1 ∧ ∃ f2 : Nat, σ2 = [some (nI n), some (nI b), some (.ref t), some (.ref a), some (.ref F), some (nI f2), some (nI l), some (nI m'), some (nI k), some (nI (prt b i))] ∧ Ex H4 H2 ∧ wpW (prt b) (prt b i) rest.length l m' f2 = wpW (prt b) (prt b i) rest.length l m f ∧ i < m' ∧ m' ≤ cnt b n, rt := Q }
            [some (nI n), some (nI b), some (.ref t), some (.ref a), some (.ref F), some (nI (f2 + (if prt b M ≤ l then Cw (prt b) (M + 1) rest.length (l - prt b M) else 0))), some (nI l), some (nI (M + 1)), some (nI k), some (nI (prt b i))] H10 := fun H10 e10 => by
          refine s_augR (x := nI (M + 1)) (y := .int 1) (z := nI M) rfl ev_c (rv_val fun H12 _ Q q => ⟨_, _, rfl, rfl, ?_⟩) fun H12 e12 => ⟨M, Nat.lt_succ_self M, _, rfl, ((e8.trans e9).trans e10).trans e12, hW, hiM, by omega⟩
          have e0 : ((M + 1 : Nat) : Int) - 1 = (M : Int) := by omega
          show Q (.int (((M + 1 : Nat) : Int) - 1)) H12
          rw [e0]
          exact q
        refine q_when (b := decide (prt b M ≤ l)) (et_leN (eprt e9) (ev_var rfl)) (fun hy H10 e10 => ?_) fun hy H10 e10 => ?_
        · have hy := of_decide_eq_true hy
          rw [if_pos hy] at tail
          have e410 := (e8.trans e9).trans e10
          refine s_augR (x := nI f2) (y := nI (Cw (prt b) (M + 1) rest.length (l - prt b M))) (z := nI (f2 + Cw (prt b) (M + 1) rest.length (l - prt b M))) rfl (ev_cube (ev_var rfl) (ev_var rfl) (ev_is (w := nI rest.length) (ev_op (ev_op (ev_int (j := (is.length : Int)) (ev_lenA (ev_var rfl) (sq_of (e410 _ _ ht4))) (by rw [List.length_map, List.length_map])) ev_c rv_I0) (ev_var rfl) rv_I0) (congrArg V.int (by rw [hrl]; omega)))
            (ev_subN (ev_var rfl) (eprt (e9.trans e10)) hy) (hC.mono e410) hmm (by rw [hrl]; omega) (by omega)) (rv_val fun H12 _ Q q => ⟨_, _, rfl, rfl, ?_⟩) fun H12 e12 => tail H12 (e10.trans e12)
          have e0 : ((f2 : Nat) : Int) + (Cw (prt b) (M + 1) rest.length (l - prt b M) : Int) = ((f2 + Cw (prt b) (M + 1) rest.length (l - prt b M) : Nat) : Int) := by omega
          show Q (.int (((f2 : Nat) : Int) + (Cw (prt b) (M + 1) rest.length (l - prt b M) : Int))) H12
          rw [e0]
          exact q
        · rw [if_neg (of_decide_eq_false hy)] at tail
          exact tail H10 e10
      · have hz := of_decide_eq_false hz
        rw [wpW_no hz] at hW
        rw [← hW] at hwp'
        refine s_augR (x := nI l) (y := nI (prt b i)) (z := nI (l - prt b i)) rfl (ev_var rfl) (rv_val fun H12 _ Q q => ⟨_, _, rfl, rfl, ?_⟩) fun H12 e12 => ⟨f2, l - prt b i, M + 1, _, _, rfl, (e8.trans e9).trans e12, hwp', by omega, fun j hj => ?_, hmm, by omega⟩
        · have e0 : ((l : Nat) : Int) - (prt b i : Int) = ((l - prt b i : Nat) : Int) := by omega
          show Q (.int (((l : Nat) : Int) - (prt b i : Int))) H12
          rw [e0]
          exact q
        · have := List.rel_of_pairwise_cons hpw hj
          omega
    · rintro σ' H' ⟨f, l, m, o8, o9, rfl, e', hwp, _⟩
      rw [List.length_map, List.length_map, List.drop_length] at hwp
      replace hwp : f = wp (prt b) is n (cnt b n) 0 := hwp
      exact s_ret (v := nI (wp (prt b) is n (cnt b n) 0)) (ev_is (ev_var rfl) (congrArg nI hwp)) fun H8 e8 => q H8 ((e04.trans e').trans e8)
theorem given_tsel (b M k : Nat) (l : List Nat) : given M (fun i => decide (prt b i ≤ k)) (fun i => nI (l.getD (k - prt b i) 0)) = nats (tsel (prt b) M k l) := by
  unfold given tsel nats
  rw [List.map_map]
  rfl
theorem getD_of {l : List Nat} {i : Nat} (h : i < l.length) : l[i]? = some (l.getD i 0) := by
  rw [List.getD_eq_getElem?_getD, List.getElem?_eq_getElem h]
  rfl
theorem ok_table (Z : Txt K mg) : Cal P w K mg base 5 "table" spTable [] := by
  refine Z.d_table.cal sc_table (fun vs H Q E h => ?_) (fun f cdv A outer s H vs Q E hr h => ?_)
  · obtain ⟨n, b, rfl, _⟩ := h
    rfl
  · obtain ⟨n, b, rfl, g, hn, q⟩ := h
    have hb := g.two
    have hcn := cnt_le hb n
    refine ⟨_, (pss_cons (ps_set (i := 2) sc_table.nd rfl (Or.inl rfl) (pe_c (ok_mirrored_to Z) hr (by decide) (by rfl) (pa_cons (pv 0) (pa_cons (pv 1) pa_nil))))
      (pss_cons (ps_set (i := 3) sc_table.nd rfl (Or.inr rfl) (pe_lst (pa_cons pe_int pa_nil)))
      (pss_cons (ps_for PassesOwn.never rfl (pi_range2 (by rfl) Z.f_range (pa_cons pe_int (pa_cons (pe_op op_add (pv 0) pe_int) pa_nil))) (pg_name (i := 4) sc_table.nd rfl (Or.inr rfl))
        (pss_one (ps_expr (pe_bm PySem.F.plainAttrs_list PySem.F.slot_list_append PySem.F.type_list_append mt_append (pv 3) (pa_cons (pe_op op_add pe_int (pe_callB (cr_min rfl) (by rfl) Z.f_min (by decide +kernel) (pa_cons (pe_lc (own := [("part", 5)]) (g := gName 5) (tt := _) rfl sc_table.nd (pi_list (pv 2)) (blkOk_by (N := nm_table) (sc := defScope s_table) (by decide +kernel)) (fun _ _ _ _ _ => pg_name (i := 5) sc_table.nd rfl (Or.inl rfl)) (fun _ _ _ _ _ => (pts_one (pt_cmpR op_le (pv 5) (pv 4) (nomark _)))) (fun _ _ _ _ _ => (pe_ix (r := rIxL K) ix_list (pv 3) (pe_op op_sub (pv 4) (pv 5)) (fun _ _ => rfl)))) pa_nil))) pa_nil)))))
      (pss_one (ps_ret (pv 3)))))), ?_⟩
    refine q_asgL (el_call (ea_cons (ev_var rfl) (ea_cons (ev_var rfl) ea_nil)) (sl_mirTo g (by omega))) fun a H1 ha e1 h1 => ?_
    refine q_asgL (xs := nats [0]) (el_lst (ea_cons (ev_cN 0) ea_nil) (by show 1 ≤ 100000; decide)) fun W H2 hW e2 h2 => ?_
    refine q_forR2 (lo := 1) (n := ((n + 1 : Nat) : Int)) (ea_cons ev_c (ea_cons (ev_addN (ev_var rfl) (ev_cN 1)) ea_nil)) ⟨by omega, by omega, by omega, by omega⟩
      (fun i σ' H' => ∃ o4, σ' = [some (nI n), some (nI b), some (.ref a), some (.ref W), o4, none] ∧ Ex H1 H' ∧ H' W = some (.lst (nats (tb (prt b) (cnt b n) i)))) (fun H3 e3 => ⟨none, rfl, e2.trans e3, e3 _ _ h2⟩) ?_ ?_
    · rintro i σ' H' hi ⟨o4, rfl, e', hWl⟩
      have c1 := cnt_one hb (n := n) (by omega)
      have esel : EvL (tLc (iList K (tVar 2)) (gName 5) (tTest (tOp (rI0 fun i j => .bl (decide (i ≤ j))) (tVar 5) (tVar 4))) (tOp (rIxL K) (tVar 3) (tOp (rI0 fun i j => .int (i - j)) (tVar 4) (tVar 5))) [5]) [some (nI n), some (nI b), some (.ref a), some (.ref W), some (.int (1 + (i : Int))), none] H' (nats (tsel (prt b) (cnt b n) (i + 1) (tb (prt b) (cnt b n) i))) := by
        refine EvL.is (el_lcL (a := a) (xs := nats (rp b (cnt b n))) (fun j => decide (prt b j ≤ i + 1)) (fun j => nI ((tb (prt b) (cnt b n) i).getD (i + 1 - prt b j) 0)) (ev_var rfl) (sq_of (e' _ _ h1)) (by rw [List.length_map, rp_len]; omega) (fun _ => rfl) (fun j x H3 e3 hx => ?_) fun j x H3 e3 hx hf => ?_) ?_
        · have hj : j < cnt b n := by
            have := (List.getElem?_eq_some_iff.mp hx).1
            rw [List.length_map, rp_len] at this
            exact this
          rw [nats_at (rp_get hj)] at hx
          cases hx
          exact et_leN (ev_var rfl) (ev_is (ev_var rfl) (congrArg V.int (by omega)))
        · have hj : j < cnt b n := by
            have := (List.getElem?_eq_some_iff.mp hx).1
            rw [List.length_map, rp_len] at this
            exact this
          rw [nats_at (rp_get hj)] at hx
          cases hx
          have hf := of_decide_eq_true hf
          have hp := prt_pos hb j
          exact ev_op (ev_var rfl) (ev_is (w := nI (i + 1 - prt b j)) (ev_op (ev_var rfl) (ev_var rfl) rv_I0) (congrArg V.int (by omega))) (rv_ixL (sq_of (e3 _ _ hWl)) (atI_nat (nats_at (getD_of (by rw [tb_len]; omega)))))
        · rw [List.length_map, rp_len]
          exact given_tsel b (cnt b n) (i + 1) _
      have hne : tsel (prt b) (cnt b n) (i + 1) (tb (prt b) (cnt b n) i) ≠ [] := fun z => by
        have hm : (tb (prt b) (cnt b n) i).getD (i + 1 - prt b 0) 0 ∈ tsel (prt b) (cnt b n) (i + 1) (tb (prt b) (cnt b n) i) := List.mem_map.mpr ⟨0, List.mem_filter.mpr ⟨List.mem_range.mpr (by omega), by rw [prt_zero hb]; exact decide_eq_true (by omega)⟩, rfl⟩
        rw [z] at hm
        cases hm
      refine s_app (l := W) (xs := nats (tb (prt b) (cnt b n) i)) (v := nI (1 + mnl (tsel (prt b) (cnt b n) (i + 1) (tb (prt b) (cnt b n) i)))) hWl (ev_var rfl) (ev_addN (ev_cN 1) (ev_minNew esel hne)) (by rw [List.length_map, tb_len]; omega) fun H3 e3 => ⟨_, rfl, Ex.mut (e'.trans e3) hW, by rw [upd_same]; exact congrArg (fun z => some (HO.lst z)) (nats_app _ [_])⟩
    · rintro σ' H' ⟨o4, rfl, e', hWl⟩
      have et : (((n + 1 : Nat) : Int) - 1).toNat = n := by omega
      rw [et] at hWl
      exact s_ret (ev_var rfl) fun H3 e3 => q W H3 (fresh_back e1 hW) ((e1.trans e').trans e3) (e3 _ _ hWl)
theorem ok_how_many (Z : Txt K mg) : Cal P w K mg base 6 "how_many" spHowMany [] := by
  refine Z.d_how_many.cal sc_how_many (fun vs H Q E h => ?_) (fun f cdv A outer s H vs Q E hr h => ?_)
  · obtain ⟨n, b, m, rfl, _⟩ := h
    rfl
  · obtain ⟨n, b, m, rfl, g, hn, q⟩ := h
    refine ⟨_, (pss_one (ps_ret (pe_bm PySem.F.plainAttrs_list PySem.F.slot_list_count PySem.F.type_list_count mt_lcount (pe_slice sl_list (pe_c (ok_table Z) hr (by decide) (by rfl) (pa_cons (pv 0) (pa_cons (pv 1) pa_nil))) (po_some pe_int) po_none) (pa_cons (pv 2) pa_nil)))), ?_⟩
    show tCall spTable [] C8.E0 (tCons (tVar 0) (tCons (tVar 1) tNil)) [some (nI n), some (nI b), some (nI m)] H _
    refine goL (el_call (ea_cons (ev_var rfl) (ea_cons (ev_var rfl) ea_nil)) (sl_table g hn)) fun a H1 ha e1 h1 => ?_
    have esl := el_sl (K := K) (te := fun _ H Q => Q (.ref a) H) (σ := [some (nI n), some (nI b), some (nI m)]) (H := H1) (lo := some ((1 : Nat) : Int)) (fun H2 e2 Q q => q H2 (Ex.refl H2)) (eo_some (te := tC (.int 1)) (ev_cN 1)) eo_none (sq_of h1)
    rw [cut_from] at esl
    refine esl H1 (Ex.refl H1) _ fun l H2 hl e2 h2 => ⟨.inl ⟨rfl, _, sq_of h2⟩, ?_⟩
    refine goA (vs := [nI m]) (ea_cons (ev_var rfl) ea_nil) fun H3 e3 => ?_
    have e0 : (nats (tbv b n)).drop 1 = (((tbv b n).drop 1).map fun x : Nat => (x : Int)).map V.int := by
      rw [← nats_int]
      exact List.map_drop.symm
    rw [e0] at h2
    exact ⟨l, _, (m : Int), rfl, rfl, sq_of (e3 _ _ h2), q H3 ((e1.trans e2).trans e3)⟩
theorem ok_hardest (Z : Txt K mg) : Cal P w K mg base 6 "hardest" spHardest [] := by
  refine Z.d_hardest.cal sc_hardest (fun vs H Q E h => ?_) (fun f cdv A outer s H vs Q E hr h => ?_)
  · obtain ⟨n, b, rfl, _⟩ := h
    rfl
  · obtain ⟨n, b, rfl, g, hn, q⟩ := h
    have hlen : (tbv b n).length = n + 1 := tb_len _ _ _
    refine ⟨_, (pss_cons (ps_set (i := 2) sc_hardest.nd rfl (Or.inl rfl) (pe_c (ok_table Z) hr (by decide) (by rfl) (pa_cons (pv 0) (pa_cons (pv 1) pa_nil))))
      (pss_cons (ps_set (i := 3) sc_hardest.nd rfl (Or.inr rfl) (pe_callB (cr_max rfl) (by rfl) Z.f_max (by decide +kernel) (pa_cons (pv 2) pa_nil)))
      (pss_one (ps_ret (pe_lc (own := [("number", 4), ("many", 5)]) (g := gTup _ 2 (gCons (gName 4) (gCons (gName 5) gNil))) (tt := _) rfl sc_hardest.nd (pi_enum (by rfl) Z.f_enumerate (pa_cons (pv 2) pa_nil)) (blkOk_by (N := nm_hardest) (sc := defScope s_hardest) (by decide +kernel)) (fun _ _ _ _ _ => pg_tup rfl (pgs_cons (pg_name (i := 4) sc_hardest.nd rfl (Or.inl rfl)) (pgs_cons (pg_name (i := 5) sc_hardest.nd rfl (Or.inl rfl)) pgs_nil))) (fun _ _ _ _ _ => (pts_one (pt_cmpR op_eq (pv 5) (pv 3) (nomark _)))) (fun _ _ _ _ _ => (pv 4))))))), ?_⟩
    refine q_asgL (el_call (ea_cons (ev_var rfl) (ea_cons (ev_var rfl) ea_nil)) (sl_table g hn)) fun a H1 ha e1 h1 => ?_
    refine q_asg (v := nI (mxl (tbv b n))) (ev_maxA (ev_var rfl) (sq_of h1) (fun z => by rw [z] at hlen; cases hlen)) fun H2 e2 => ?_
    have h2 := e2 _ _ h1
    refine ⟨.ref a, rfl, a, nats (tbv b n), rfl, sq_of h2, fun Dl hD => lc_it walk_enum (fun i H3 => Ex H2 H3 ∧ H3 Dl = some (.lst (nats ((List.range i).filter fun i => decide ((tbv b n).getD i 0 = mxl (tbv b n)))))) ⟨Ex.new hD, upd_same⟩ (fun i H3 _ ⟨e3, _⟩ => sq_of (e3 _ _ h2)) ?_ fun H3 ⟨e3, h3⟩ => ?_⟩
    · rintro i x H3 H4 hi ⟨e3, h3⟩ ⟨T, x0, y0, rfl, hT, rfl, hx0, hy0⟩
      cases hx0
      replace hy0 : (nats (tbv b n))[i]? = some y0 := hy0
      rw [List.length_map] at hi
      rw [nats_at (getD_of hi)] at hy0
      cases hy0
      generalize hv : (tbv b n).getD i 0 = v
      have eT : Ex H3 (upd H3 T (.tup [nI i, nI v])) := Ex.new hT
      refine ⟨T, [nI i, nI v], rfl, st_of upd_same, rfl, nI i, [nI v], rfl, nI v, [], rfl, rfl, rfl, ?_⟩
      refine (et_test (ev_eqN (a := v) (b := mxl (tbv b n)) (ta := tVar 5) (tb := tVar 3) (σ := [some (nI n), some (nI b), some (.ref a), some (nI (mxl (tbv b n))), some (nI i), some (nI v)]) (ev_var rfl) (ev_var rfl))) _ (Ex.refl _) _ fun H5 e5 => ?_
      rw [List.range_succ, List.filter_append]
      by_cases c : v = mxl (tbv b n)
      · rw [decide_eq_true c]
        show (if true = true then _ else _)
        rw [if_pos rfl]
        refine ⟨nI i, rfl, nats ((List.range i).filter fun i => decide ((tbv b n).getD i 0 = mxl (tbv b n))), (eT.trans e5) _ _ h3, sz_lt ?_, Ex.mut (e3.trans (eT.trans e5)) hD, ?_⟩
        · have z := List.length_filter_le (fun i => decide ((tbv b n).getD i 0 = mxl (tbv b n))) (List.range i)
          rw [List.length_range] at z
          rw [List.length_map]
          omega
        · rw [upd_same, List.filter_cons, hv, decide_eq_true c, ← nats_app]
          rfl
      · rw [decide_eq_false c]
        show (if false = true then _ else _)
        rw [if_neg Bool.false_ne_true]
        refine ⟨e3.trans (eT.trans e5), ?_⟩
        rw [(eT.trans e5) _ _ h3, List.filter_cons, hv, decide_eq_false c]
        show _ = some (HO.lst (nats (_ ++ [])))
        rw [List.append_nil]
    · rw [List.length_map, hlen] at h3
      exact q Dl H3 (fresh_back (e1.trans e2) hD) ((e1.trans e2).trans e3) h3
end
end Mir
namespace Mir
open PySem PySem.Calls PySem.Spec PyProof.Rows L2
/-! ## list(enumerate(xs)): the pairs stay held, so that each is a new one -/
theorem en_nolen : typeLookup (.type "enumerate") "__len__" = pure none := by rw [typeLookup_type, builtinLookup_eq_fast]; kernel_rfl
theorem en_nohint : typeLookup (.type "enumerate") "__length_hint__" = pure none := by rw [typeLookup_type, builtinLookup_eq_fast]; kernel_rfl
/-- the enumerator at e ahead of turn i: no pair is out yet, or the first one is held by somebody -/
def EnSt (h : Heap) (e it S : Addr) (i : Nat) : Prop := (i = 0 ∧ ∃ old, IsEnum h e it 0 old) ∨ ∃ old T f oT, IsEnumHeld h e it (i : Int) old T f ∧ h.get? T = some oT ∧ T ≠ e ∧ T ≠ it ∧ T ≠ S
theorem EnSt.keep {h h' : Heap} {e it S : Addr} {i : Nat} (x : EnSt h e it S i) (hk : ∀ b o, b ≠ S → h.get? b = some o → h'.get? b = some o) (hS : e ≠ S) : EnSt h' e it S i := by
  rcases x with ⟨z, old, he⟩ | ⟨old, T, f, oT, he, hT, a, b, c⟩
  · exact .inl ⟨z, old, hk _ _ hS he⟩
  · exact .inr ⟨old, T, f, oT, hk _ _ hS he, hk _ _ c hT, a, b, c⟩
/-- the pairs made so far -/
structure Made (its : Array Value) (lo : Addr) (h : Heap) (ts : List Addr) : Prop where
  rise : ts.Pairwise (· < ·)
  above : ∀ a ∈ ts, lo < a
  pairs : ∀ (j : Nat) (a : Addr), ts[j]? = some a → ∃ (t : Tok) (x : Value), its[j]? = some x ∧ h.get? a = some { cls := .type "tuple", data := .seq #[.int (j : Int) t, x] }
theorem Made.there {its : Array Value} {lo : Addr} {h : Heap} {ts : List Addr} (g : Made its lo h ts) {a : Addr} (ha : a ∈ ts) : a < h.objs.size := by
  obtain ⟨j, hj⟩ := List.mem_iff_getElem?.mp ha
  obtain ⟨_, _, _, e⟩ := g.pairs j a hj
  exact Heap.lt_size e
section
variable {prog : Program} {w : World} {A : Around} {E : Value → Shared → Prop} {s : Shared} {R : Result → Shared → Prop} {its : Array Value}
theorem en_item {e it l S : Addr} {i : Nat} {x : Value} {Q : Option Value → Shared → Prop} (hst : EnSt s.heap e it S i) (hS : S < s.heap.objs.size) (hit : s.heap.IsListIter it l i) (hl : s.heap.IsList l its) (hx : its[i]? = some x) (hne : e ≠ it)
    (hQ : ∀ h' t, EnSt h' e it S (i + 1) → h'.IsListIter it l (i + 1) → h'.get? s.heap.objs.size = some { cls := .type "tuple", data := .seq #[.int (i : Int) t, x] } →
      (∀ b o, b ≠ e → b ≠ it → s.heap.get? b = some o → h'.get? b = some o) → Q (some (.ref s.heap.objs.size)) { s with heap := h', toks := s.toks + 1 }) :
    wpAny (model prog w) A (pyNext (.ref e)) Q E s := by
  have hel : ∀ {o : Obj}, s.heap.get? e = some o → s.heap.objs.size ≠ e := fun h => Nat.ne_of_gt (Heap.lt_size h)
  have hil : s.heap.objs.size ≠ it := by
    obtain ⟨_, ho, _⟩ := id hit
    exact Nat.ne_of_gt (Heap.lt_size ho)
  rcases hst with ⟨rfl, old, he⟩ | ⟨old, T, f, oT, he, hT, h1, h2, h3⟩
  · refine wpAny_pyNext_enum_item he hit hl hx hne fun h' ho hit' ht hz hk => hQ h' s.toks (.inr ⟨x, s.heap.objs.size, false, _, ho, ht, hel he, hil, Nat.ne_of_gt hS⟩) hit' ht hk
  · refine wpAny_pyNext_enum_item_held he hT h1 h2 hit hl hx hne fun h' ho hit' ht hz hk => hQ h' s.toks (.inr ⟨old, T, true, oT, ?_, hk _ _ h1 h2 hT, h1, h2, h3⟩) hit' ht hk
    have e1 : ((i + 1 : Nat) : Int) = (i : Int) + 1 := by omega
    rw [e1]
    exact ho
theorem en_done {e it l S : Addr} {i : Nat} {Q : Option Value → Shared → Prop} (hh : A.handled = none) (hst : EnSt s.heap e it S i) (hit : s.heap.IsListIter it l i) (hl : s.heap.IsList l its) (hx : its[i]? = none)
    (hQ : ∀ h', Heap.ExtBut it s.heap h' → Q none { s with heap := h' }) : wpAny (model prog w) A (pyNext (.ref e)) Q E s := by
  rcases hst with ⟨rfl, old, he⟩ | ⟨old, T, f, oT, he, hT, h1, h2, h3⟩
  · exact wpAny_pyNext_enum_end hh he hit hl hx hQ
  · exact wpAny_pyNext_enum_end_held hh he hit hl hx hQ
theorem en_loop {S e it l : Addr} (hh : A.handled = none) (heS : e ≠ S) (hiS : it ≠ S) (hlS : l ≠ S) (hle : l ≠ e) (hli : l ≠ it) (hei : e ≠ it) (heS2 : e < S) (hiS2 : it < S) (hn : its.size ≤ sizeLine) (res : Value) {h1 : Heap}
    (hR : ∀ h' tk acc c ts, (∀ b o, b ≠ S → b ≠ e → b ≠ it → h1.get? b = some o → h'.get? b = some o) → h'.get? S = some { cls := .type "list", dict := none, data := .seq acc c, slots := #[] } → ts.length = its.size → Made its S h' ts →
      acc.toList = ts.map Value.ref → R (.ok (.ret res)) { s with heap := h', toks := tk }) :
    ∀ (k i : Nat) (h : Heap) (tk c : Nat) (acc : Array Value) (ts : List Addr), its.size - i = k → i ≤ its.size → EnSt h e it S i → h.IsListIter it l i → h.IsList l its → (∀ b o, b ≠ S → b ≠ e → b ≠ it → h1.get? b = some o → h.get? b = some o) →
      h.get? S = some { cls := .type "list", dict := none, data := .seq acc c, slots := #[] } → acc.toList = ts.map Value.ref → ts.length = i → Made its S h ts →
      codeAny (model prog w) A (.builtin "list.extend.loop" ⟨[.ref S, .ref e, res], []⟩) R { s with heap := h, toks := tk } := by
  intro k
  induction k with
  | zero =>
    intro i h tk c acc ts hk hi hst hit hl hkeep hS hacc hlen hM
    have hin : i = its.size := by omega
    refine codeAny_builtin PySem.F.entry_extend_loop ?_
    rw [Around.under_plainId PySem.F.plain_extend_loop _]
    show wpAny _ A.in1 (pyNext (.ref e) >>= _) _ _ _
    refine wpAny_bind (en_done (its := its) (s := { s with heap := h, toks := tk }) (A := A.in1) hh hst hit hl (Array.getElem?_eq_none (by omega)) fun h' hx => ?_)
    refine wpAny_pure (hR h' tk acc c ts (fun b o b1 b2 b3 q => hx b o b3 (hkeep b o b1 b2 b3 q)) (hx S _ (Ne.symm hiS) hS) (by omega) ⟨hM.rise, hM.above, fun j a hj => ?_⟩ hacc)
    obtain ⟨t, x, q1, q2⟩ := hM.pairs j a hj
    exact ⟨t, x, q1, hx a _ (Nat.ne_of_gt (Nat.lt_trans hiS2 (hM.above a (List.mem_of_getElem? hj)))) q2⟩
  | succ k ih =>
    intro i h tk c acc ts hk hi hst hit hl hkeep hS hacc hlen hM
    have hlt : i < its.size := by omega
    have hx : its[i]? = some its[i] := Array.getElem?_eq_getElem hlt
    have hsz : acc.size = i := by rw [← Array.length_toList, hacc, List.length_map, hlen]
    have hSl : S < h.objs.size := Heap.lt_size hS
    refine codeAny_builtin PySem.F.entry_extend_loop ?_
    rw [Around.under_plainId PySem.F.plain_extend_loop _]
    show wpAny _ A.in1 (pyNext (.ref e) >>= _) _ _ _
    refine wpAny_bind (en_item (its := its) (s := { s with heap := h, toks := tk }) (S := S) hst hSl hit hl hx hei fun h' t hst' hit' ht hkp => ?_)
    dsimp only at ht hkp ⊢
    have hS' := hkp S _ (Ne.symm heS) (Ne.symm hiS) hS
    have up : ∀ b o, b ≠ S → h'.get? b = some o → (h'.update S (Obj.mapSeq (·.push (Value.ref h.objs.size)))).get? b = some o := fun b o hb q => (Heap.get?_update_other _ _ (Ne.symm hb)).trans q
    show wpAny _ A.in1 (updateSeq S (·.push (Value.ref h.objs.size)) >>= _) _ _ _
    refine wpAny_bind ?_
    refine wpAny_updateSeq hS' rfl (wpAny_pure ⟨plainId_quiet PySem.F.plain_extend_loop _, ih (i + 1) _ (tk + 1) _ (acc.push (Value.ref h.objs.size)) (ts ++ [h.objs.size]) (by omega) hlt (hst'.keep up heS) (hit'.at fun o q => up it o hiS q)
      (hl.at fun o q => up l o hlS (hkp l o hle hli q)) (fun b o b1 b2 b3 q => up b o b1 (hkp b o b2 b3 (hkeep b o b1 b2 b3 q))) (Heap.get?_update_self _ hS' rfl) (by rw [Array.toList_push, hacc, List.map_append]; rfl) (by rw [List.length_append, hlen]; rfl) ⟨?_, ?_, ?_⟩⟩)
      (by rw [hsz]; omega) (by show (acc.push (Value.ref h.objs.size)).size ≤ sizeLine + 1; rw [Array.size_push, hsz]; omega)
    · refine List.pairwise_append.mpr ⟨hM.rise, List.pairwise_singleton _ _, fun a ha b hb => ?_⟩
      rw [List.mem_singleton.mp hb]
      exact hM.there ha
    · intro a ha
      rcases List.mem_append.mp ha with ha | ha
      · exact hM.above a ha
      · rw [List.mem_singleton.mp ha]
        exact hSl
    · intro j b hj
      by_cases hjl : j < ts.length
      · rw [List.getElem?_append_left hjl] at hj
        obtain ⟨t', x', q1, q2⟩ := hM.pairs j b hj
        have hb := hM.above b (List.mem_of_getElem? hj)
        exact ⟨t', x', q1, up b _ (Nat.ne_of_gt hb) (hkp b _ (Nat.ne_of_gt (Nat.lt_trans heS2 hb)) (Nat.ne_of_gt (Nat.lt_trans hiS2 hb)) q2)⟩
      · have ej : j = ts.length := by
          have := (List.getElem?_eq_some_iff.mp hj).1
          rw [List.length_append, List.length_singleton] at this
          omega
        subst ej
        have hb : h.objs.size = b := by simpa using hj
        subst hb
        exact ⟨t, its[i], by rw [hlen]; exact hx, up _ _ (Nat.ne_of_gt hSl) (by rw [hlen]; exact ht)⟩
theorem en_call {e it l : Addr} {Q : Value → Shared → Prop} (hh : A.handled = none) (he : ∃ old, IsEnum s.heap e it 0 old) (hit : s.heap.IsListIter it l 0) (hl : s.heap.IsList l its) (hle : l ≠ e) (hli : l ≠ it) (hei : e ≠ it) (hn : its.size ≤ sizeLine)
    (hQ : ∀ h' tk acc c ts, (∀ b o, b ≠ e → b ≠ it → s.heap.get? b = some o → h'.get? b = some o) → h'.get? s.heap.objs.size = some { cls := .type "list", dict := none, data := .seq acc c, slots := #[] } → ts.length = its.size → Made its s.heap.objs.size h' ts →
      acc.toList = ts.map Value.ref → Q (.ref s.heap.objs.size) { s with heap := h', toks := tk }) :
    wpAny (model prog w) A (call (.type "list") [.ref e]) Q E s := by
  obtain ⟨old, he⟩ := he
  have lte : e < s.heap.objs.size := Heap.lt_size he
  have lti : it < s.heap.objs.size := by obtain ⟨_, ho, _⟩ := id hit; exact Heap.lt_size ho
  have ltl : l < s.heap.objs.size := by obtain ⟨_, ho, _⟩ := id hl; exact Heap.lt_size ho
  refine callType_codes (Q₁ := fun obj s₁ => obj = .ref s.heap.objs.size ∧ s₁ = { s with heap := s.heap.push { cls := .type "list", data := .seq #[] } }) PySem.F.called_list (PySem.F.typeCall_list_1 _) PySem.F.entry_list_init
    (code_list_new _ ⟨rfl, rfl⟩) fun obj s₁ h₁ => ?_
  obtain ⟨rfl, rfl⟩ := h₁
  have hS : (s.heap.push { cls := .type "list", data := .seq #[] }).get? s.heap.objs.size = some { cls := .type "list", data := .seq #[] } := Heap.get?_push_size _ rfl
  refine ⟨⟨_, hS, rfl⟩, PySem.F.args_list_init_2 _ _, ?_⟩
  show wpAny _ _ (do let old ← Builtin.List.listItems (.ref s.heap.objs.size); Builtin.List.listUpdate (.ref s.heap.objs.size) (fun _ => #[]); letGo old.toList.reverse; Builtin.List.listExtendWith (.ref s.heap.objs.size) (.ref e) .none) _ _ _
  refine wpAny_bind ?_
  unfold Builtin.List.listItems
  refine wpAny_bind (wpAny_seqItems hS rfl (wpAny_pure ?_))
  show wpAny _ _ (updateSeq s.heap.objs.size (fun _ => #[]) >>= fun _ => letGo (#[] : Array Value).toList.reverse >>= fun _ => Builtin.List.listExtendWith (.ref s.heap.objs.size) (.ref e) .none) _ _ _
  refine wpAny_bind (wpAny_updateSeq hS rfl ?_)
  have hS2 := Heap.get?_update_self (Obj.mapSeq (fun _ => (#[] : Array Value))) hS rfl
  have k2 : ∀ b o, b ≠ s.heap.objs.size → s.heap.get? b = some o → ((s.heap.push { cls := .type "list", data := .seq #[] }).update s.heap.objs.size (Obj.mapSeq (fun _ => (#[] : Array Value)))).get? b = some o :=
    fun b o hb q => (Heap.get?_update_other _ _ (Ne.symm hb)).trans (Heap.get?_push_of_some _ q)
  generalize (s.heap.push { cls := .type "list", data := .seq #[] }).update s.heap.objs.size (Obj.mapSeq (fun _ => (#[] : Array Value))) = h2 at hS2 k2
  refine wpAny_bind (wpAny_letGo ?_)
  have he2 : IsEnum h2 e it 0 old := k2 e _ (Nat.ne_of_lt lte) he
  have hT : ({ s with heap := h2 } : Shared).TypeIs (.ref e) "enumerate" := ⟨_, he2, rfl⟩
  have key : ∀ (h : Heap) (tk c : Nat), (∀ b o, b ≠ s.heap.objs.size → h2.get? b = some o → h.get? b = some o) → h.get? s.heap.objs.size = some { cls := .type "list", data := .seq #[] c } →
      codeAny (model prog w) A.in1 (.builtin "list.extend.loop" ⟨[.ref s.heap.objs.size, .ref e, .none], []⟩) (fun r s' => match r with | .ok f => f = .ret .none ∧ Q (.ref s.heap.objs.size) s' | .error _ => False) { s with heap := h, toks := tk } := by
    intro h tk c hk hS3
    refine en_loop (A := A.in1) (its := its) (S := s.heap.objs.size) (e := e) (it := it) (l := l) (h1 := s.heap) hh (Nat.ne_of_lt lte) (Nat.ne_of_lt lti) (Nat.ne_of_lt ltl) hle hli hei lte lti hn .none (fun h' tk' acc c' ts a1 a2 a3 a4 a5 => ⟨rfl, ?_⟩) its.size 0 h tk c #[] [] (Nat.sub_zero _) (Nat.zero_le _)
      (.inl ⟨rfl, old, hk e _ (Nat.ne_of_lt lte) he2⟩) (hit.at fun o q => hk it o (Nat.ne_of_lt lti) (k2 it o (Nat.ne_of_lt lti) q)) (hl.at fun o q => hk l o (Nat.ne_of_lt ltl) (k2 l o (Nat.ne_of_lt ltl) q)) (fun b o b1 _ _ q => hk b o b1 (k2 b o b1 q)) hS3 rfl rfl
      ⟨List.Pairwise.nil, (fun _ ha => nomatch ha), fun j a hj => by simp at hj⟩
    exact hQ h' tk' acc c' ts (fun b o b1 b2 q => a1 b o (Nat.ne_of_lt (Heap.lt_size q)) b1 b2 q) a2 a3 a4 a5
  unfold Builtin.List.listExtendWith
  refine wpAny_bind (wpAny_typeOf hT ?_)
  have z1 : Builtin.List.listSameRef (.ref s.heap.objs.size) (.ref e) = false := by simp [Builtin.List.listSameRef, Nat.ne_of_gt lte]
  have z2 : (Value.type "enumerate" == Value.type "list") = false := by decide
  have z3 : (Value.type "enumerate" == Value.type "tuple") = false := by decide
  simp only [z1, z2, z3, Bool.or_false, Bool.false_eq_true, if_false]
  refine wpAny_bind (wpAny_pyIter_enum he2 ?_)
  refine wpAny_bind (wpAny_holding ?_)
  unfold Builtin.List.listLengthHint
  refine wpAny_bind (wpAny_specialOf hT en_nolen ?_)
  show wpAny _ _ (specialOf (Value.ref e) (Str.ofString "__length_hint__") >>= _) _ _ _
  refine wpAny_bind (wpAny_specialOf hT en_nohint ?_)
  refine wpAny_pure ?_
  show wpAny _ _ (rule "list.extend.makes-room" >>= fun _ => Builtin.List.listTouch (.ref s.heap.objs.size) >>= fun _ =>
    again (.builtin "list.extend.loop" ⟨[.ref s.heap.objs.size, .ref e, .none], []⟩)) _ _ _
  refine wpAny_bind (wpAny_rule ?_)
  refine wpAny_bind ?_
  show wpAny _ _ (updateSeq s.heap.objs.size (·.push .none) >>= fun _ => updateSeq s.heap.objs.size (·.pop)) _ _ _
  refine wpAny_bind (wpAny_updateSeq hS2 rfl ?_)
  have hS3 := Heap.get?_update_self (Obj.mapSeq (·.push Value.none)) hS2 rfl
  refine wpAny_updateSeq (hz := by seq_fits) hS3 rfl ?_
  have hS4 := Heap.get?_update_self (Obj.mapSeq (·.pop)) hS3 rfl
  refine wpAny_pure ⟨plainId_quiet PySem.F.plain_extend_loop _, ?_⟩
  refine codeAny_mono (key _ s.toks _ (fun b o hb q => (Heap.get?_update_other _ _ (Ne.symm hb)).trans ((Heap.get?_update_other _ _ (Ne.symm hb)).trans q)) hS4) fun r s' hr => ?_
  cases r with
  | ok f =>
    obtain ⟨rfl, q⟩ := hr
    exact ⟨rfl, q⟩
  | error x => exact hr.elim
end
end Mir
namespace Mir
open PySem PySem.Calls PySem.Spec PyProof.Rows L2
/-! ## .. as a rule of the layer -/
def putE : Hp → Nat → List Addr → List V → Hp
  | H, i, a :: as, x :: xs => putE (upd H a (.tup [.int (i : Int), x])) (i + 1) as xs
  | H, _, _, _ => H
theorem putE_off {b : Addr} : ∀ (as : List Addr) (xs : List V) (H : Hp) (i : Nat), b ∉ as → putE H i as xs b = H b
  | [], _, _, _, _ => rfl
  | _ :: _, [], _, _, _ => rfl
  | a :: as, x :: xs, H, i, h => by
    show putE (upd H a (.tup [.int (i : Int), x])) (i + 1) as xs b = H b
    rw [putE_off as xs _ _ (fun z => h (List.mem_cons_of_mem _ z)), upd_ne (fun z => h (by rw [z]; exact List.mem_cons_self))]
theorem putE_at : ∀ (as : List Addr) (xs : List V) (H : Hp) (i j : Nat) (a : Addr) (x : V), as.Nodup → as[j]? = some a → xs[j]? = some x → putE H i as xs a = some (.tup [.int ((i + j : Nat) : Int), x])
  | [], _, _, _, _, _, _, _, h, _ => by simp at h
  | _ :: _, [], _, _, _, _, _, _, _, h => by simp at h
  | b :: as, y :: xs, H, i, 0, a, x, hn, h1, h2 => by
    have e1 : b = a := by simpa using h1
    have e2 : y = x := by simpa using h2
    subst e1 e2
    show putE (upd H b (.tup [.int (i : Int), y])) (i + 1) as xs b = _
    rw [putE_off as xs _ _ (List.nodup_cons.mp hn).1, upd_same]
    rfl
  | b :: as, y :: xs, H, i, j + 1, a, x, hn, h1, h2 => by
    have z := putE_at as xs (upd H b (.tup [.int (i : Int), y])) (i + 1) j a x (List.nodup_cons.mp hn).2 (by simpa using h1) (by simpa using h2)
    have e : i + 1 + j = i + (j + 1) := by omega
    rw [e] at z
    exact z
def rEnumL (K : PySem.W.Frag) : V → Hp → VK → Prop := fun x H Q => ∃ (a : Addr) (xs : List V), x = .ref a ∧ SqL K H a xs ∧
  ∀ (H' : Hp) (p : Addr) (ts : List Addr), (∀ b o, H b = some o → H' b = some o) → H p = none → H' p = some (.lst (ts.map V.ref)) → ts.length = xs.length → (∀ (i : Nat) (t : Addr) (x : V), ts[i]? = some t → xs[i]? = some x → H' t = some (.tup [.int (i : Int), x])) → Q (.ref p) H'
def tListEnum (K : PySem.W.Frag) (te : TE) : TE := fun σ H Q => te σ H fun x H1 => rEnumL K x H1 Q
theorem vals_refs2 : ∀ as : List Addr, Vals (as.map V.ref) (as.map Value.ref)
  | [] => .nil
  | _ :: as => .cons rfl (vals_refs2 as)
section
variable {X : Cx} {e : Expr} {te : TE} {p q1 q2 pos pos1 : Pos}
theorem enum_laid {pins : List (Addr × Obj)} {σ : L2.St} {H : Hp} {s : Shared} {h' : Heap} {tk : Nat} {xs : List V} {its : Array Value} {acc : Array Value} {c : Nat} {S : Addr} {ts : List Addr} (I : Inv X pins σ H s) (hz : xs.length ≤ sizeLine) (rv : Vals xs its.toList)
    (hk : ∀ b o, s.heap.get? b = some o → h'.get? b = some o) (hSz : s.heap.objs.size ≤ S) (hS : h'.get? S = some { cls := .type "list", dict := none, data := .seq acc c, slots := #[] }) (hl : ts.length = its.size) (hM : Made its S h' ts) (hacc : acc.toList = ts.map Value.ref) :
    ∃ H' : Hp, (∀ b o, H b = some o → H' b = some o) ∧ H S = none ∧ H' S = some (.lst (ts.map V.ref)) ∧ ts.length = xs.length ∧ (∀ (i : Nat) (t : Addr) (x : V), ts[i]? = some t → xs[i]? = some x → H' t = some (.tup [.int (i : Int), x])) ∧ Inv X pins σ H' { s with heap := h', toks := tk } := by
  have lx : xs.length = its.size := by rw [rv.length, Array.length_toList]
  have nd : ts.Nodup := List.Pairwise.imp (fun {a b} (h : a < b) => Nat.ne_of_lt h) hM.rise
  have hSn : S ∉ ts := fun z => Nat.lt_irrefl _ (hM.above _ z)
  have big : ∀ t ∈ ts, s.heap.objs.size ≤ t := fun t ht => Nat.le_of_lt (Nat.lt_of_le_of_lt hSz (hM.above t ht))
  have new : ∀ t ∈ ts, H t = none := fun t ht => I.hok.fresh (big t ht)
  have newS : H S = none := I.hok.fresh hSz
  have atP := fun (j : Nat) (a : Addr) (x : V) h1 h2 => putE_at ts xs (upd H S (.lst (ts.map V.ref))) 0 j a x nd h1 h2
  have off : ∀ b, b ∉ ts → b ≠ S → putE (upd H S (.lst (ts.map V.ref))) 0 ts xs b = H b := fun b h1 h2 => by rw [putE_off ts xs _ _ h1, upd_ne h2]
  have low : ∀ b o, s.heap.get? b = some o → b ∉ ts ∧ b ≠ S := fun b o g => ⟨fun z => absurd (Heap.lt_size g) (Nat.not_lt.mpr (big b z)), fun z => absurd (Heap.lt_size g) (Nat.not_lt.mpr (by rw [z]; exact hSz))⟩
  have kp : ∀ b u, H b = some u → putE (upd H S (.lst (ts.map V.ref))) 0 ts xs b = some u := fun b u g => by
    rw [off b (fun z => by rw [new b z] at g; cases g) (fun z => by rw [z, newS] at g; cases g)]
    exact g
  have eS : putE (upd H S (.lst (ts.map V.ref))) 0 ts xs S = some (.lst (ts.map V.ref)) := by rw [putE_off ts xs _ _ hSn, upd_same]
  refine ⟨putE (upd H S (.lst (ts.map V.ref))) 0 ts xs, kp, newS, eS, by omega, fun i t x h1 h2 => ?_, ?_⟩
  · have z := atP i t x h1 h2
    rw [Nat.zero_add] at z
    exact z
  · refine I.call' (ch := []) rfl ⟨fun b o g _ _ _ => hk b o g, fun b o g _ _ _ => ⟨o.slots, hk b o g⟩, fun b o g n _ => ?_, fun b o g _ => ⟨o, hk b o g⟩, fun b ys g => kp b _ g, fun b o u g => kp b _ g, fun b ps g => ⟨#[], by rw [kp b _ g]; simp⟩⟩ (fun b u g => ?_) I.bare fun b z => by simp at z
    · obtain ⟨z1, z2⟩ := low b o g
      rw [off b z1 z2]
      exact n
    · by_cases hb : b ∈ ts
      · obtain ⟨j, hj⟩ := List.mem_iff_getElem?.mp hb
        have hjl : j < ts.length := (List.getElem?_eq_some_iff.mp hj).1
        have hx : xs[j]? = some (xs[j]'(by omega)) := List.getElem?_eq_getElem (by omega)
        have z := atP j b _ hj hx
        rw [z] at g
        cases g
        obtain ⟨t, y, g1, g2⟩ := hM.pairs j b hj
        obtain ⟨u, h1, h2⟩ := rv.get hx
        rw [← Array.getElem?_toList, h1] at g1
        cases g1
        refine ⟨by show 2 ≤ sizeLine; decide, [.int (j : Int) t, y], .cons ⟨t, by rw [Nat.zero_add]⟩ (.cons h2 .nil), ⟨_, g2, rfl, _, rfl⟩⟩
      · by_cases hb2 : b = S
        · rw [hb2] at g ⊢
          rw [eS] at g
          cases g
          refine ⟨by rw [List.length_map]; omega, acc.toList, c, by rw [hacc]; exact vals_refs2 ts, ?_⟩
          rw [Array.toArray_toList]
          exact hS
        · rw [off b hb hb2] at g
          exact (I.hok b u g).stay (fun d v _ y => hk d v y) (fun d y => kp d _ y) fun d ys y => kp d _ y
/-- list(enumerate(e)) -/
theorem pe_listEnum (hc : X.calm = true) (hg : Gl X "list") (hm : X.mg "list" = none) (hg2 : Gl X "enumerate") (hm2 : X.mg "enumerate" = none) (he : PE X e te)
    (hs : starEach [.Call (.Name "enumerate" q1) [e] [] pos1] X.env = (false, eval (.Call (.Name "enumerate" q1) [e] [] pos1) X.env) :: starEach [] X.env := by rfl)
    (hs2 : starEach [e] X.env = [(false, eval e X.env)] := by rfl) (hs3 : starEach [e] X.env = (false, eval e X.env) :: starEach [] X.env := by rfl) :
    PE X (.Call (.Name "list" p) [.Call (.Name "enumerate" q1) [e] [] pos1] [] pos) (tListEnum X.K te) := by
  refine ⟨fun pins s σ H Q I hq => ?_⟩
  refine wpAny_Call_Name_kw (ld_blt I hg hm boot_list ?_)
  refine PyProof.Rows.callWith_type1 ?_ hs rfl
  rw [hs]
  show wpAny _ _ (spliced ((false, eval (.Call (.Name "enumerate" q1) [e] [] pos1) X.env) :: backTo pos (starEach [] X.env))) _ _ s
  refine Calls.spliced_cons ?_
  have ha : PA X [e] (tCons te tNil) := pa_cons he pa_nil hs3
  refine Call_ (ld_blt I hg2 hm2 boot_enumerate (PyProof.Rows.callWith_type1 (thn (ha.run pos1 pins s σ H (fun vs H1 => ∃ x, vs = [x] ∧ rEnumL X.K x H1 Q) I (by
    refine (?_ : te σ H fun x H1 => ∃ x', [x] = [x'] ∧ rEnumL X.K x' H1 Q)
    have hq2 : te σ H fun x H1 => rEnumL X.K x H1 Q := hq
    have ef : (fun x H1 => rEnumL X.K x H1 Q) = (fun (x : V) (H1 : Hp) => ∃ x', [x] = [x'] ∧ rEnumL X.K x' H1 Q) := by
      funext x H1
      refine propext ⟨fun h => ⟨x, rfl, h⟩, fun ⟨x', h1, h2⟩ => ?_⟩
      cases h1
      exact h2
    rw [← ef]
    exact hq2)) fun us s1 ⟨vs, H1, I1, r1, x, ev, a, xs, ex, hS, k⟩ => ?_) hs2 rfl))
  subst ev
  cases r1 with
  | cons rx rn =>
    cases rn
    subst ex
    cases rx
    obtain ⟨its, rv, pl, hz⟩ := I1.list hS
    have lx := rv.length
    have ltl : a < s1.heap.objs.size := by
      obtain ⟨o, n, g, _⟩ := id pl
      exact Heap.lt_size g
    refine call_enumerate_list pl.isList fun h1 he1 hit1 hsz1 hk1 => ?_
    refine Calls.spliced_nil ?_
    have hl1 : h1.IsList a its.toArray := pl.isList.at fun o g => hk1 a o g
    refine en_call (its := its.toArray) (s := { s1 with heap := h1 }) (I1.ok.hd hc) ⟨_, he1⟩ hit1 hl1 (Nat.ne_of_lt (Nat.lt_succ_of_lt ltl)) (Nat.ne_of_lt ltl) (Nat.succ_ne_self _) (by rw [List.size_toArray]; omega) fun h' tk acc c ts a1 a2 a3 a4 a5 => ?_
    have hkall : ∀ b o, s1.heap.get? b = some o → h'.get? b = some o := fun b o g => a1 b o (Nat.ne_of_lt (Nat.lt_succ_of_lt (Heap.lt_size g))) (Nat.ne_of_lt (Heap.lt_size g)) (hk1 b o g)
    obtain ⟨H', k1, k2, k3, k4, k5, J⟩ := enum_laid (tk := tk) (S := h1.objs.size) I1 hz (by simpa using rv) hkall (by rw [hsz1]; exact Nat.le_add_right _ _) a2 a3 a4 a5
    exact ⟨.ref _, H', J, rfl, k H' _ ts k1 k2 k3 k4 k5⟩
end
end Mir
namespace Mir
open PySem PySem.Spec PyProof.Rows L2
/-! ## a def run where something is known of what is around (here: that no repr is under way) -/
section
variable {P : Program} {w : World} {K : PySem.W.Frag} {mg : Str → Option Value} {base : Heap} {x qual : Str} {params : Arguments} {body : List Stmt} {scope : Scope} {dvs : List V} {kws : List (Str × V)} {f : Addr} {fd : FuncData}
def RunAt (P : Program) (w : World) (K : PySem.W.Frag) (mg : Str → Option Value) (base : Heap) (CX : CXT) (f : Addr) (fd : FuncData) (ps : List Str) (sp : Sp) (A : Around) : Prop :=
  ∀ (outer : List Env) (s : Shared) (H : Hp) (args : Args) (us : List Value) (vs : List V) (Q : VK) (E : XK), Env0 P w K mg base A outer s H → BindsTo s fd args (ps.zip us) → Vals vs us → sp vs H Q E →
    codeAny (model P w) A (.call (.ref f) args) (CR CX outer P w H s Q E) s
theorem FunD.runAt {CX : CXT} {N ps : List Str} {k : Nat} {sp : Sp} {A : Around} (F : FunD K x qual params body scope dvs kws f fd) (S : FnScope N ps scope) (hr : Room (k + 1) A) (len : ∀ vs H Q E, sp vs H Q E → vs.length = ps.length)
    (hbody : ∀ (cdv : Value) (outer : List Env) (s : Shared) (H : Hp) (vs : List V) (Q : VK) (E : XK), sp vs H Q E →
      ∃ t, PSs (cxOf CX P w K mg base N qual scope f cdv A outer s H E) body t ∧ t { nx := fun _ H' => Q .non H', rt := Q } (start N vs) H) : RunAt P w K mg base CX f fd ps sp A := by
  intro outer s H args us vs Q E e0 hb r hsp
  obtain ⟨oc, od, dV, kV, doc, pm, an, cdv, ct, osl, hfd, lk, hcd, _, _⟩ := F.ex
  subst hfd
  have old : ∀ b o, base.get? b = some o → s.heap.get? b = some o := fun b o e => (e0.bs b o e).1
  have KX : K.In s.heap := e0.mod.kin.keeps old
  have par : ∀ y ∈ ps.zip us, scope.names.lookup y.1 = some .local ∨ (scope.names.lookup y.1 = some .cell ∧ ((cellsFrom (s.heap.objs.size + 1) scope.names []).lookup y.1).isSome = true) := fun y hy =>
    (S.par y.1 (List.of_mem_zip hy).1).imp id fun q => ⟨q, PySem.W.cellsFrom_some _ _ _ (.inl q)⟩
  refine codeAny_call_function hr.depth (KX _ _ lk) rfl S.co S.gen rfl (PySem.W.codeRec_of KX hcd) (hb _ _ _ _ ?_)
  refine wpAny_newFunctionEnv_cells S.kind par fun env he s1 z => ?_
  subst he
  refine ⟨(e0.mod.nolimit.keeps old).keeps z.toInCall.keep, codeAny_func ?_⟩
  obtain ⟨t, ht, hq⟩ := hbody cdv outer s H vs Q E hsp
  refine wpAny_mono (ht.run [] s1 (start N vs) H _ (inv_start S hr.hd e0 (len _ _ _ _ hsp) r z) hq) (fun fl s' hs => ?_) fun e s' hs => hs
  cases fl with
  | next =>
    obtain ⟨σ', H', J, q⟩ := hs
    exact (show CE outer P w H s Q Value.none s' from ⟨.non, H', J.os, J.bare, J.base, J.hok, rfl, q⟩)
  | ret u =>
    obtain ⟨v, σ', H', J, rv, q⟩ := hs
    exact (show CE outer P w H s Q u s' from ⟨v, H', J.os, J.bare, J.base, J.hok, rv, q⟩)
  | brk => exact False.elim (let ⟨_, _, _, q⟩ := hs; q)
  | cont => exact False.elim (let ⟨_, _, _, q⟩ := hs; q)
end
/-! ## the end of the law, run where its caller stands -/
section
variable {P : Program} {w : World} {K : PySem.W.Frag} {mg mb : Str → Option Value} {a fa : Addr} {s₁ : Shared} {vs : List Value} {ns : List Int}
/-- an abstract heap for the script: tracked, where the written part does not hold it -/
theorem script_heap (KX : K.In s₁.heap) (ha : s₁.heap.get? a = some { cls := .type "list", data := .seq vs.toArray }) (hi : IntsAre vs ns) (hl : ns.length ≤ sizeLine) :
    ∃ H : Hp, Only H ∧ SqL K H a (ns.map V.int) ∧ HOk P w H s₁.heap ∧ ∀ b, H b ≠ none → b = a ∧ K.lookup a = none := by
  have rv := vals_ints hi
  have lenV := hi.length
  by_cases hk : K.lookup a = none
  · refine ⟨fun b => if b = a then some (.frz { cls := .type "list", data := .seq vs.toArray } (.lst (ns.map V.int))) else none, fun b => ?_, .inl (.inr ⟨{ cls := .type "list", data := .seq vs.toArray }, if_pos rfl⟩), fun b u z => ?_, fun b z => ?_⟩
    · by_cases e : b = a
      · exact .inr ⟨_, _, if_pos e⟩
      · exact .inl (if_neg e)
    · by_cases e : b = a
      · have z' := (if_pos e).symm.trans z
        cases z'
        subst e
        exact ⟨ha, by rw [List.length_map]; exact hl, vs, _, rv, ha⟩
      · have z' := (if_neg e).symm.trans z
        cases z'
    · by_cases e : b = a
      · exact ⟨e, hk⟩
      · exact absurd (if_neg e) z
  · cases e : K.lookup a with
    | none => exact absurd e hk
    | some o =>
      have g := KX a o e
      rw [ha] at g
      cases g
      exact ⟨fun _ => none, fun _ => .inl rfl, .inr ⟨_, vs.toArray, _, e, rfl, rfl, rfl, by rw [List.size_toArray, lenV]; exact hl, by simpa using rv⟩, fun b u z => (show False by cases (show (none : Option HO) = some u from z)).elim, fun b z => absurd rfl z⟩
theorem law_at {fd : FuncData} {x : Str} {sp : Sp} (KX : K.In s₁.heap) (hns : s₁.heap.Ns mainGlobals mg) (hb : s₁.heap.Ns builtinsNs mb) (hbb : ∀ x : Str, x ≠ "__name__" → mb x = bootBuiltins x) (hlim : s₁.heap.NoLimit) (hg : s₁.gens = #[])
    (ha : s₁.heap.get? a = some { cls := .type "list", data := .seq vs.toArray }) (hi : IntsAre vs ns) (hl : ns.length ≤ sizeLine)
    (F : ∀ base : Heap, K.In base → base.Ns mainGlobals mg → RunAt P w K mg base CX0 fa fd [x] sp callerA) (hbind : ∀ (s : Shared) (u : Value), BindsTo s fd ⟨[u], []⟩ [(x, u)])
    (hsp : ∀ H : Hp, Only H → SqL K H a (ns.map V.int) → sp [.ref a] H (fun v _ => v = .bl true) fun _ _ _ => False) :
    codeAny (model P w) callerA (.call (.ref fa) ⟨[.ref a], []⟩) (fun r s' => r = .ok (.ret (.bool true)) ∧ OldK s₁.heap s'.heap ∧ s'.os = s₁.os ∧ AllBare s'.gens) s₁ := by
  obtain ⟨H, hO, hS, hok, hA⟩ := script_heap (P := P) (w := w) KX ha hi hl
  have noA : ∀ {b : Addr} {o : Obj} {es : Array DictEntry} {ep : Nat}, s₁.heap.get? b = some o → o.data = .dict es ep → H b = none := fun {b o es ep} e d => by
    cases q : H b with
    | none => rfl
    | some u =>
      obtain ⟨e', _⟩ := hA b (by rw [q]; exact Option.some_ne_none u)
      subst e'
      rw [ha] at e
      cases e
      exact absurd d (fun z => nomatch z)
  have nsK : ∀ {b : Addr} {m : Str → Option Value}, s₁.heap.Ns b m → (hidT s₁.heap H).Ns b m := fun {b m} ⟨o, es, ep, e, d, r⟩ => ⟨o, es, ep, hidT_get e (noA e d), d, r⟩
  have hKb : K.In (hidT s₁.heap H) := fun b o e => hidT_get (KX b o e) (by
    cases q : H b with
    | none => rfl
    | some u =>
      obtain ⟨e', n⟩ := hA b (by rw [q]; exact Option.some_ne_none u)
      subst e'
      rw [n] at e
      cases e)
  obtain ⟨mc, l1, l2⟩ := hlim
  have e0 : Env0 P w K mg (hidT s₁.heap H) callerA [] s₁ H := ⟨rfl, ⟨hKb, nsK hns, ⟨mb, nsK hb, hbb⟩, ⟨mc, nsK l1, l2⟩⟩, fun b o e => of_hidT e, Nat.le_of_eq (hidT_size _ _), trivial, fun b hb => absurd (show b ∈ ([] : List Addr) from hb) (by simp), hok, .of_eq hg⟩
  refine codeAny_mono (F _ hKb (nsK hns) [] s₁ H ⟨[.ref a], []⟩ [.ref a] [.ref a] _ _ e0 (hbind s₁ (.ref a)) (.cons rfl .nil) (hsp H hO hS)) fun r s' h => ?_
  cases r with
  | error e => exact False.elim (show False from h)
  | ok fl =>
    cases fl with
    | next => exact False.elim h
    | brk => exact False.elim h
    | cont => exact False.elim h
    | ret u =>
      obtain ⟨v, H', os, bare, un, hok', r', q⟩ := h
      obtain rfl : v = .bl true := q
      obtain rfl : u = Value.bool true := r'
      refine ⟨rfl, OldK.of_keep fun b o e => ?_, os, bare⟩
      rcases hO b with z | ⟨ob, xs, z⟩
      · exact un.keep b o e z (by intro z; exact absurd (show b ∈ ([] : List Addr) from z) (by simp)) (by simp)
      · obtain ⟨e1, _⟩ := hok b _ z
        obtain ⟨e2, _⟩ := hok' b _ (un.frzs b ob _ z)
        rw [e] at e1
        cases e1
        exact e2
end
theorem walk_at {l : PySem.W.OpenLaw} {n : Nat} {q : Program} {loose : List Str} {XP : (Str → Option Value) → Heap → Prop} {YP : World → Heap → Prop} {d : DefRec} {x : Str}
    (hn : l.most = some n) (hn2 : n ≤ sizeLine) (hdf : d.params.defaults = [])
    (F : ∀ (w : World) (mg : Str → Option Value) (fa : Addr) (h : Heap), YP w h → h.Ns mainGlobals mg → mg d.name = some (.ref fa) →
      ∃ (K : PySem.W.Frag) (fd : FuncData) (sp : Sp), K.In h ∧ (∀ (s : Shared) (u : Value), BindsTo s fd ⟨[u], []⟩ [(x, u)]) ∧
        (∀ (H : Hp) (a : Addr) (ns : List Int), ns.length ≤ n → Only H → SqL K H a (ns.map V.int) → sp [.ref a] H (fun v _ => v = .bl true) fun _ _ _ => False) ∧
        ∀ base : Heap, K.In base → base.Ns mainGlobals mg → RunAt l.prog w K mg base CX0 fa fd [x] sp callerA) :
    PySem.W.WalkO q loose XP YP l.row.toRowW d [] (fun f vs => PySem.call f vs) := by
  refine Att.attach_call hn hdf fun w s₀ s₁ mg mb fa o pm cd doc a vs ns G Y ho hd hcd hmg hobj hints hlen hg => ?_
  obtain ⟨K, fd, sp, KX, hb, hsp, hF⟩ := F w mg fa _ Y G.T.g hmg
  exact law_at KX G.T.g G.T.b G.T.builtins G.T.nolimit hg hobj hints (Nat.le_trans hlen hn2) hF hb fun H hO hS => hsp H a ns hlen hO hS
end Mir
namespace Mir
open PySem PySem.Spec PyProof.Rows L2 Evl
/-! ## except (A, B, C): all that comes is one of them -/
def w3 (K : PySem.W.Frag) (c1 c2 c3 : Value) (ts : TS) (D : Ends) : WX := fun cls _ σ H => PySem.W.exmAny K cls [c1, c2, c3] = some true ∧ ts D σ H
theorem flying_more {B : Heap} {l : List Env} {a : Addr} {Z : Obj → Prop} {h h' : Heap} (k : ∀ b o, h.get? b = some o → h'.get? b = some o) (f : HandSPX.FlyingZ B l a Z h) : HandSPX.FlyingZ B l a Z h' := by
  obtain ⟨f1, f2, f3, oe, vs, T, oT, ts, g1, g2, g3, g4, g5, g6, g7, g8⟩ := f
  exact ⟨fun b o e => k b o (f1 b o e), f2, f3.of_keeps fun b o e _ => ⟨o, k b o e, rfl⟩, oe, vs, T, oT, ts, k _ _ g1, g2, g3, g4, g5, g6, k _ _ g7, g8⟩
section
variable {X : Cx} {x1 x2 x3 : Str} {c1 c2 c3 : Value} {body suite : List Stmt} {b₀ : Stmt} {p1 p2 p3 tpos pos pos' : Pos} {kk : Nat} {tb : WX → TS} {ts : TS}
theorem ps_try3 (hs : X.stack = X.env :: X.outer) (hf : X.env.frame = some X.env.locals) (n1 : Names X x1 c1) (n2 : Names X x2 c2) (n3 : Names X x3 c3)
    (hb : ∀ (W : WX) (pn : List (Addr × Obj)) (xe : Value → Shared → Prop), Takes (X.tr pn xe) W → PassesOwn (model X.prog X.w) X.A X.env xe → PSs (X.tr pn xe) body (tb W))
    (hsu : ∀ (a : Addr) (oe : Obj) (pn : List (Addr × Obj)), PSs (X.suite a ((a, oe) :: pn)) (b₀ :: suite) ts) :
    PS X (.Try body [.ExceptHandler (some (.Tuple [.Name x1 p1, .Name x2 p2, .Name x3 p3] kk tpos)) none (b₀ :: suite) pos'] [] [] pos) (fun D σ H => tb (w3 X.K c1 c2 c3 ts D) D σ H) := by
  refine ⟨fun pins s σ H D I h => ?_⟩
  have ok := I.ok
  have hfr : X.A.frames = some (X.env :: X.outer) := by rw [ok.frames, hs]
  refine wpAny_Try_except ?_
  refine wpAny_mono ((hb (w3 X.K c1 c2 c3 ts D) (X.pn ++ pins) (fun e s₁ => wpAny (model X.prog X.w) X.A (noteFrame e X.env) (fun _ s₂ => wpAny (model X.prog X.w) X.A (setFlight e none) (fun _ s₃ =>
    wpAny (model X.prog X.w) X.A (handleBy e X.env _) (SP X pins D) X.xe s₃) X.xe s₂) X.xe s₁) (fun u s' xx => ?_) PassesOwn.looking).run [] s σ H D (I.toTry _) h) (fun f s1 hsp => ?_) (fun e s1 he => he)
  · obtain ⟨a, B, sI, pins', σ', H', cls, d, rfl, J', nb, up, sky, na, os, ag, hyes, hgo⟩ := xx
    have J : Inv X pins σ' H' sI := J'.ofTry ok
    have sky' : Sky B (X.env :: X.outer) a (Zc cls d) X.env.locals s'.heap := by rw [← hs]; exact sky
    show wpAny (model X.prog X.w) X.A (noteFrame (.ref a) X.env) _ _ _
    refine Sky.land Zc.steady hfr hf sky' fun h3 fl3 up3 => ?_
    have J3 : Inv X pins σ' H' { s' with heap := h3 } := J.landed nb fl3.1 (up.trans up3) os ag
    obtain ⟨oe3, vs3, he3, hz3, hd3⟩ := fl3.there
    have away : ∀ {h : Heap} {o : Obj} {vs : Array Value}, h.FunFrames B (X.env :: X.outer) → h.get? a = some o → o.data = .fields vs → a ≠ X.env.locals ∧ a ∉ X.fs := fun {h o vs} ff e dd => by
      have nf : a ∉ frs (X.env :: X.outer) := fun hm => by
        obtain ⟨_, o', e', hnf⟩ := ff.mem hm
        rw [e] at e'
        cases e'
        exact hnf _ dd
      refine ⟨fun z => nf (List.mem_filterMap.mpr ⟨X.env, List.mem_cons_self, by rw [hf, z]⟩), fun hm => ?_⟩
      obtain ⟨e, he, q⟩ := List.mem_filterMap.mp hm
      exact nf (List.mem_filterMap.mpr ⟨e, List.mem_cons_of_mem _ he, q⟩)
    obtain ⟨nL, nF⟩ := away fl3.2.2.1 he3 hd3
    have S3 := J3.suite he3 hd3 na nL nF
    refine wpAny_handleBy_cons (codeAny_handlers_test ?_) (by intro q; cases q)
    have name : ∀ {x : Str} {c : Value} {np : Pos} {Q E : Value → Shared → Prop}, Names X x c → Q c { s' with heap := h3 } → wpAny (model X.prog X.w) (X.A.mark (some (.ref a))) (eval (.Name x np) X.env) Q E { s' with heap := h3 } := fun {x c np Q E} hc q => by
      obtain ⟨hg, hdbg, hm | ⟨hm, hv, hnn⟩⟩ := hc
      · exact ld_glob (X := X.suite a ((a, oe3) :: (X.pn ++ pins))) S3 hg hm q hdbg
      · exact ld_blt (X := X.suite a ((a, oe3) :: (X.pn ++ pins))) S3 hg hm hv q hnn hdbg
    refine wpAny_Tuple ?_
    refine wpAny_items_cons (name n1 ?_)
    refine wpAny_items_cons (name n2 ?_)
    refine wpAny_items_cons (name n3 ?_)
    refine wpAny_items_nil ⟨by size_fits, ?_⟩
    have kp : ∀ q o, h3.get? q = some o → (h3.push { cls := .type "tuple", data := .seq [c1, c2, c3].toArray }).get? q = some o := fun _ _ z => Heap.get?_push_of_some _ z
    have LT : PySem.W.Looks (model X.prog X.w) (h3.push { cls := .type "tuple", data := .seq [c1, c2, c3].toArray }) (typeOf (.ref a)) cls := fun A Q E s k q => wpAny_typeOf_ref (k _ _ (kp _ _ he3)) (by rw [hz3.1]; exact q)
    refine (PySem.W.exm_tup3 (M := model X.prog X.w) (J3.kIn.keeps kp) LT (Heap.get?_push_size h3 rfl) hyes).here ?_
    refine codeAny_handlers_suite ?_
    refine HandSPX.lands_againZ (flying_more kp fl3) fun h4 fl4 up4 => ?_
    have J4 : Inv X pins σ' H' { s' with heap := h4 } := J.landed nb fl4.1 (((up.trans up3).trans (Heap.UpToSlots.of_keeps kp)).trans up4) os ag
    obtain ⟨oe4, vs4, he4, hz4, hd4⟩ := fl4.there
    have S4 := J4.suite he4 hd4 na nL nF
    refine wpAny_mono ((hsu a oe4 (X.pn ++ pins)).run [] _ _ H' _ S4 hgo) (fun f s6 hsp => ?_) (fun _ _ z => False.elim z)
    cases f with
    | next =>
      obtain ⟨σ6, H6, S6, q6⟩ := hsp
      exact ⟨_, _, S6.unsuite ok, q6⟩
    | brk =>
      obtain ⟨σ6, H6, S6, q6⟩ := hsp
      exact ⟨_, _, S6.unsuite ok, q6⟩
    | cont =>
      obtain ⟨σ6, H6, S6, q6⟩ := hsp
      exact ⟨_, _, S6.unsuite ok, q6⟩
    | ret u =>
      obtain ⟨v6, σ6, H6, S6, r6, q6⟩ := hsp
      exact ⟨_, _, _, S6.unsuite ok, r6, q6⟩
  · cases f with
    | next =>
      obtain ⟨σ', H', J', q⟩ := hsp
      exact wpAny_execs_nil ⟨σ', H', J'.ofTry ok, q⟩
    | brk =>
      obtain ⟨σ', H', J', q⟩ := hsp
      exact ⟨σ', H', J'.ofTry ok, q⟩
    | cont =>
      obtain ⟨σ', H', J', q⟩ := hsp
      exact ⟨σ', H', J'.ofTry ok, q⟩
    | ret u =>
      obtain ⟨v, σ', H', J', r, q⟩ := hsp
      exact ⟨v, σ', H', J'.ofTry ok, r, q⟩
end
/-! ## repr of lists of numbers and bools at any depth, where no repr is under way -/
def rRepr (K : PySem.W.Frag) : List V → Hp → VK → Prop := fun xs H Q => ∃ (a : Addr) (d : PyData), xs = [.ref a] ∧ Dp K H (.ref a) d ∧ d.showable = true ∧ d.hasDict = false ∧ d.depth ≤ 50 ∧ d.shown.length ≤ sizeLine ∧ Q (.str d.shown) H
theorem call_reprD {X : Cx} (hg : X.A.guards = some []) (hu : X.A.units + 64 < cLine) : CallR X (.builtin "repr") (rRepr X.K) := by
  intro pins s σ H xs us Q I r h
  obtain ⟨a, d, rfl, hd, h1, h2, h3, h4, q⟩ := h
  obtain ⟨u, rfl, ru⟩ := vals1 r
  obtain ⟨as, rd⟩ := Dp.reads I d (.ref a) u hd ru
  obtain rfl : u = Value.ref a := ru
  exact repr_of_reads' rd h1 (fun z => by rw [h2] at z; cases z) hg (by omega) (fun _ _ e => e) (fun h' u tk k => ⟨.str d.shown, H, I.kept k, ⟨u, rfl⟩, q⟩) h4
end Mir
namespace Mir
open PySem PySem.Spec PyProof.Rows L2 Evl
open C8 (Cal pe_c)
/-! ## the law's own defs -/
/-- all but what stands at p is kept -/
def Keep (p : Addr) (H H' : Hp) : Prop := ∀ b o, b ≠ p → H b = some o → H' b = some o
theorem Keep.refl (p : Addr) (H : Hp) : Keep p H H := fun _ _ _ h => h
theorem Keep.trans {p : Addr} {H H1 H2 : Hp} (a : Keep p H H1) (b : Keep p H1 H2) : Keep p H H2 := fun c o n h => b c o n (a c o n h)
theorem Keep.of {p : Addr} {H H' : Hp} (e : Ex H H') : Keep p H H' := fun b o _ h => e b o h
theorem Keep.upd {p : Addr} {H H' : Hp} {o : HO} (e : Keep p H H') : Keep p H (upd H' p o) := fun b u n h => by
  rw [upd_ne n]
  exact e b u n h
/-- what was before p is kept -/
theorem Keep.ex {p : Addr} {H0 H H' : Hp} (e : Ex H0 H) (h : H0 p = none) (k : Keep p H H') : Ex H0 H' := fun b o g => k b o (ne_of_none g h) (e b o g)
def Hand (H : Hp) (p : Addr) : Prop := ∃ d m : Int, H p = some (.lst [.int d, .int m]) ∧ 0 ≤ d ∧ 0 ≤ m ∧ m < 2147483563
theorem Hand.mono {H H' : Hp} {p : Addr} (h : Hand H p) (e : Ex H H') : Hand H' p := by
  obtain ⟨d, m, h1, h2⟩ := h
  exact ⟨d, m, e p _ h1, h2⟩
def spHand : Sp := fun vs H Q _ => ∃ (c : Int) (k : Nat), vs = [.int c, nI k] ∧ k ≤ 100 ∧ ∀ p H2, H p = none → Ex H H2 → Hand H2 p → Q (.ref p) H2
def spDraw : Sp := fun vs H Q _ => ∃ (p : Addr) (lim : Nat), vs = [.ref p, nI lim] ∧ 0 < lim ∧ lim ≤ 1000000 ∧ Hand H p ∧ ∀ H2 (g : Nat), Keep p H H2 → Hand H2 p → g < lim → Q (nI g) H2
def spBase : Sp := fun vs H Q _ => ∃ p : Addr, vs = [.ref p] ∧ Hand H p ∧ ∀ H2 (b : Nat), Keep p H H2 → Hand H2 p → 2 ≤ b → b ≤ 36 → Q (nI b) H2
/-- a list of pairs, place and cell -/
def CellsAt (H : Hp) (p : Addr) (cs : List Int) : Prop := ∃ ts : List Addr, H p = some (.lst (ts.map V.ref)) ∧ ts.length = cs.length ∧ ∀ (i : Nat) (t : Addr) (c : Int), ts[i]? = some t → cs[i]? = some c → H t = some (.tup [nI i, .int c])
def spCells (K : PySem.W.Frag) : Sp := fun vs H Q _ => ∃ (a : Addr) (ns : List Int) (many : Nat), vs = [.ref a, nI many] ∧ SqL K H a (ns.map V.int) ∧ ns.length ≤ 63 ∧ ∀ p H2 (cs : List Int), H p = none → Ex H H2 → CellsAt H2 p cs → cs.length ≤ 64 → Q (.ref p) H2
def spNumber : Sp := fun vs H Q _ => ∃ (p : Addr) (b : Nat), vs = [.ref p, nI b, nI 60] ∧ 2 ≤ b ∧ b ≤ 36 ∧ Hand H p ∧ ∀ H2 (r : Nat), Keep p H H2 → Hand H2 p → r ≤ 60 → Q (nI r) H2
theorem good_small {n b : Nat} (h1 : 2 ≤ b) (h2 : b ≤ 36) (h : n ≤ 100000) : Good n b := ⟨h1, h2, Nat.lt_of_le_of_lt h (by decide)⟩
section
variable {P : Program} {w : World} {K : PySem.W.Frag} {mg : Str → Option Value} {base : Heap}
theorem ok__law_hand (Z : Txt K mg) : Cal P w K mg base 1 "_law_hand" spHand [] := by
  refine Z.d__law_hand.cal sc__law_hand (fun vs H Q E h => ?_) (fun f cdv A outer s H vs Q E hr h => ?_)
  · obtain ⟨c, k, rfl, _⟩ := h
    rfl
  · obtain ⟨c, k, rfl, hk, q⟩ := h
    refine ⟨_, (pss_cons (ps_set (i := 2) sc__law_hand.nd rfl (Or.inl rfl) pe_int)
      (pss_cons (ps_if (pt_cmpR op_ge (pv 0) (pe_op op_pow pe_int pe_int) (nomark _))
        (pss_one (ps_set (i := 2) sc__law_hand.nd rfl (Or.inl rfl) (pv 0)))
        pss_nil)
      (pss_one (ps_ret (pe_lst (pa_cons (pv 2) (pa_cons (pe_op op_mod (pe_op op_mul (pe_op op_add (pe_op op_add (pe_op op_mod (pv 0) pe_int) (pe_op op_mul pe_int (pv 1))) pe_int) pe_int) pe_int) pa_nil))))))), ?_⟩
    have fin : ∀ (H1 : Hp) (d : Int), 0 ≤ d → Ex H H1 → tRet (tLst (tCons (tVar 2) (tCons (tOp (rI (fun _ j => 0 < j) fun i j => .int (i % j)) (tOp (rI CMul fun i j => .int (i * j)) (tOp (rI0 fun i j => .int (i + j)) (tOp (rI0 fun i j => .int (i + j)) (tOp (rI (fun _ j => 0 < j) fun i j => .int (i % j)) (tVar 0) (tC (.int 2147483563))) (tOp (rI CMul fun i j => .int (i * j)) (tC (.int 6271)) (tVar 1))) (tC (.int 3))) (tC (.int 40014))) (tC (.int 2147483563))) tNil)))
        { nx := fun _ H' => Q .non H', rt := Q } [some (.int c), some (nI k), some (.int d)] H1 := fun H1 d hd e1 => by
      refine s_retL (el_lst (ea_cons (ev_var rfl) (ea_cons (ev_op (ev_op (ev_op (ev_op (ev_op (ev_var rfl) ev_c (rv_I (by decide))) (ev_op ev_c (ev_var rfl) (rv_I (cmul_l (by decide)))) rv_I0) ev_c rv_I0) ev_c (rv_I (cmul_r (by decide)))) ev_c (rv_I (by decide))) ea_nil)) (by show 2 ≤ 100000; decide)) fun p H2 hp e2 h2 => ?_
      exact q p H2 (fresh_back e1 hp) (e1.trans e2) ⟨_, _, h2, hd, Int.emod_nonneg _ (by decide), Int.emod_lt_of_pos _ (by decide)⟩
    refine q_asg ev_c fun H1 e1 => ?_
    refine q_when (b := decide ((10 : Int) ^ 18 ≤ c)) (et_test (ev_op (ev_var rfl) (ev_op ev_c ev_c (rv_I ⟨by decide, by decide, by decide⟩)) rv_I0)) (fun hc H2 e2 => ?_) fun hc H2 e2 => ?_
    · have hc := of_decide_eq_true hc
      refine s_asg (ev_var rfl) fun H3 e3 => ?_
      exact fin H3 c (Int.le_trans (by decide) hc) ((e1.trans e2).trans e3)
    · exact fin H2 0 (by decide) (e1.trans e2)
theorem ok__law_draw (Z : Txt K mg) : Cal P w K mg base 1 "_law_draw" spDraw [] := by
  refine Z.d__law_draw.cal sc__law_draw (fun vs H Q E h => ?_) (fun f cdv A outer s H vs Q E hr h => ?_)
  · obtain ⟨c, k, rfl, _⟩ := h
    rfl
  · obtain ⟨p, lim, rfl, h0, h1, ⟨d, m, hp, d0, m0, m1⟩, q⟩ := h
    refine ⟨_, (pss_cons (ps_if (pt_cmpR op_gt (pe_ix ix_list (pv 0) pe_int (fun _ _ => rfl)) pe_int (nomark _))
        (pss_cons (ps_set (i := 2) sc__law_draw.nd rfl (Or.inl rfl) (pe_op op_mod (pe_ix ix_list (pv 0) pe_int (fun _ _ => rfl)) (pv 1)))
        (pss_cons (ps_asg (pe_op op_fdiv (pe_ix ix_list (pv 0) pe_int (fun _ _ => rfl)) (pv 1)) (pg_sub (pv 0) pe_int set_list))
        (pss_one (ps_ret (pv 2)))))
        pss_nil)
      (pss_cons (ps_asg (pe_op op_mod (pe_op op_add (pe_op op_add (pe_op op_mul (pe_ix ix_list (pv 0) pe_int (fun _ _ => rfl)) (pe_ix ix_list (pv 0) pe_int (fun _ _ => rfl))) (pe_op op_mul pe_int (pe_ix ix_list (pv 0) pe_int (fun _ _ => rfl)))) pe_int) pe_int) (pg_sub (pv 0) pe_int set_list))
      (pss_one (ps_ret (pe_op op_mod (pe_op op_fdiv (pe_ix ix_list (pv 0) pe_int (fun _ _ => rfl)) pe_int) (pv 1)))))), ?_⟩
    have i0 : atI [V.int d, V.int m] 0 = some (.int d) := atI_nat (j := 0) rfl
    have i1 : atI [V.int d, V.int m] 1 = some (.int m) := atI_nat (j := 1) rfl
    refine q_when (b := decide (0 < d)) (et_test (ev_op (ev_op (ev_var rfl) ev_c (rv_ixL (sq_of hp) i0)) ev_c rv_I0)) (fun hc H1 e1 => ?_) fun hc H1 e1 => ?_
    · have hp1 := e1 p _ hp
      refine q_asg (v := .int (d % (lim : Int))) (ev_op (ev_op (ev_var rfl) ev_c (rv_ixL (sq_of hp1) i0)) (ev_var rfl) (rv_I (show (0 : Int) < (lim : Int) by omega))) fun H2 e2 => ?_
      have hp2 := e2 p _ hp1
      refine q_setL (j := 0) (v := .int (d / (lim : Int))) hp2 (ev_op (ev_op (ev_var rfl) ev_c (rv_ixL (sq_of hp2) i0)) (ev_var rfl) (rv_I ⟨by omega, by omega⟩)) (ev_var rfl) (ev_cN 0) (by show 0 < 2; decide) fun H3 e3 => ?_
      have hg : nI (d % (lim : Int)).toNat = .int (d % (lim : Int)) := congrArg V.int (Int.toNat_of_nonneg (Int.emod_nonneg _ (by omega)))
      refine s_ret (v := nI (d % (lim : Int)).toNat) (ev_is (ev_var rfl) hg.symm) fun H4 e4 => ?_
      refine q H4 _ (Keep.trans (Keep.upd (Keep.of ((e1.trans e2).trans e3))) (Keep.of e4)) ⟨d / (lim : Int), m, e4 p _ upd_same, Int.ediv_nonneg d0 (by omega), m0, m1⟩ ?_
      have := Int.emod_lt_of_pos d (show (0 : Int) < (lim : Int) by omega)
      have := Int.emod_nonneg d (show (lim : Int) ≠ 0 by omega)
      omega
    · have hp1 := e1 p _ hp
      have em : ∀ {i : Nat}, Ev (tOp (rIxL K) (tVar 0) (tC (.int 1))) [some (.ref p), some (nI lim), none] H1 (.int m) := ev_op (ev_var rfl) ev_c (rv_ixL (sq_of hp1) i1)
      refine q_setL (j := 1) (v := .int ((m * m + 52774 * m + 40692) % 2147483563)) hp1 (ev_op (ev_op (ev_op (ev_op (em (i := 0)) (em (i := 0)) (rv_I (cmul_l ⟨by omega, by omega⟩))) (ev_op ev_c (em (i := 0)) (rv_I (cmul_l (by decide)))) rv_I0) ev_c rv_I0) ev_c (rv_I (by decide))) (ev_var rfl) (ev_cN 1) (by show 1 < 2; decide) fun H2 e2 => ?_
      have b1 := Int.emod_nonneg (m * m + 52774 * m + 40692) (show (2147483563 : Int) ≠ 0 by decide)
      have b2 := Int.emod_lt_of_pos (m * m + 52774 * m + 40692) (show (0 : Int) < 2147483563 by decide)
      generalize (m * m + 52774 * m + 40692) % 2147483563 = m' at b1 b2
      have hp2 : upd H2 p (.lst ([V.int d, V.int m].set 1 (.int m'))) p = some (.lst [.int d, .int m']) := upd_same
      have i2 : atI [V.int d, V.int m'] 1 = some (.int m') := atI_nat (j := 1) rfl
      have hg : nI (m' / 16 % (lim : Int)).toNat = .int (m' / 16 % (lim : Int)) := congrArg V.int (Int.toNat_of_nonneg (Int.emod_nonneg _ (by omega)))
      refine s_ret (v := nI (m' / 16 % (lim : Int)).toNat) (ev_is (ev_op (ev_op (ev_op (ev_var rfl) ev_c (rv_ixL (sq_of hp2) i2)) ev_c (rv_I ⟨by decide, by decide⟩)) (ev_var rfl) (rv_I (show (0 : Int) < (lim : Int) by omega))) hg.symm) fun H4 e4 => ?_
      refine q H4 _ (Keep.trans (Keep.upd (Keep.of (e1.trans e2))) (Keep.of e4)) ⟨d, m', e4 p _ hp2, d0, b1, b2⟩ ?_
      have := Int.emod_lt_of_pos (m' / 16) (show (0 : Int) < (lim : Int) by omega)
      have := Int.emod_nonneg (m' / 16) (show (lim : Int) ≠ 0 by omega)
      omega
theorem ok__law_cells (Z : Txt K mg) : Cal P w K mg base 1 "_law_cells" (spCells K) [] := by
  refine Z.d__law_cells.cal sc__law_cells (fun vs H Q E h => ?_) (fun f cdv A outer s H vs Q E hr h => ?_)
  · obtain ⟨a, ns, m, rfl, _⟩ := h
    rfl
  · obtain ⟨a, ns, m, rfl, hs, hn, q⟩ := h
    refine ⟨_, (pss_one (ps_ret (pe_listEnum rfl (by rfl) Z.f_list (by rfl) Z.f_enumerate (pe_op op_cat (pe_slice sl_list (pv 0) po_none (po_some (pv 1))) (pe_op op_rep (pe_lst (pa_cons pe_int pa_nil)) (pe_callTy call_int1 (by rfl) Z.f_int (by decide +kernel) (pa_cons (pe_cmpR (op_eqD hr.units) (pv 0) (pe_lst pa_nil) (nomark _)) pa_nil))))))), ?_⟩
    have eone : EvL (tOp rRep (tLst (tCons (tC (.int 0)) tNil)) (tCB (fun xs H Q => (∃ i, xs = [.int i] ∧ Q (.int i) H) ∨ ∃ k, xs = [.bl k] ∧ Q (.int (if k then 1 else 0)) H) (tCons (tOp (rEqD K) (tVar 0) (tLst tNil)) tNil))) [some (.ref a), some (nI m)] H ((if ns = [] then [0] else []).map V.int) := fun H1 e1 Q1 q1 => by
      refine el_lst (ea_cons ev_c ea_nil) (by show 1 ≤ 100000; decide) H1 e1 _ fun l H2 hl e2 h2 => ?_
      have ez : Ev (tOp (rEqD K) (tVar 0) (tLst tNil)) [some (.ref a), some (nI m)] H2 (.bl (decide (ns = []))) := ev_opL (ev_var rfl) (el_lst ea_nil (Nat.zero_le _)) fun r H3 h3 e3 => rv_eqInts (ms := []) (ex_l ((e1.trans e2).trans e3) hs) (sq_of h3) (sz_of (by omega)) (sz_of (Nat.zero_le _))
      refine (ev_cb (ea_cons ez ea_nil) rc_int1) H2 (Ex.refl H2) _ fun H3 e3 => ?_
      refine ⟨l, _, _, rfl, rfl, e3 l _ h2, ?_, ?_, ?_, fun p hp => ?_⟩
      · split <;> decide
      · split <;> decide
      · refine sz_of ?_
        by_cases c : ns = []
        · rw [decide_eq_true c]
          decide
        · rw [decide_eq_false c]
          decide
      · refine q1 p _ (fresh_back (e2.trans e3) hp) ((e2.trans e3).trans (Ex.new hp)) ?_
        rw [upd_same]
        by_cases c : ns = []
        · rw [if_pos c, decide_eq_true c]
          rfl
        · rw [if_neg c, decide_eq_false c]
          rfl
    have ecut := el_sl (K := K) (hi := some (m : Int)) (ev_var (i := 0) (σ := [some (.ref a), some (nI m)]) (H := H) rfl) eo_none (eo_some (ev_var (i := 1) (v := nI m) rfl)) hs
    rw [cut_to, ← List.map_take] at ecut
    have ecat := el_catLL ecut (fun H1 e1 => eone.mono e1) (by simp only [List.length_map, List.length_take]; split <;> simp <;> omega)
    rw [← List.map_append] at ecat
    refine ecat H (Ex.refl H) _ fun l H1 hl e1 h1 => ⟨l, _, rfl, sq_of h1, fun H2 p ts e2 hp hp2 hlen hts => ?_⟩
    refine q p H2 (ns.take m ++ if ns = [] then [0] else []) (fresh_back e1 hp) (e1.trans e2) ⟨ts, hp2, by rw [hlen, List.length_map], fun i t c x y => hts i t (.int c) x (by rw [List.getElem?_map, y]; rfl)⟩ ?_
    simp only [List.length_append, List.length_take]
    split <;> simp <;> omega
theorem Hand.upd {H : Hp} {p l : Addr} {o : HO} (h : Hand H p) (hl : H l = none) : Hand (L2.upd H l o) p := by
  obtain ⟨d, m, g, r⟩ := h
  exact ⟨d, m, by rw [upd_ne (ne_of_none g hl)]; exact g, r⟩
theorem ev_pick {σ : L2.St} {H : Hp} {ta : TA} {tb : TE} {vs : List V} {j : Nat} {v : V} (ha : EvA ta σ H vs) (hl : vs.length ≤ 100000) (hb : ∀ H1, Ev tb σ H1 (nI j)) (hx : vs[j]? = some v) : Ev (tOp (rIxL K) (tLst ta) tb) σ H v := fun H1 e Q q =>
  el_lst ha hl H1 e _ fun l H2 _ e2 h2 => hb H2 H2 (Ex.refl H2) _ fun H3 e3 => ⟨l, vs, (j : Int), v, rfl, rfl, sq_of (e3 _ _ h2), atI_nat hx, q H3 (e2.trans e3)⟩
theorem ok__law_base (Z : Txt K mg) : Cal P w K mg base 2 "_law_base" spBase [] := by
  refine Z.d__law_base.cal sc__law_base (fun vs H Q E h => ?_) (fun f cdv A outer s H vs Q E hr h => ?_)
  · obtain ⟨c, rfl, _⟩ := h
    rfl
  · obtain ⟨p, rfl, hh, q⟩ := h
    refine ⟨_, (pss_cons (ps_set (i := 1) sc__law_base.nd rfl (Or.inl rfl) (pe_c (ok__law_draw Z) hr (by decide) (by rfl) (pa_cons (pv 0) (pa_cons pe_int pa_nil))))
      (pss_one (ps_ret (pe_ix ix_list (pe_lst (pa_cons (pe_op op_add pe_int (pv 1)) (pa_cons pe_int pa_nil))) (pe_callTy call_int1 (by rfl) Z.f_int (by decide +kernel) (pa_cons (pe_cmpR op_eq (pv 1) pe_int (nomark _)) pa_nil)) (fun _ _ => rfl))))), ?_⟩
    refine ⟨.ref p, rfl, p, 36, rfl, by decide, by decide, hh, fun H2 g k2 hh2 hg => ?_⟩
    by_cases c : g = 35
    · refine s_ret (v := nI 10) (ev_pick (vs := [nI (2 + g), nI 10]) (j := 1) (ea_cons (ev_addN (ev_cN 2) (ev_var rfl)) (ea_cons (ev_cN 10) ea_nil)) (by show 2 ≤ 100000; decide) (fun H1 => ev_is (ev_cb (ea_cons (ev_eqN (ev_var rfl) (ev_cN 35)) ea_nil) rc_int1) (by rw [decide_eq_true c]; rfl)) rfl) fun H3 e3 => ?_
      obtain ⟨d, m, g1, r⟩ := hh2
      exact q H3 10 (Keep.trans k2 (Keep.of e3)) ⟨d, m, e3 _ _ g1, r⟩ (by decide) (by decide)
    · refine s_ret (v := nI (2 + g)) (ev_pick (vs := [nI (2 + g), nI 10]) (j := 0) (ea_cons (ev_addN (ev_cN 2) (ev_var rfl)) (ea_cons (ev_cN 10) ea_nil)) (by show 2 ≤ 100000; decide) (fun H1 => ev_is (ev_cb (ea_cons (ev_eqN (ev_var rfl) (ev_cN 35)) ea_nil) rc_int1) (by rw [decide_eq_false c]; rfl)) rfl) fun H3 e3 => ?_
      exact q H3 (2 + g) (Keep.trans k2 (Keep.of e3)) (hh2.mono e3) (by omega) (by omega)
theorem ok__law_number (Z : Txt K mg) : Cal P w K mg base 2 "_law_number" spNumber [] := by
  refine Z.d__law_number.cal sc__law_number (fun vs H Q E h => ?_) (fun f cdv A outer s H vs Q E hr h => ?_)
  · obtain ⟨p, b, rfl, _⟩ := h
    rfl
  · obtain ⟨p, b, rfl, hb, ht, hh, q⟩ := h
    refine ⟨_, (pss_cons (ps_set (i := 3) sc__law_number.nd rfl (Or.inl rfl) (pe_c (ok__law_draw Z) hr (by decide) (by rfl) (pa_cons (pv 0) (pa_cons pe_int pa_nil))))
      (pss_cons (ps_if (pt_cmpR op_lt (pv 3) pe_int (nomark _))
        (pss_one (ps_ret (pe_c (ok__law_draw Z) hr (by decide) (by rfl) (pa_cons (pv 0) (pa_cons (pe_ix ix_list (pe_lst (pa_cons pe_int (pa_cons (pe_op op_add (pv 2) pe_int) (pa_cons (pe_op op_add (pv 2) pe_int) pa_nil)))) (pv 3) (fun _ _ => rfl)) pa_nil)))))
        pss_nil)
      (pss_cons (ps_set (i := 4) sc__law_number.nd rfl (Or.inl rfl) pe_int)
      (pss_cons (ps_for PassesOwn.never rfl (pi_range1 (by rfl) Z.f_range (pa_cons (pe_c (ok__law_draw Z) hr (by decide) (by rfl) (pa_cons (pv 0) (pa_cons pe_int pa_nil))) pa_nil)) (pg_name (i := 5) sc__law_number.nd rfl (Or.inl rfl))
        (pss_one (ps_if (pt_cmpR op_le (pe_op op_mul (pv 4) (pv 1)) (pv 2) (nomark _))
          (pss_one (ps_set (i := 4) sc__law_number.nd rfl (Or.inl rfl) (pe_op op_mul (pv 4) (pv 1))))
          pss_nil)))
      (pss_cons (ps_if (pt_cmpR op_eq (pv 3) pe_int (nomark _))
        (pss_one (ps_ret (pv 2)))
        pss_nil)
      (pss_cons (ps_set (i := 6) sc__law_number.nd rfl (Or.inl rfl) (pe_lst (pa_cons (pv 4) (pa_cons (pe_op op_mul (pv 4) (pe_op op_add pe_int (pe_c (ok__law_draw Z) hr (by decide) (by rfl) (pa_cons (pv 0) (pa_cons (pv 1) pa_nil))))) (pa_cons (pe_op op_add (pv 4) (pe_op op_fdiv (pv 4) pe_int)) pa_nil)))))
      (pss_one (ps_ret (pe_callB (call_max2 rfl) (by rfl) Z.f_max (by decide +kernel) (pa_cons pe_int (pa_cons (pe_callB (call_min2 rfl) (by rfl) Z.f_min (by decide +kernel) (pa_cons (pv 2) (pa_cons (pe_op op_sub (pe_op op_add (pe_ix ix_list (pv 6) (pe_op op_sub (pv 3) pe_int) (fun _ _ => rfl)) (pe_c (ok__law_draw Z) hr (by decide) (by rfl) (pa_cons (pv 0) (pa_cons pe_int pa_nil)))) pe_int) pa_nil))) pa_nil))))))))))), ?_⟩
    refine ⟨.ref p, rfl, p, 7, rfl, by decide, by decide, hh, fun H2 way k2 hh2 hg => ?_⟩
    refine q_when (b := decide (way < 3)) (et_ltN (ev_var rfl) (ev_cN 3)) (fun hc H3 e3 => ?_) fun hc H3 e3 => ?_
    · have hc := of_decide_eq_true hc
      obtain ⟨lim, hlim, l1, l2⟩ : ∃ lim : Nat, [nI 41, nI (60 + 1), nI (60 + 1)][way]? = some (nI lim) ∧ 0 < lim ∧ lim ≤ 61 := by
        rcases way with _ | _ | _ | way
        · exact ⟨41, rfl, by decide, by decide⟩
        · exact ⟨61, rfl, by decide, by decide⟩
        · exact ⟨61, rfl, by decide, by decide⟩
        · omega
      show tCall spDraw [] C8.E0 (tCons (tVar 0) (tCons (tOp _ (tLst _) (tVar 3)) tNil)) _ _ _
      refine goCall (vs := [.ref p, nI lim]) (ea_cons (ev_var rfl) (ea_cons (ev_pick (j := way) (ea_cons (ev_cN 41) (ea_cons (ev_addN (ev_var rfl) (ev_cN 1)) (ea_cons (ev_addN (ev_var rfl) (ev_cN 1)) ea_nil))) (by show 3 ≤ 100000; decide) (fun H1 => ev_var rfl) hlim) ea_nil)) fun H4 e4 => ⟨p, lim, rfl, l1, by omega, (hh2.mono e3).mono e4, fun H5 r k5 hh5 hr => ?_⟩
      exact q H5 r (Keep.trans (Keep.trans k2 (Keep.of (e3.trans e4))) k5) hh5 (by omega)
    · have hc := of_decide_eq_false hc
      refine q_asg (ev_cN 1) fun H4 e4 => ?_
      have hh4 := (hh2.mono e3).mono e4
      refine ⟨.ref p, rfl, p, 20, rfl, by decide, by decide, hh4, fun H5 m k5 hh5 hm => ⟨(m : Int), rfl, by omega, by omega, for_range (lo := 0) (n := m) (fun i σ' H' => ∃ (pw : Nat) (o5 : Option V), σ' = [some (.ref p), some (nI b), some (nI 60), some (nI way), some (nI pw), o5, none] ∧ Ex H5 H' ∧ 1 ≤ pw ∧ pw ≤ 60)
        ⟨1, none, rfl, Ex.refl H5, by decide, by decide⟩ ?_ ?_⟩⟩
      · rintro i σ' H' hi ⟨pw, o5, rfl, e', p1, p2⟩
        refine s_when (b := decide (pw * b ≤ 60)) (et_leN (ev_mulR (ev_var rfl) (ev_var rfl) (by omega)) (ev_var rfl)) (fun hz H6 e6 => ?_) fun hz H6 e6 => ⟨pw, _, rfl, e'.trans e6, p1, p2⟩
        have hz := of_decide_eq_true hz
        refine s_asg (v := nI (pw * b)) (ev_mulR (ev_var rfl) (ev_var rfl) (by omega)) fun H7 e7 => ⟨pw * b, _, rfl, (e'.trans e6).trans e7, ?_, hz⟩
        exact Nat.mul_pos (by omega) (by omega)
      · rintro σ' H' ⟨pw, o5, rfl, e', p1, p2⟩
        refine q_when (b := decide (way = 6)) (et_test (ev_eqN (ev_var rfl) (ev_cN 6))) (fun hz H6 e6 => ?_) fun hz H6 e6 => ?_
        · refine s_ret (ev_var rfl) fun H7 e7 => ?_
          exact q H7 60 (Keep.trans (Keep.trans (Keep.trans k2 (Keep.of (e3.trans e4))) k5) (Keep.of ((e'.trans e6).trans e7))) (((hh5.mono e').mono e6).mono e7) (Nat.le_refl _)
        · have hz := of_decide_eq_false hz
          have hh6 := (hh5.mono e').mono e6
          have k6 := Keep.trans (Keep.trans (Keep.trans k2 (Keep.of (e3.trans e4))) k5) (Keep.of (e'.trans e6))
          refine ⟨nI pw, rfl, nI pw, rfl, .ref p, rfl, nI b, rfl, p, b, rfl, by omega, by omega, hh6, fun H7 g k7 hh7 hg7 => ⟨1, (g : Int), rfl, rfl, (pw : Int), 1 + (g : Int), rfl, rfl, cmul_l ⟨by omega, by omega⟩, ?_⟩⟩
          refine goA (vs := [nI (pw + pw / 2)]) (ea_cons (ev_addN (ev_var rfl) (ev_divN (ev_var rfl) (ev_cN 2) (by decide))) ea_nil) fun H8 e8 => ⟨sz_of (by show 3 ≤ 100000; decide), fun l hl => ?_⟩
          have hh9 := (hh7.mono e8).upd (o := .lst [nI pw, .int ((pw : Int) * (1 + (g : Int))), nI (pw + pw / 2)]) hl
          have k9 := Keep.trans (Keep.trans k6 k7) (Keep.of (e8.trans (Ex.new (o := .lst [nI pw, .int ((pw : Int) * (1 + (g : Int))), nI (pw + pw / 2)]) hl)))
          have hl9 : L2.upd H8 l (.lst [nI pw, .int ((pw : Int) * (1 + (g : Int))), nI (pw + pw / 2)]) l = some (.lst [nI pw, .int ((pw : Int) * (1 + (g : Int))), nI (pw + pw / 2)]) := upd_same
          generalize L2.upd H8 l (.lst [nI pw, .int ((pw : Int) * (1 + (g : Int))), nI (pw + pw / 2)]) = H9 at hh9 k9 hl9
          obtain ⟨z, hz3⟩ : ∃ z : Int, [nI pw, .int ((pw : Int) * (1 + (g : Int))), nI (pw + pw / 2)][way - 3]? = some (.int z) := by
            have h3 : way - 3 < 3 := by omega
            generalize way - 3 = u at h3
            rcases u with _ | _ | _ | u
            · exact ⟨_, rfl⟩
            · exact ⟨_, rfl⟩
            · exact ⟨_, rfl⟩
            · omega
          refine ⟨nI 60, rfl, ?_⟩
          show tOp (rIxL K) (tVar 6) (tOp _ (tVar 3) (tC (.int 3))) [some (.ref p), some (nI b), some (nI 60), some (nI way), some (nI pw), o5, some (.ref l)] H9 _
          refine goV (x := .int z) (ev_op (ev_var rfl) (ev_is (w := nI (way - 3)) (ev_op (ev_var rfl) ev_c rv_I0) (congrArg V.int (by omega))) (rv_ixL (sq_of hl9) (atI_nat hz3))) fun H10 e10 => ?_
          refine ⟨.ref p, rfl, p, 5, rfl, by decide, by decide, hh9.mono e10, fun H11 g2 k11 hh11 hg11 => ⟨z, (g2 : Int), rfl, rfl, z + (g2 : Int), 2, rfl, rfl, 60, z + (g2 : Int) - 2, rfl, ?_⟩⟩
          refine ⟨0, (if z + (g2 : Int) - 2 < 60 then z + (g2 : Int) - 2 else 60), rfl, ?_⟩
          have hfin : (if (if z + (g2 : Int) - 2 < 60 then z + (g2 : Int) - 2 else 60) > 0 then (if z + (g2 : Int) - 2 < 60 then z + (g2 : Int) - 2 else 60) else 0) = (((if (if z + (g2 : Int) - 2 < 60 then z + (g2 : Int) - 2 else 60) > 0 then (if z + (g2 : Int) - 2 < 60 then z + (g2 : Int) - 2 else 60) else 0).toNat : Nat) : Int) := by
            split <;> omega
          rw [hfin]
          exact q H11 _ (Keep.trans (Keep.trans k9 (Keep.of e10)) k11) hh11 (by split <;> split <;> omega)
end
end Mir
namespace Mir
open PySem PySem.Spec PyProof.Rows L2 Evl
open C8 (Cal pe_c)
/-! ## what is asked of a world -/
def cW (b n m : Nat) : Nat := Cw (prt b) (cnt b n) m n
def askA (b n m d at' : Nat) : List V := if at' = 0 then nats (fwv b n) else if at' = 1 then nats (tbv b n) else if at' = 2 then [nI (cW b n m), nI (Aw (prt b) (cnt b n) n), nI (hmv b n m)] else if cW b n m = 0 then [] else nats (wayV b n m (d % cW b n m))
def askB (b n m d at' : Nat) : List V := if at' = 0 then [] else if at' = 1 then nats (hrd b n) else if at' = 2 then [] else if cW b n m = 0 then [] else [nI (wp (prt b) (wa (prt b) m (cnt b n) n (d % cW b n m)) n (cnt b n) 0), .bl true]
def RetTwo (A B : List V) (H : Hp) (Q : VK) : Prop := ∀ p q1 q2 H2, H p = none → H q1 = none → H q2 = none → p ≠ q1 → p ≠ q2 → q1 ≠ q2 → Ex H H2 → H2 p = some (.lst [.ref q1, .ref q2]) → H2 q1 = some (.lst A) → H2 q2 = some (.lst B) → Q (.ref p) H2
theorem RetTwo.back {A B : List V} {H H1 : Hp} {Q : VK} (k : RetTwo A B H Q) (e : Ex H H1) : RetTwo A B H1 Q := fun p q1 q2 H2 a1 a2 a3 a4 a5 a6 a7 a8 a9 b1 => k p q1 q2 H2 (fresh_back e a1) (fresh_back e a2) (fresh_back e a3) a4 a5 a6 (e.trans a7) a8 a9 b1
def spAsked : Sp := fun vs H Q _ => ∃ (at' b n m d : Nat) (wd : Addr), vs = [nI at', .ref wd] ∧ H wd = some (.tup [nI b, nI n, nI m, nI d]) ∧ 2 ≤ b ∧ b ≤ 36 ∧ n ≤ 60 ∧ m ≤ 12 ∧ at' ≤ 3 ∧ RetTwo (askA b n m d at') (askB b n m d at') H Q
section
variable {σ : L2.St} {H : Hp} {ta tb : TE} {A B : List V} {Q : VK}
theorem two_lists (ha : EvL ta σ H A) (hb : ∀ H1, Ex H H1 → EvL tb σ H1 B) (k : RetTwo A B H Q) : tLst (tCons ta (tCons tb tNil)) σ H Q :=
  ha H (Ex.refl H) _ fun q1 H1 n1 e1 g1 => hb H1 e1 H1 (Ex.refl H1) _ fun q2 H2 n2 e2 g2 => ⟨sz_of (by show 2 ≤ 100000; decide), fun p hp => by
    have d1 : q1 ≠ p := ne_of_none (e2 _ _ g1) hp
    have d2 : q2 ≠ p := ne_of_none g2 hp
    have d3 : q1 ≠ q2 := ne_of_none g1 n2
    exact k p q1 q2 _ (fresh_back (e1.trans e2) hp) n1 (fresh_back e1 n2) (Ne.symm d1) (Ne.symm d2) d3 ((e1.trans e2).trans (Ex.new hp)) upd_same (by rw [upd_ne d1]; exact e2 _ _ g1) (by rw [upd_ne d2]; exact g2)⟩
theorem lists_old {i : Nat} {W : Addr} (hv : σ[i]? = some (some (.ref W))) (hW : H W = some (.lst A)) (hb : EvL tb σ H B) (k : ∀ p q2 H2, H p = none → H q2 = none → p ≠ W → p ≠ q2 → W ≠ q2 → Ex H H2 → H2 p = some (.lst [.ref W, .ref q2]) → H2 W = some (.lst A) → H2 q2 = some (.lst B) → Q (.ref p) H2) : tLst (tCons (tVar i) (tCons tb tNil)) σ H Q :=
  ⟨.ref W, hv, hb H (Ex.refl H) _ fun q2 H2 n2 e2 g2 => ⟨sz_of (by show 2 ≤ 100000; decide), fun p hp => by
    have d1 : W ≠ p := ne_of_none (e2 _ _ hW) hp
    have d2 : q2 ≠ p := ne_of_none g2 hp
    have d3 : W ≠ q2 := ne_of_none hW n2
    exact k p q2 _ (fresh_back e2 hp) n2 (Ne.symm d1) (Ne.symm d2) d3 (e2.trans (Ex.new hp)) upd_same (by rw [upd_ne d1]; exact e2 _ _ hW) (by rw [upd_ne d2]; exact g2)⟩⟩
end
section
variable {P : Program} {w : World} {K : PySem.W.Frag} {mg : Str → Option Value} {base : Heap}
theorem ok__law_asked (Z : Txt K mg) : Cal P w K mg base 63 "_law_asked" spAsked [] := by
  refine Z.d__law_asked.cal sc__law_asked (fun vs H Q E h => ?_) (fun f cdv A outer s H vs Q E hr h => ?_)
  · obtain ⟨a, b, n, m, d, wd, rfl, _⟩ := h
    rfl
  · obtain ⟨a, b, n, m, d, wd, rfl, hwd, hb, ht, hn, hm, ha, q⟩ := h
    have g : Good n b := good_small hb ht (by omega)
    refine ⟨_, (pss_cons (ps_asg (pv 1) (pg_tup rfl (pgs_cons (pg_name (i := 2) sc__law_asked.nd rfl (Or.inl rfl)) (pgs_cons (pg_name (i := 3) sc__law_asked.nd rfl (Or.inl rfl)) (pgs_cons (pg_name (i := 4) sc__law_asked.nd rfl (Or.inl rfl)) (pgs_cons (pg_name (i := 5) sc__law_asked.nd rfl (Or.inl rfl)) pgs_nil))))))
      (pss_cons (ps_if (pt_cmpR op_eq (pv 0) pe_int (nomark _))
        (pss_one (ps_ret (pe_lst (pa_cons (pe_c (ok_fewest Z) hr (by decide) (by rfl) (pa_cons (pv 3) (pa_cons (pv 2) pa_nil))) (pa_cons (pe_lst pa_nil) pa_nil)))))
        pss_nil)
      (pss_cons (ps_if (pt_cmpR op_eq (pv 0) pe_int (nomark _))
        (pss_one (ps_ret (pe_lst (pa_cons (pe_c (ok_table Z) hr (by decide) (by rfl) (pa_cons (pv 3) (pa_cons (pv 2) pa_nil))) (pa_cons (pe_c (ok_hardest Z) hr (by decide) (by rfl) (pa_cons (pv 3) (pa_cons (pv 2) pa_nil))) pa_nil)))))
        pss_nil)
      (pss_cons (ps_if (pt_cmpR op_eq (pv 0) pe_int (nomark _))
        (pss_one (ps_ret (pe_lst (pa_cons (pe_lst (pa_cons (pe_c (ok_many_ways Z) hr (by decide) (by rfl) (pa_cons (pv 3) (pa_cons (pv 2) (pa_cons (pv 4) pa_nil)))) (pa_cons (pe_c (ok_all_ways Z) hr (by decide) (by rfl) (pa_cons (pv 3) (pa_cons (pv 2) pa_nil))) (pa_cons (pe_c (ok_how_many Z) hr (by decide) (by rfl) (pa_cons (pv 3) (pa_cons (pv 2) (pa_cons (pv 4) pa_nil)))) pa_nil)))) (pa_cons (pe_lst pa_nil) pa_nil)))))
        pss_nil)
      (pss_cons (ps_set (i := 6) sc__law_asked.nd rfl (Or.inl rfl) (pe_c (ok_many_ways Z) hr (by decide) (by rfl) (pa_cons (pv 3) (pa_cons (pv 2) (pa_cons (pv 4) pa_nil)))))
      (pss_cons (ps_if (pt_cmpR op_eq (pv 6) pe_int (nomark _))
        (pss_one (ps_ret (pe_lst (pa_cons (pe_lst pa_nil) (pa_cons (pe_lst pa_nil) pa_nil)))))
        pss_nil)
      (pss_cons (ps_set (i := 7) sc__law_asked.nd rfl (Or.inl rfl) (pe_c (ok_way_at Z) hr (by decide) (by rfl) (pa_cons (pv 3) (pa_cons (pv 2) (pa_cons (pv 4) (pa_cons (pe_op op_mod (pv 5) (pv 6)) pa_nil))))))
      (pss_cons (ps_set (i := 8) sc__law_asked.nd rfl (Or.inl rfl) (pe_callTy (T := "list") (r := rListS K) call_list_of (by rfl) Z.f_list (by decide +kernel) (pa_cons (pv 7) pa_nil)))
      (pss_cons (ps_set (i := 9) sc__law_asked.nd rfl (Or.inl rfl) (pe_c (ok_way_place Z) hr (by decide) (by rfl) (pa_cons (pv 3) (pa_cons (pv 2) (pa_cons (pv 7) pa_nil)))))
      (pss_one (ps_ret (pe_lst (pa_cons (pv 7) (pa_cons (pe_lst (pa_cons (pv 9) (pa_cons (pe_cmpR (op_eqD hr.units) (pv 7) (pv 8) (nomark _)) pa_nil))) pa_nil)))))))))))))), ?_⟩
    refine ⟨.ref wd, rfl, wd, [nI b, nI n, nI m, nI d], rfl, st_of hwd, rfl, nI b, _, rfl, nI n, _, rfl, nI m, _, rfl, nI d, [], rfl, rfl, ?_⟩
    refine q_when (b := decide (a = 0)) (et_test (ev_eqN (ev_var rfl) (ev_cN 0))) (fun hc H1 e1 => ?_) fun hc H1 e1 => ?_
    · have hc := of_decide_eq_true hc
      unfold askA askB at q
      rw [if_pos hc, if_pos hc] at q
      exact two_lists (el_call (ea_cons (ev_var rfl) (ea_cons (ev_var rfl) ea_nil)) (sl_fewest g hn)) (fun H2 e2 => el_lst ea_nil (Nat.zero_le _)) (q.back e1)
    have hc0 := of_decide_eq_false hc
    refine q_when (b := decide (a = 1)) (et_test (ev_eqN (ev_var rfl) (ev_cN 1))) (fun hc H2 e2 => ?_) fun hc H2 e2 => ?_
    · have hc := of_decide_eq_true hc
      unfold askA askB at q
      rw [if_neg hc0, if_neg hc0, if_pos hc, if_pos hc] at q
      exact two_lists (el_call (ea_cons (ev_var rfl) (ea_cons (ev_var rfl) ea_nil)) (sl_table g (by omega))) (fun H3 e3 => el_call (ea_cons (ev_var rfl) (ea_cons (ev_var rfl) ea_nil)) (sl_hardest g (by omega))) (q.back (e1.trans e2))
    have hc1 := of_decide_eq_false hc
    refine q_when (b := decide (a = 2)) (et_test (ev_eqN (ev_var rfl) (ev_cN 2))) (fun hc H3 e3 => ?_) fun hc H3 e3 => ?_
    · have hc := of_decide_eq_true hc
      unfold askA askB at q
      rw [if_neg hc0, if_neg hc0, if_neg hc1, if_neg hc1, if_pos hc, if_pos hc] at q
      exact two_lists (el_lst (ea_cons (ev_call (ea_cons (ev_var rfl) (ea_cons (ev_var rfl) (ea_cons (ev_var rfl) ea_nil))) (sv_manyWays g (by omega) (by omega))) (ea_cons (ev_call (ea_cons (ev_var rfl) (ea_cons (ev_var rfl) ea_nil)) (sv_allWays g (by omega))) (ea_cons (ev_call (ea_cons (ev_var rfl) (ea_cons (ev_var rfl) (ea_cons (ev_var rfl) ea_nil))) (sv_howMany g (by omega))) ea_nil))) (by show 3 ≤ 100000; decide))
        (fun H4 e4 => el_lst ea_nil (Nat.zero_le _)) (q.back ((e1.trans e2).trans e3))
    have hc2 := of_decide_eq_false hc
    have e13 := (e1.trans e2).trans e3
    unfold askA askB at q
    rw [if_neg hc0, if_neg hc0, if_neg hc1, if_neg hc1, if_neg hc2, if_neg hc2] at q
    refine q_asg (v := nI (cW b n m)) (ev_call (ea_cons (ev_var rfl) (ea_cons (ev_var rfl) (ea_cons (ev_var rfl) ea_nil))) (sv_manyWays g (by omega) (by omega))) fun H4 e4 => ?_
    refine q_when (b := decide (cW b n m = 0)) (et_test (ev_eqN (ev_var rfl) (ev_cN 0))) (fun hc H5 e5 => ?_) fun hc H5 e5 => ?_
    · have hc := of_decide_eq_true hc
      rw [if_pos hc, if_pos hc] at q
      exact two_lists (el_lst ea_nil (Nat.zero_le _)) (fun H6 e6 => el_lst ea_nil (Nat.zero_le _)) (q.back ((e13.trans e4).trans e5))
    have hc3 := of_decide_eq_false hc
    rw [if_neg hc3, if_neg hc3] at q
    have hd : d % cW b n m < Cw (prt b) (cnt b n) m n := Nat.mod_lt _ (by omega)
    obtain ⟨w1, w2, w3, w4⟩ := wa_spec (prt b) m (cnt b n) n (d % cW b n m) hd
    have hway : WayOf b n (wa (prt b) m (cnt b n) n (d % cW b n m)) := ⟨w3, w4, w2⟩
    refine q_asgL (el_call (ea_cons (ev_var rfl) (ea_cons (ev_var rfl) (ea_cons (ev_var rfl) (ea_cons (ev_modN (ev_var rfl) (ev_var rfl) (by omega)) ea_nil)))) (sl_wayAt g (by omega) (by omega) hd)) fun W H6 hW e6 h6 => ?_
    refine q_asgL (el_list (ev_var rfl) (sq_of h6)) fun Kp H7 hKp e7 h7 => ?_
    have h67 := e7 _ _ h6
    refine q_asg (v := nI (wp (prt b) (wa (prt b) m (cnt b n) n (d % cW b n m)) n (cnt b n) 0)) (ev_call (ea_cons (ev_var rfl) (ea_cons (ev_var rfl) (ea_cons (ev_var rfl) ea_nil))) (sv_wayPlace g (by omega) h67 hway)) fun H8 e8 => ?_
    have e58 := (e6.trans e7).trans e8
    have e08 := ((e13.trans e4).trans e5).trans e58
    have hW0 : H W = none := fresh_back ((e13.trans e4).trans e5) hW
    have hWk : H8 W = some (.lst (nats (wayV b n m (d % cW b n m)))) := (e7.trans e8) _ _ h6
    have hKk := e8 _ _ h7
    have hlen : (wayV b n m (d % cW b n m)).length ≤ 100000 := by
      unfold wayV
      rw [List.length_map, w1]
      omega
    refine lists_old (W := W) rfl hWk (el_lst (vs := [nI (wp (prt b) (wa (prt b) m (cnt b n) n (d % cW b n m)) n (cnt b n) 0), .bl true]) (ea_cons (ev_var rfl) (ea_cons (ev_is (ev_op (ev_var rfl) (ev_var rfl) (rv_eqInts (ns := (wayV b n m (d % cW b n m)).map fun x : Nat => (x : Int)) (ms := (wayV b n m (d % cW b n m)).map fun x : Nat => (x : Int)) (by rw [← nats_int]; exact sq_of hWk) (by rw [← nats_int]; exact sq_of hKk) (sz_of (by rw [List.length_map]; exact hlen)) (sz_of (by rw [List.length_map]; exact hlen)))) (congrArg V.bl (decide_eq_true rfl))) ea_nil)) (by show 2 ≤ 100000; decide)) fun p q2 H9 hp n9 d1 d2 d3 e9 g1 g2 g3 => q p W q2 H9 (fresh_back e08 hp) hW0 (fresh_back e08 n9) d1 d2 d3 (e08.trans e9) g1 g2 g3
end
end Mir
namespace Mir
open PySem PySem.Spec PyProof.Rows L2 Evl
open C8 (Cal pe_c)
/-! ## what is refused -/
def BadB (v : V) : Prop := v = .int 0 ∨ v = .int 1 ∨ v = .int 37 ∨ v = .non
def XNo (K : PySem.W.Frag) (x : Str) (H : Hp) (E : XK) : Prop := ∀ H', Ex H H' → E (.ref (He.ga K x)) none H'
theorem XNo.go {K : PySem.W.Frag} {x : Str} {H H1 : Hp} {E : XK} (k : XNo K x H E) (e : Ex H H1) : XNo K x H1 E := fun H' e' => k H' (e.trans e')
def spIsWholeAny : Sp := fun vs H Q _ => ∃ v : V, vs = [v] ∧ ((∃ n : Int, v = .int n ∧ RetV (.bl true) H Q) ∨ (v = .non ∧ RetV (.bl false) H Q))
def spNeedBaseBad (K : PySem.W.Frag) : Sp := fun vs H _ E => ∃ v : V, vs = [v] ∧ BadB v ∧ XNo K "NoBase" H E
def spManyToBad (K : PySem.W.Frag) : Sp := fun vs H _ E => ∃ (n : Nat) (v : V), vs = [nI n, v] ∧ BadB v ∧ XNo K "NoBase" H E
def spWayAtBad (K : PySem.W.Frag) : Sp := fun vs H _ E => ∃ (n b m : Nat) (d : Int), vs = [nI n, nI b, nI m, .int d] ∧ Good n b ∧ n ≤ 1000 ∧ m ≤ 1000 ∧ d < 0 ∧ XNo K "NoPlace" H E
def spNeedWayBad (K : PySem.W.Frag) : Sp := fun vs H _ E => ∃ (n b : Nat) (a t : Addr), vs = [nI n, .ref a, .ref t] ∧ Parts K H a b (cnt b n) ∧ H t = some (.lst (nats [n, 1])) ∧ XNo K "NoWay" H E
def spWayPlaceBad (K : PySem.W.Frag) : Sp := fun vs H _ E => ∃ (n b : Nat) (t : Addr), vs = [nI n, nI b, .ref t] ∧ Good n b ∧ n ≤ 1000 ∧ H t = some (.lst (nats [n, 1])) ∧ XNo K "NoWay" H E
def spRefused : Sp := fun vs H Q _ => ∃ (b n m d turn : Nat) (wd : Addr), vs = [.ref wd, nI turn] ∧ H wd = some (.tup [nI b, nI n, nI m, nI d]) ∧ 2 ≤ b ∧ b ≤ 36 ∧ n ≤ 60 ∧ m ≤ 12 ∧ RetV (.bl true) H Q
section
variable {σ : L2.St} {H : Hp} {D : Ends}
theorem goCallE {sp : Sp} {E : XK} {ts : TA} {vs : List V} {Q : VK} (h : EvA ts σ H vs) (k : ∀ H2, Ex H H2 → sp vs H2 Q E) : tCall sp [] E ts σ H Q := goCall h k
theorem goCallS {sp : Sp} {E : L2.St → XK} {ts : TA} {vs : List V} {Q : VK} (h : EvA ts σ H vs) (k : ∀ H2, Ex H H2 → sp vs H2 Q (E σ)) : tCallS sp E ts σ H Q := h H (Ex.refl H) _ k
theorem rc_isiN {K : PySem.W.Frag} {T : String} {b : Bool} (hk : kitB "NoneType" T = some b) : RC (rIsi K) [.non, .ty T] H (.bl b) := fun H1 _ _ q => ⟨.non, .ty T, _, _, b, rfl, .ty T, .base .non, kit_ty hk, q H1 (Ex.refl H1)⟩
/-- the falls of a falling list: none -/
theorem el_fall {K : PySem.W.Frag} {t : Addr} {s0 s1 o3 o4 o5 : Option V} {l : List Nat} (hl : l.Pairwise (fun x y => y ≤ x)) (ht : H t = some (.lst (nats l))) :
    EvL (tLc (iZip K (tCons (tVar 2) (tCons (tSl (rSlL K) (tVar 2) (tPart (tC (.int 1))) tNoPart) tNil))) (gTup K 2 (gCons (gName 4) (gCons (gName 5) gNil))) (tTest (tOp (rI0 fun i j => .bl (decide (i < j))) (tVar 4) (tVar 5))) (tC (.int 1)) [4, 5]) [s0, s1, some (.ref t), o3, o4, o5] H (([] : List Int).map V.int) := fun H1 e Q q => by
  have etail := el_sl (K := K) (te := tVar 2) (σ := [s0, s1, some (.ref t), o3, o4, o5]) (H := H) (lo := some ((1 : Nat) : Int)) (ev_var rfl) (eo_some (te := tC (.int 1)) (ev_cN 1)) eo_none (sq_of ht)
  rw [cut_from] at etail
  refine ⟨.ref t, rfl, ?_⟩
  refine goL (etail.mono e) fun t2 H2 ht2 e2 h2 => ?_
  have hk := e2 _ _ (e _ _ ht)
  refine ⟨t, t2, nats l, (nats l).drop 1, rfl, sq_of hk, sq_of h2, fun Dl hD => lc_it (walk_zip rfl) (fun i H3 => Ex H2 H3 ∧ H3 Dl = some (.lst [])) ⟨Ex.new hD, upd_same⟩ (fun i H3 _ ⟨e3, _⟩ => ⟨sq_of (e3 _ _ hk), sq_of (e3 _ _ h2)⟩) ?_ fun H3 ⟨e3, h3⟩ => q Dl H3 (fresh_back e2 hD) (e2.trans e3) h3⟩
  rintro i x H3 H4 hi ⟨e3, h3⟩ ⟨T, x0, y0, rfl, hT, rfl, hx0, hy0⟩
  replace hx0 : (nats l)[i]? = some x0 := hx0
  replace hy0 : ((nats l).drop 1)[i]? = some y0 := hy0
  rw [List.getElem?_drop, Nat.add_comm, List.getElem?_map] at hy0
  rw [List.getElem?_map] at hx0
  obtain ⟨u, hu, hx0⟩ : ∃ u, l[i]? = some u ∧ some (nI u) = some x0 := by
    cases hj : l[i]? with
    | none => rw [hj] at hx0; cases hx0
    | some j => rw [hj] at hx0; exact ⟨j, rfl, hx0⟩
  obtain ⟨v, hv, hy0⟩ : ∃ v, l[i + 1]? = some v ∧ some (nI v) = some y0 := by
    cases hj : l[i + 1]? with
    | none => rw [hj] at hy0; cases hy0
    | some j => rw [hj] at hy0; exact ⟨j, rfl, hy0⟩
  cases hx0
  cases hy0
  have huv : v ≤ u := by
    obtain ⟨l1, l2⟩ := List.getElem?_eq_some_iff.mp hu
    obtain ⟨l3, l4⟩ := List.getElem?_eq_some_iff.mp hv
    have z := List.pairwise_iff_getElem.mp hl i (i + 1) l1 l3 (Nat.lt_succ_self i)
    rw [l2, l4] at z
    exact z
  have eT : Ex H3 (upd H3 T (.tup [nI u, nI v])) := Ex.new hT
  refine ⟨T, [nI u, nI v], rfl, st_of upd_same, rfl, nI u, [nI v], rfl, nI v, [], rfl, rfl, rfl, ?_⟩
  refine (et_ltN (a := u) (b := v) (ta := tVar 4) (tb := tVar 5) (σ := [s0, s1, some (.ref t), o3, some (nI u), some (nI v)]) (ev_var rfl) (ev_var rfl)) _ (Ex.refl _) _ fun H5 e5 => ?_
  rw [decide_eq_false (show ¬ u < v by omega)]
  show (if false = true then _ else _)
  rw [if_neg Bool.false_ne_true]
  exact ⟨e3.trans (eT.trans e5), (eT.trans e5) _ _ h3⟩
end
section
variable {P : Program} {w : World} {K : PySem.W.Frag} {mg : Str → Option Value} {base : Heap}
theorem any_is_whole (Z : Txt K mg) : Cal P w K mg base 1 "is_whole" spIsWholeAny [] := by
  refine Z.d_is_whole.cal sc_is_whole (fun vs H Q E h => ?_) (fun f cdv A outer s H vs Q E hr h => ?_)
  · obtain ⟨v, rfl, _⟩ := h
    rfl
  · obtain ⟨v, rfl, q⟩ := h
    refine ⟨_, (pss_one (ps_ret (pe_and (pe_callB call_isi (by rfl) Z.f_isinstance (by decide +kernel) (pa_cons (pv 0) (pa_cons (pe_bltn (v := .ty "int") (by rfl) Z.f_int (by decide +kernel) rfl) pa_nil))) (pe_one (pe_not (pe_callB call_isi (by rfl) Z.f_isinstance (by decide +kernel) (pa_cons (pv 0) (pa_cons (pe_bltn (v := .ty "bool") (by rfl) Z.f_bool (by decide +kernel) rfl) pa_nil)))))))), ?_⟩
    rcases q with ⟨n, rfl, q⟩ | ⟨rfl, q⟩
    · exact s_ret (ev_andV (a := true) (b := true) (ev_cb (ea_cons (ev_var rfl) (ea_cons ev_c ea_nil)) (rc_isi (by decide +kernel))) fun _ => ev_notV (a := false) (ev_cb (ea_cons (ev_var rfl) (ea_cons ev_c ea_nil)) (rc_isi (by decide +kernel)))) q
    · exact s_ret (ev_andV (a := false) (b := true) (ev_cb (ea_cons (ev_var rfl) (ea_cons ev_c ea_nil)) (rc_isiN (by decide +kernel))) fun h => nomatch h) q
theorem ok_need_base_bad (Z : Txt K mg) : CalX P w K mg base 2 "need_base" (spNeedBaseBad K) := by
  refine Z.d_need_base.calX sc_need_base (fun vs H Q E h => ?_) (fun f cdv A outer s H vs Q E hr h => ?_)
  · obtain ⟨v, rfl, _⟩ := h
    rfl
  · obtain ⟨v, rfl, hv, k⟩ := h
    refine ⟨_, (pss_one (ps_if (PW.pt (pw_or (pt_not (pt_val (pe_c (any_is_whole Z) hr (by decide) (by rfl) (pa_cons (pv 0) pa_nil)))) (pw_or1 (pt_not (pt_chain op_le op_le pe_int (pv 0) pe_int)))))
        (pss_one (ps_raiseE rfl (takes_of rfl rfl rfl rfl) Z.e_NoBase (by rfl)))
        pss_nil)), ?_⟩
    have hints : ∀ i : Int, (decide (2 ≤ i) && decide (i ≤ 36)) = false → EvT (tOr (tNot (tB (tCall spIsWholeAny [] C8.E0 (tCons (tVar 0) tNil)))) (tNot (tB (tChain (rI0 fun i j => .bl (decide (i ≤ j))) (rI0 fun i j => .bl (decide (i ≤ j))) (tC (.int 2)) (tVar 0) (tC (.int 36)))))) [some (.int i)] H true := fun i hi =>
      et_is (et_or (et_not (et_B (ev_call (z := .bl true) (ea_cons (ev_var rfl) ea_nil) (fun _ _ _ q _ => ⟨.int i, rfl, .inl ⟨i, rfl, q⟩⟩)))) fun _ => et_not (et_B (ev_chain (ev_c) (ev_var rfl) (rv_I0) (fun _ => ev_c) (fun _ => rv_I0)))) (by rw [hi]; rfl)
    rcases hv with rfl | rfl | rfl | rfl
    · exact s_if (b := true) (hints 0 (by decide)) (fun _ H1 e => k H1 e) fun h => nomatch h
    · exact s_if (b := true) (hints 1 (by decide)) (fun _ H1 e => k H1 e) fun h => nomatch h
    · exact s_if (b := true) (hints 37 (by decide)) (fun _ H1 e => k H1 e) fun h => nomatch h
    · exact s_if (b := true) (et_or (a := true) (b := true) (et_not (a := false) (et_B (ev_call (z := .bl false) (ea_cons (ev_var rfl) ea_nil) (fun _ _ _ q _ => ⟨.non, rfl, .inr ⟨rfl, q⟩⟩)))) fun h => nomatch h) (fun _ H1 e => k H1 e) fun h => nomatch h
theorem ok_many_to_bad (Z : Txt K mg) : CalX P w K mg base 3 "many_to" (spManyToBad K) := by
  refine Z.d_many_to.calX sc_many_to (fun vs H Q E h => ?_) (fun f cdv A outer s H vs Q E hr h => ?_)
  · obtain ⟨n, v, rfl, _⟩ := h
    rfl
  · obtain ⟨n, v, rfl, hv, k⟩ := h
    refine ⟨_, (pss_cons (ps_expr (pe_cX (E := E) (ok_need_base_bad Z) hr (by decide) (by rfl) (takes_of rfl rfl rfl rfl) (pa_cons (pv 1) pa_nil)))
      (pss_cons (ps_if (pt_cmpR op_eq (pv 0) pe_int (nomark _))
        (pss_one (ps_ret pe_int))
        pss_nil)
      (pss_cons (ps_asg (pe_c (ok_half_of Z) hr (by decide) (by rfl) (pa_cons (pv 0) (pa_cons (pv 1) pa_nil))) (pg_tup rfl (pgs_cons (pg_name (i := 2) sc_many_to.nd rfl (Or.inl rfl)) (pgs_cons (pg_name (i := 3) sc_many_to.nd rfl (Or.inl rfl)) pgs_nil))))
      (pss_cons (ps_set (i := 4) sc_many_to.nd rfl (Or.inl rfl) (pe_op op_add (pe_op op_sub (pv 3) (pe_c (ok_power_of Z) hr (by decide) (by rfl) (pa_cons (pv 1) (pa_cons (pe_op op_fdiv (pe_op op_sub (pv 2) pe_int) pe_int) pa_nil)))) (pe_callTy call_int1 (by rfl) Z.f_int (by decide +kernel) (pa_cons (pe_cmpR op_le (pe_c (ok_mirror_of Z) hr (by decide) (by rfl) (pa_cons (pv 3) (pa_cons (pv 2) (pa_cons (pv 1) pa_nil)))) (pv 0) (nomark _)) pa_nil))))
      (pss_one (ps_ret (pe_op op_add (pv 4) (pe_callB (cr_sum rfl) (by rfl) Z.f_sum (by decide +kernel) (pa_cons (pe_lc (own := [("lesser", 5)]) (g := gName 5) (tt := tYes) rfl sc_many_to.nd (pi_range2 (by rfl) Z.f_range (pa_cons pe_int (pa_cons (pv 2) pa_nil))) (blkOk_by (N := nm_many_to) (sc := defScope s_many_to) (by decide +kernel)) (fun _ _ _ _ _ => pg_name (i := 5) sc_many_to.nd rfl (Or.inl rfl)) (fun _ _ _ _ _ => pts_nil) (fun _ _ _ _ _ => (pe_c (ok_many_of_size Z) hr (by decide) (by rfl) (pa_cons (pv 5) (pa_cons (pv 1) pa_nil))))) pa_nil))))))))), ?_⟩
    show tCall (spNeedBaseBad K) [] E (tCons (tVar 1) tNil) _ _ _
    exact goCallE (vs := [v]) (ea_cons (ev_var rfl) ea_nil) fun H2 e2 => ⟨v, rfl, hv, k.go e2⟩
theorem ok_mirrored_to_bad (Z : Txt K mg) : CalX P w K mg base 4 "mirrored_to" (spManyToBad K) := by
  refine Z.d_mirrored_to.calX sc_mirrored_to (fun vs H Q E h => ?_) (fun f cdv A outer s H vs Q E hr h => ?_)
  · obtain ⟨n, v, rfl, _⟩ := h
    rfl
  · obtain ⟨n, v, rfl, hv, k⟩ := h
    refine ⟨_, (pss_one (ps_ret (pe_lc (own := [("place", 2)]) (g := gName 2) (tt := tYes) rfl sc_mirrored_to.nd (pi_range2 (by rfl) Z.f_range (pa_cons pe_int (pa_cons (pe_op op_add (pe_cX (E := E) (ok_many_to_bad Z) hr (by decide) (by rfl) (takes_of rfl rfl rfl rfl) (pa_cons (pv 0) (pa_cons (pv 1) pa_nil))) pe_int) pa_nil))) (blkOk_by (N := nm_mirrored_to) (sc := defScope s_mirrored_to) (by decide +kernel)) (fun _ _ _ _ _ => pg_name (i := 2) sc_mirrored_to.nd rfl (Or.inl rfl)) (fun _ _ _ _ _ => pts_nil) (fun _ _ _ _ _ => (pe_c (ok_mirrored_at Z) hr (by decide) (by rfl) (pa_cons (pv 2) (pa_cons (pv 1) pa_nil))))))), ?_⟩
    show tCall (spManyToBad K) [] E (tCons (tVar 0) (tCons (tVar 1) tNil)) _ _ _
    exact goCallE (vs := [nI n, v]) (ea_cons (ev_var rfl) (ea_cons (ev_var rfl) ea_nil)) fun H2 e2 => ⟨n, v, rfl, hv, k.go e2⟩
theorem ok_table_bad (Z : Txt K mg) : CalX P w K mg base 5 "table" (spManyToBad K) := by
  refine Z.d_table.calX sc_table (fun vs H Q E h => ?_) (fun f cdv A outer s H vs Q E hr h => ?_)
  · obtain ⟨n, v, rfl, _⟩ := h
    rfl
  · obtain ⟨n, v, rfl, hv, k⟩ := h
    refine ⟨_, (pss_cons (ps_set (i := 2) sc_table.nd rfl (Or.inl rfl) (pe_cX (E := E) (ok_mirrored_to_bad Z) hr (by decide) (by rfl) (takes_of rfl rfl rfl rfl) (pa_cons (pv 0) (pa_cons (pv 1) pa_nil))))
      (pss_cons (ps_set (i := 3) sc_table.nd rfl (Or.inr rfl) (pe_lst (pa_cons pe_int pa_nil)))
      (pss_cons (ps_for (passes_of rfl) rfl (pi_range2 (by rfl) Z.f_range (pa_cons pe_int (pa_cons (pe_op op_add (pv 0) pe_int) pa_nil))) (pg_name (i := 4) sc_table.nd rfl (Or.inr rfl))
        (pss_one (ps_expr (pe_bm PySem.F.plainAttrs_list PySem.F.slot_list_append PySem.F.type_list_append mt_append (pv 3) (pa_cons (pe_op op_add pe_int (pe_callB (cr_min rfl) (by rfl) Z.f_min (by decide +kernel) (pa_cons (pe_lc (own := [("part", 5)]) (g := gName 5) (tt := _) rfl sc_table.nd (pi_list (pv 2)) (blkOk_by (N := nm_table) (sc := defScope s_table) (by decide +kernel)) (fun _ _ _ _ _ => pg_name (i := 5) sc_table.nd rfl (Or.inl rfl)) (fun _ _ _ _ _ => (pts_one (pt_cmpR op_le (pv 5) (pv 4) (nomark _)))) (fun _ _ _ _ _ => (pe_ix (r := rIxL K) ix_list (pv 3) (pe_op op_sub (pv 4) (pv 5)) (fun _ _ => rfl)))) pa_nil))) pa_nil)))))
      (pss_one (ps_ret (pv 3)))))), ?_⟩
    show tCall (spManyToBad K) [] E (tCons (tVar 0) (tCons (tVar 1) tNil)) _ _ _
    exact goCallE (vs := [nI n, v]) (ea_cons (ev_var rfl) (ea_cons (ev_var rfl) ea_nil)) fun H2 e2 => ⟨n, v, rfl, hv, k.go e2⟩
theorem ok_way_at_bad (Z : Txt K mg) : CalX P w K mg base 5 "way_at" (spWayAtBad K) := by
  refine Z.d_way_at.calX sc_way_at (fun vs H Q E h => ?_) (fun f cdv A outer s H vs Q E hr h => ?_)
  · obtain ⟨n, b, m, d, rfl, _⟩ := h
    rfl
  · obtain ⟨n, b, m, d, rfl, g, hn, hm, hd, k⟩ := h
    have hb := g.two
    refine ⟨_, (pss_cons (ps_set (i := 4) sc_way_at.nd rfl (Or.inl rfl) (pe_c (ok_mirrored_to Z) hr (by decide) (by rfl) (pa_cons (pv 0) (pa_cons (pv 1) pa_nil))))
      (pss_cons (ps_set (i := 5) sc_way_at.nd rfl (Or.inl rfl) (pe_c (ok_counts_by Z) hr (by decide) (by rfl) (pa_cons (pv 4) (pa_cons (pv 0) (pa_cons (pv 2) pa_nil)))))
      (pss_cons (ps_if (PW.pt (pw_or (pt_not (pt_val (pe_callB call_isi (by rfl) Z.f_isinstance (by decide +kernel) (pa_cons (pv 3) (pa_cons (pe_bltn (v := .ty "int") (by rfl) Z.f_int (by decide +kernel) rfl) pa_nil))))) (pw_or (pt_val (pe_callB call_isi (by rfl) Z.f_isinstance (by decide +kernel) (pa_cons (pv 3) (pa_cons (pe_bltn (v := .ty "bool") (by rfl) Z.f_bool (by decide +kernel) rfl) pa_nil)))) (pw_or1 (pt_not (pt_chain op_le op_lt pe_int (pv 3) (pe_ix ix_list (pe_ix ix_list (pe_ix ix_list (pv 5) (pe_un un_neg pe_int) (fun _ _ => rfl)) (pv 2) (fun _ _ => rfl)) (pv 0) (fun _ _ => rfl))))))))
        (pss_one (ps_raiseE rfl (takes_of rfl rfl rfl rfl) Z.e_NoPlace (by rfl)))
        pss_nil)
      (pss_cons (ps_set (i := 6) sc_way_at.nd rfl (Or.inl rfl) (pe_lst pa_nil))
      (pss_cons (ps_set (i := 7) sc_way_at.nd rfl (Or.inl rfl) (pv 0))
      (pss_cons (ps_set (i := 8) sc_way_at.nd rfl (Or.inl rfl) (pv 3))
      (pss_cons (ps_set (i := 9) sc_way_at.nd rfl (Or.inl rfl) (pe_callB call_len_seq (by rfl) Z.f_len PySem.boot_len (pa_cons (pv 4) pa_nil)))
      (pss_cons (ps_for (passes_of rfl) rfl (pi_range3 (by rfl) Z.f_range (pa_cons (pe_op op_sub (pv 2) pe_int) (pa_cons (pe_un un_neg pe_int) (pa_cons (pe_un un_neg pe_int) pa_nil)))) (pg_name (i := 10) sc_way_at.nd rfl (Or.inl rfl))
        (pss_cons (ps_while (passes_of rfl) (pt_val pe_bl)
          (pss_cons (ps_set (i := 11) sc_way_at.nd rfl (Or.inl rfl) (pe_ix ix_list (pv 4) (pe_op op_sub (pv 9) pe_int) (fun _ _ => rfl)))
          (pss_cons (ps_set (i := 12) sc_way_at.nd rfl (Or.inl rfl) pe_int)
          (pss_cons (ps_if (pt_cmpR op_le (pv 11) (pv 7) (nomark _))
            (pss_one (ps_set (i := 12) sc_way_at.nd rfl (Or.inl rfl) (pe_ix ix_list (pe_ix ix_list (pe_ix ix_list (pv 5) (pv 9) (fun _ _ => rfl)) (pv 10) (fun _ _ => rfl)) (pe_op op_sub (pv 7) (pv 11)) (fun _ _ => rfl))))
            pss_nil)
          (pss_cons (ps_if (pt_cmpR op_lt (pv 8) (pv 12) (nomark _))
            (pss_one ps_break)
            pss_nil)
          (pss_cons (ps_aug (i := 8) sc_way_at.nd rfl (Or.inl rfl) (pv 12) iop_sub)
          (pss_one (ps_aug (i := 9) sc_way_at.nd rfl (Or.inl rfl) pe_int iop_sub))))))))
        (pss_cons (ps_expr (pe_bm PySem.F.plainAttrs_list PySem.F.slot_list_append PySem.F.type_list_append mt_append (pv 6) (pa_cons (pv 11) pa_nil)))
        (pss_one (ps_aug (i := 7) sc_way_at.nd rfl (Or.inl rfl) (pv 11) iop_sub)))))
      (pss_one (ps_ret (pv 6))))))))))), ?_⟩
    refine q_asgL (el_call (ea_cons (ev_var rfl) (ea_cons (ev_var rfl) ea_nil)) (sl_mirTo g (by omega))) fun a H1 ha e1 h1 => ?_
    show tCall (spCounts K) [] C8.E0 (tCons (tVar 4) (tCons (tVar 0) (tCons (tVar 2) tNil))) _ _ _
    refine goCall (vs := [.ref a, nI n, nI m]) (ea_cons (ev_var rfl) (ea_cons (ev_var rfl) (ea_cons (ev_var rfl) ea_nil))) fun H2 e2 => ⟨a, b, cnt b n, n, m, rfl, hb, Nat.le_refl _, hn, hm, sq_of (e2 _ _ h1), fun F H3 hF e3 hC => ?_⟩
    dsimp only [gName]
    refine q_when (b := true) ?_ ?_ (fun h => nomatch h)
    · refine et_is (a := !true || (false || !(decide ((0 : Int) ≤ d) && decide (d < ((Cw (prt b) (cnt b n) m n : Nat) : Int))))) ?_ (by rw [decide_eq_false (show ¬ (0 : Int) ≤ d by omega)]; rfl)
      refine et_or (et_not (et_B (ev_cb (ea_cons (ev_var rfl) (ea_cons ev_c ea_nil)) (rc_isi (b := true) (by decide +kernel))))) fun _ => ?_
      refine et_or (et_B (ev_cb (ea_cons (ev_var rfl) (ea_cons ev_c ea_nil)) (rc_isi (b := false) (by decide +kernel)))) fun _ => ?_
      refine et_not (et_B (ev_chain (ev_c) (ev_var rfl) (rv_I0) (fun _ => ?_) (fun _ => rv_I0)))
      exact ev_cubeEnd (ev_var rfl) (ev_un (ev_c (v := .int 1)) ru_neg) (ev_var rfl) (ev_var rfl) hC (Nat.le_refl m) (Nat.le_refl n)
    · exact fun _ H4 e4 => k H4 (((e1.trans e2).trans e3).trans e4)
theorem ok_need_way_bad (Z : Txt K mg) : CalX P w K mg base 1 "need_way" (spNeedWayBad K) := by
  refine Z.d_need_way.calX sc_need_way (fun vs H Q E h => ?_) (fun f cdv A outer s H vs Q E hr h => ?_)
  · obtain ⟨n, b, a, t, rfl, _⟩ := h
    rfl
  · obtain ⟨n, b, a, t, rfl, ha, ht, k⟩ := h
    refine ⟨_, (pss_cons (ps_if (PW.pt (pw_or (pt_not (pt_val (pe_callB call_isi (by rfl) Z.f_isinstance (by decide +kernel) (pa_cons (pv 2) (pa_cons (pe_bltn (v := .ty "list") (by rfl) Z.f_list (by decide +kernel) rfl) pa_nil))))) (pw_or1 (pt_cmpR op_gt (pe_callB call_len_seq (by rfl) Z.f_len PySem.boot_len (pa_cons (pv 2) pa_nil)) (pv 0) (nomark _)))))
        (pss_one (ps_raiseE rfl (takes_of rfl rfl rfl rfl) Z.e_NoWay (by rfl)))
        pss_nil)
      (pss_cons (ps_for (passes_of rfl) rfl (pi_list (pv 2)) (pg_name (i := 3) sc_need_way.nd rfl (Or.inl rfl))
        (pss_one (ps_if (PW.pt (pw_or (pt_not (pt_val (pe_callB call_isi (by rfl) Z.f_isinstance (by decide +kernel) (pa_cons (pv 3) (pa_cons (pe_bltn (v := .ty "int") (by rfl) Z.f_int (by decide +kernel) rfl) pa_nil))))) (pw_or (pt_val (pe_callB call_isi (by rfl) Z.f_isinstance (by decide +kernel) (pa_cons (pv 3) (pa_cons (pe_bltn (v := .ty "bool") (by rfl) Z.f_bool (by decide +kernel) rfl) pa_nil)))) (pw_or1 (pt_cmpR op_notIn_seq (pv 3) (pv 1) (by rfl))))))
          (pss_one (ps_raiseE rfl (takes_of rfl rfl rfl rfl) Z.e_NoWay (by rfl)))
          pss_nil)))
      (pss_one (ps_if (PW.pt (pw_or (pt_cmpR (op_neD hr.units) (pe_lc (own := [("one", 4), ("other", 5)]) (g := gTup _ 2 (gCons (gName 4) (gCons (gName 5) gNil))) (tt := _) rfl sc_need_way.nd (pi_zip (by rfl) Z.f_zip (pa_cons (pv 2) (pa_cons (pe_slice sl_list (pv 2) (po_some pe_int) po_none) pa_nil))) (blkOk_by (N := nm_need_way) (sc := defScope s_need_way) (by decide +kernel)) (fun _ _ _ _ _ => pg_tup rfl (pgs_cons (pg_name (i := 4) sc_need_way.nd rfl (Or.inl rfl)) (pgs_cons (pg_name (i := 5) sc_need_way.nd rfl (Or.inl rfl)) pgs_nil))) (fun _ _ _ _ _ => (pts_one (pt_cmpR op_lt (pv 4) (pv 5) (nomark _)))) (fun _ _ _ _ _ => pe_int)) (pe_lst pa_nil) (nomark _)) (pw_or1 (pt_cmpR op_ne (pe_callB (cr_sum rfl) (by rfl) Z.f_sum (by decide +kernel) (pa_cons (pv 2) pa_nil)) (pv 0) (nomark _)))))
        (pss_one (ps_raiseE rfl (takes_of rfl rfl rfl rfl) Z.e_NoWay (by rfl)))
        pss_nil)))), ?_⟩
    refine q_when (b := false || decide (n < 2)) (et_or (a := false) (et_not (a := true) (et_B (ev_cb (ea_cons (ev_var rfl) (ea_cons ev_c ea_nil)) (z := .bl true) fun H1 e1 Q1 q1 => ⟨.ref t, .ty "list", _, _, true, rfl, .ty "list", .base (.lst (e1 _ _ ht)), kit_ty (by decide +kernel), q1 H1 (Ex.refl H1)⟩))) fun _ => et_gtN (a := 2) (ev_int (ev_lenA (ev_var rfl) (sq_of ht)) rfl) (ev_var rfl)) (fun _ H1 e1 => k H1 e1) fun hz H1 e1 => ?_
    have hn2 : ¬ n < 2 := of_decide_eq_false (by rw [Bool.false_or] at hz; exact hz)
    refine q_forLn (a := t) (xs := nats [n, 1]) (ev_var rfl) (sq_of (e1 _ _ ht)) (fun i σ' H' => ∃ o3, σ' = [some (nI n), some (.ref a), some (.ref t), o3, none, none] ∧ Ex H H') (fun H2 e2 => ⟨none, rfl, e1.trans e2⟩) (fun i σ' H' _ ⟨_, _, e'⟩ => sq_of (e' _ _ ht)) ?_ ?_
    · rintro i x σ' H' hx ⟨o3, rfl, e'⟩
      obtain ⟨x', hx'⟩ : ∃ x' : Nat, x = nI x' := by
        rcases i with _ | _ | i
        · cases hx; exact ⟨n, rfl⟩
        · cases hx; exact ⟨1, rfl⟩
        · cases hx
      subst hx'
      exact s_when (b := !true || (false || !inV (nI x') (nats (rp b (cnt b n))))) (et_or (et_not (et_B (ev_cb (ea_cons (ev_var rfl) (ea_cons ev_c ea_nil)) (rc_isi (b := true) (by decide +kernel))))) fun _ => et_or (et_B (ev_cb (ea_cons (ev_var rfl) (ea_cons ev_c ea_nil)) (rc_isi (b := false) (by decide +kernel)))) fun _ => et_test (ev_op (ev_var rfl) (ev_var rfl) (rv_niL (x := nI x') (ex_l e' ha) rfl (flat_nats _)))) (fun _ H2 e2 => k H2 (e'.trans e2)) fun _ H2 e2 => ⟨_, rfl, e'.trans e2⟩
    · rintro σ' H' ⟨o3, rfl, e'⟩
      have ht' := e' _ _ ht
      exact s_when (b := true) (et_is (et_or (et_test (ev_opL2 (el_fall (l := [n, 1]) (by rw [List.pairwise_cons]; exact ⟨fun y hy => by rw [List.mem_singleton.mp hy]; omega, List.pairwise_singleton _ _⟩) ht') (fun H1 e1 => el_lst (vs := ([] : List Int).map V.int) ea_nil (Nat.zero_le _)) fun p1 p2 H1 h1 h2 => rv_neInts (ns := []) (ms := []) (sq_of h1) (sq_of h2) (sz_of (Nat.zero_le _)) (sz_of (Nat.zero_le _)))) fun _ => et_test (ev_neN (ev_sumA (l := [n, 1]) (ev_var rfl) (sq_of ht')) (ev_var rfl))) (by
        rw [decide_eq_true rfl, decide_eq_false (show ¬ [n, 1].sum = n by simp)]
        rfl)) (fun _ H2 e2 => k H2 (e'.trans e2)) (fun h => nomatch h)
theorem ok_way_place_bad (Z : Txt K mg) : CalX P w K mg base 5 "way_place" (spWayPlaceBad K) := by
  refine Z.d_way_place.calX sc_way_place (fun vs H Q E h => ?_) (fun f cdv A outer s H vs Q E hr h => ?_)
  · obtain ⟨n, b, t, rfl, _⟩ := h
    rfl
  · obtain ⟨n, b, t, rfl, g, hn, ht, k⟩ := h
    refine ⟨_, (pss_cons (ps_set (i := 3) sc_way_place.nd rfl (Or.inl rfl) (pe_c (ok_mirrored_to Z) hr (by decide) (by rfl) (pa_cons (pv 0) (pa_cons (pv 1) pa_nil))))
      (pss_cons (ps_expr (pe_cX (E := E) (ok_need_way_bad Z) hr (by decide) (by rfl) (takes_of rfl rfl rfl rfl) (pa_cons (pv 0) (pa_cons (pv 3) (pa_cons (pv 2) pa_nil)))))
      (pss_cons (ps_set (i := 4) sc_way_place.nd rfl (Or.inl rfl) (pe_c (ok_counts_by Z) hr (by decide) (by rfl) (pa_cons (pv 3) (pa_cons (pv 0) (pa_cons (pe_callB call_len_seq (by rfl) Z.f_len PySem.boot_len (pa_cons (pv 2) pa_nil)) pa_nil)))))
      (pss_cons (ps_set (i := 5) sc_way_place.nd rfl (Or.inl rfl) pe_int)
      (pss_cons (ps_set (i := 6) sc_way_place.nd rfl (Or.inl rfl) (pv 0))
      (pss_cons (ps_set (i := 7) sc_way_place.nd rfl (Or.inl rfl) (pe_callB call_len_seq (by rfl) Z.f_len PySem.boot_len (pa_cons (pv 3) pa_nil)))
      (pss_cons (ps_for (passes_of rfl) rfl (pi_enum (by rfl) Z.f_enumerate (pa_cons (pv 2) pa_nil)) (pg_tup rfl (pgs_cons (pg_name (i := 8) sc_way_place.nd rfl (Or.inl rfl)) (pgs_cons (pg_name (i := 9) sc_way_place.nd rfl (Or.inl rfl)) pgs_nil)))
        (pss_cons (ps_while (passes_of rfl) (pt_cmpR op_gt (pe_ix ix_list (pv 3) (pe_op op_sub (pv 7) pe_int) (fun _ _ => rfl)) (pv 9) (nomark _))
          (pss_cons (ps_if (pt_cmpR op_le (pe_ix ix_list (pv 3) (pe_op op_sub (pv 7) pe_int) (fun _ _ => rfl)) (pv 6) (nomark _))
            (pss_one (ps_aug (i := 5) sc_way_place.nd rfl (Or.inl rfl) (pe_ix ix_list (pe_ix ix_list (pe_ix ix_list (pv 4) (pv 7) (fun _ _ => rfl)) (pe_op op_sub (pe_op op_sub (pe_callB call_len_seq (by rfl) Z.f_len PySem.boot_len (pa_cons (pv 2) pa_nil)) pe_int) (pv 8)) (fun _ _ => rfl)) (pe_op op_sub (pv 6) (pe_ix ix_list (pv 3) (pe_op op_sub (pv 7) pe_int) (fun _ _ => rfl))) (fun _ _ => rfl)) iop_add))
            pss_nil)
          (pss_one (ps_aug (i := 7) sc_way_place.nd rfl (Or.inl rfl) pe_int iop_sub))))
        (pss_one (ps_aug (i := 6) sc_way_place.nd rfl (Or.inl rfl) (pv 9) iop_sub))))
      (pss_one (ps_ret (pv 5)))))))))), ?_⟩
    refine q_asgL (el_call (ea_cons (ev_var rfl) (ea_cons (ev_var rfl) ea_nil)) (sl_mirTo g (by omega))) fun a H1 ha e1 h1 => ?_
    show tCall (spNeedWayBad K) [] E (tCons (tVar 0) (tCons (tVar 3) (tCons (tVar 2) tNil))) _ _ _
    exact goCallE (vs := [nI n, .ref a, .ref t]) (ea_cons (ev_var rfl) (ea_cons (ev_var rfl) (ea_cons (ev_var rfl) ea_nil))) fun H2 e2 => ⟨n, b, a, t, rfl, sq_of (e2 _ _ h1), e2 _ _ (e1 _ _ ht), k.go (e1.trans e2)⟩
end
end Mir
namespace Mir
open PySem PySem.Spec PyProof.Rows L2 Evl
open C8 (Cal pe_c)
section
variable {P : Program} {w : World} {K : PySem.W.Frag} {mg : Str → Option Value} {base : Heap}
theorem any3 {K : PySem.W.Frag} {c c1 c2 c3 : Value} {b1 b2 b3 : Bool} (h1 : PySem.W.exmOne K c c1 = some b1) (h2 : PySem.W.exmOne K c c2 = some b2) (h3 : PySem.W.exmOne K c c3 = some b3) (h : (b1 || (b2 || (b3 || false))) = true) : PySem.W.exmAny K c [c1, c2, c3] = some true := by
  simp only [PySem.W.exmAny, h1, h2, h3]
  exact congrArg some h
theorem sv_refused {b n m d turn : Nat} {wd : Addr} {H : Hp} (hw : H wd = some (.tup [nI b, nI n, nI m, nI d])) (h1 : 2 ≤ b) (h2 : b ≤ 36) (h3 : n ≤ 60) (h4 : m ≤ 12) : SpV spRefused [.ref wd, nI turn] H (.bl true) := fun _ e _ q _ => ⟨b, n, m, d, turn, wd, rfl, e _ _ hw, h1, h2, h3, h4, q⟩
theorem ok__law_refused (Z : Txt K mg) : Cal P w K mg base 6 "_law_refused" spRefused [] := by
  refine Z.d__law_refused.cal sc__law_refused (fun vs H Q E h => ?_) (fun f cdv A outer s H vs Q E hr h => ?_)
  · obtain ⟨b, n, m, d, turn, wd, rfl, _⟩ := h
    rfl
  · obtain ⟨b, n, m, d, turn, wd, rfl, hwd, hb, ht, hn, hm, q⟩ := h
    have g : Good n b := good_small hb ht (by omega)
    refine ⟨_, (pss_cons (ps_asg (pv 0) (pg_tup rfl (pgs_cons (pg_name (i := 2) sc__law_refused.nd rfl (Or.inl rfl)) (pgs_cons (pg_name (i := 3) sc__law_refused.nd rfl (Or.inl rfl)) (pgs_cons (pg_name (i := 4) sc__law_refused.nd rfl (Or.inl rfl)) (pgs_cons (pg_name (i := 5) sc__law_refused.nd rfl (Or.inl rfl)) pgs_nil))))))
      (pss_cons (ps_set (i := 6) sc__law_refused.nd rfl (Or.inl rfl) pe_bl)
      (pss_cons (ps_try3 rfl rfl ⟨rfl, by decide, .inl Z.e_NoBase.gl⟩ ⟨rfl, by decide, .inl Z.e_NoPlace.gl⟩ ⟨rfl, by decide, .inl Z.e_NoWay.gl⟩
        (fun W pn xe tk _ => (pss_one (ps_if (pt_cmpR op_eq (pe_op op_mod (pv 1) pe_int) pe_int (nomark _))
          (pss_one (ps_expr (pe_cT (ok_way_at_bad Z) hr (by decide) (by rfl) tk (pa_cons (pv 3) (pa_cons (pv 2) (pa_cons (pv 4) (pa_cons (pe_op op_sub (pe_un un_neg pe_int) (pv 5)) pa_nil)))))))
          (pss_one (ps_if (pt_cmpR op_eq (pe_op op_mod (pv 1) pe_int) pe_int (nomark _))
            (pss_one (ps_expr (pe_cT (ok_way_place_bad Z) hr (by decide) (by rfl) tk (pa_cons (pv 3) (pa_cons (pv 2) (pa_cons (pe_lst (pa_cons (pv 3) (pa_cons pe_int pa_nil))) pa_nil))))))
            (pss_one (ps_expr (pe_cT (ok_table_bad Z) hr (by decide) (by rfl) tk (pa_cons (pv 3) (pa_cons (pe_ix (r := rIxL K) ix_list (pe_lst (pa_cons pe_int (pa_cons pe_int (pa_cons pe_int (pa_cons pe_non pa_nil))))) (pe_op op_mod (pv 5) pe_int) (fun _ _ => rfl)) pa_nil))))))))))
        (fun a oe pn => (pss_one (ps_set (i := 6) sc__law_refused.nd rfl (Or.inl rfl) pe_bl))))
      (pss_one (ps_ret (pv 6)))))), ?_⟩
    refine ⟨.ref wd, rfl, wd, [nI b, nI n, nI m, nI d], rfl, st_of hwd, rfl, nI b, _, rfl, nI n, _, rfl, nI m, _, rfl, nI d, [], rfl, rfl, ?_⟩
    refine q_asg (v := .bl false) ev_c fun H1 e1 => ?_
    have caught : ∀ H2, Ex H1 H2 → tAsg (tC (.bl true)) (gName 6) { nx := tRet (tVar 6) { nx := fun _ H' => Q .non H', rt := Q }, rt := Q } [some (.ref wd), some (nI turn), some (nI b), some (nI n), some (nI m), some (nI d), some (.bl false)] H2 := fun H2 e2 =>
      s_asg (v := .bl true) ev_c fun H3 e3 => s_ret (ev_var rfl) fun H4 e4 => q H4 (((e1.trans e2).trans e3).trans e4)
    have hmod : ∀ {H2 : Hp} {i : Nat}, EvT (tTest (tOp rEq (tOp (rI (fun _ j => 0 < j) fun i j => .int (i % j)) (tVar 1) (tC (.int 3))) (tC (.int (i : Int))))) [some (.ref wd), some (nI turn), some (nI b), some (nI n), some (nI m), some (nI d), some (.bl false)] H2 (decide (turn % 3 = i)) := fun {H2 i} => et_test (ev_eqN (ev_modN (ev_var rfl) (ev_cN 3) (by decide)) (ev_cN i))
    refine s_if (hmod (i := 0)) (fun hc H2 e2 => ?_) fun hc H2 e2 => ?_
    · refine goCallS (vs := [nI n, nI b, nI m, .int (-1 - (d : Int))]) (ea_cons (ev_var rfl) (ea_cons (ev_var rfl) (ea_cons (ev_var rfl) (ea_cons (ev_op (ev_un (ev_c (v := .int 1)) ru_neg) (ev_var rfl) rv_I0) ea_nil)))) fun H3 e3 => ⟨n, b, m, -1 - (d : Int), rfl, g, by omega, by omega, by omega, fun H' e' => ⟨any3 Z.m_NoPlace_NoBase Z.m_NoPlace_NoPlace Z.m_NoPlace_NoWay rfl, caught H' ((e2.trans e3).trans e')⟩⟩
    · refine s_if (hmod (i := 1)) (fun hc1 H3 e3 => ?_) fun hc1 H3 e3 => ?_
      · show tCallS (spWayPlaceBad K) _ (tCons (tVar 3) (tCons (tVar 2) (tCons (tLst (tCons (tVar 3) (tCons (tC (.int 1)) tNil))) tNil))) [some (.ref wd), some (nI turn), some (nI b), some (nI n), some (nI m), some (nI d), some (.bl false)] H3 _
        refine ⟨nI n, rfl, nI b, rfl, ?_⟩
        refine goL (σ := [some (.ref wd), some (nI turn), some (nI b), some (nI n), some (nI m), some (nI d), some (.bl false)]) (te := tLst (tCons (tVar 3) (tCons (tC (.int 1)) tNil))) (xs := nats [n, 1]) (el_lst (ea_cons (ev_var rfl) (ea_cons (ev_cN 1) ea_nil)) (by show 2 ≤ 100000; decide)) fun t H4 ht4 e4 h4 => ?_
        exact ⟨n, b, t, rfl, g, by omega, h4, fun H' e' => ⟨any3 Z.m_NoWay_NoBase Z.m_NoWay_NoPlace Z.m_NoWay_NoWay rfl, caught H' (((e2.trans e3).trans e4).trans e')⟩⟩
      · obtain ⟨v, hv, hbad⟩ : ∃ v, [V.int 0, V.int 1, V.int 37, V.non][d % 4]? = some v ∧ BadB v := by
          have h4 : d % 4 < 4 := Nat.mod_lt _ (by decide)
          generalize d % 4 = u at h4
          rcases u with _ | _ | _ | _ | u
          · exact ⟨_, rfl, .inl rfl⟩
          · exact ⟨_, rfl, .inr (.inl rfl)⟩
          · exact ⟨_, rfl, .inr (.inr (.inl rfl))⟩
          · exact ⟨_, rfl, .inr (.inr (.inr rfl))⟩
          · omega
        refine goCallS (vs := [nI n, v]) (ea_cons (ev_var rfl) (ea_cons (ev_pick (vs := [V.int 0, V.int 1, V.int 37, V.non]) (j := d % 4) (ea_cons ev_c (ea_cons ev_c (ea_cons ev_c (ea_cons ev_c ea_nil)))) (by show 4 ≤ 100000; decide) (fun H4 => ev_modN (ev_var rfl) (ev_cN 4) (by decide)) hv) ea_nil)) fun H4 e4 => ⟨n, v, rfl, hbad, fun H' e' => ⟨any3 Z.m_NoBase_NoBase Z.m_NoBase_NoPlace Z.m_NoBase_NoWay rfl, caught H' (((e2.trans e3).trans e4).trans e')⟩⟩
end
end Mir
namespace Mir
open PySem PySem.Spec PyProof.Rows L2 Evl
open C8 (Cal pe_c)
/-! ## what is written of what was told -/
def Sm (v : V) : Prop := (∃ i : Int, v = .int i ∧ i.natAbs.log2 < 1920) ∨ ∃ b : Bool, v = .bl b
def dv : V → PyData
  | .int i => .int i
  | .bl b => .bool b
  | _ => .none
theorem sm_nat {x k : Nat} (h : x < 2 ^ k) (hk : k ≤ 1920) : Sm (nI x) := by
  refine .inl ⟨(x : Int), rfl, ?_⟩
  rw [Int.natAbs_natCast]
  by_cases c : x = 0
  · subst c
    exact (by decide : Nat.log2 0 < 1920)
  · exact (Nat.log2_lt c).mpr (Nat.lt_of_lt_of_le h (Nat.pow_le_pow_right (by decide) hk))
theorem sm_dp {K : PySem.W.Frag} {H : Hp} {v : V} (h : Sm v) : Dp K H v (dv v) := by
  rcases h with ⟨i, rfl, _⟩ | ⟨b, rfl⟩
  · exact .int i
  · exact .bl b
theorem sm_dpAll {K : PySem.W.Frag} {H : Hp} : ∀ {A : List V}, (∀ v ∈ A, Sm v) → DpAll K H A (A.map dv)
  | [], _ => .nil
  | v :: A, h => .cons (sm_dp (h v List.mem_cons_self)) (sm_dpAll fun x hx => h x (List.mem_cons_of_mem _ hx))
theorem sm_show {v : V} (h : Sm v) : (dv v).showable = true ∧ (dv v).hasDict = false ∧ (dv v).depth = 0 ∧ (dv v).canLay0 = true ∧ (dv v).shown.length ≤ 1921 := by
  rcases h with ⟨i, rfl, hi⟩ | ⟨b, rfl⟩
  · exact ⟨decide_eq_true hi, rfl, by simp [dv, PyData.depth], by simp [dv, PyData.canLay0], PyProof.Rows.int_text_len_1921 hi⟩
  · cases b
    · exact ⟨rfl, rfl, by simp [dv, PyData.depth], by simp [dv, PyData.canLay0], by decide +kernel⟩
    · exact ⟨rfl, rfl, by simp [dv, PyData.depth], by simp [dv, PyData.canLay0], by decide +kernel⟩
theorem sm_all : ∀ {A : List V}, (∀ v ∈ A, Sm v) → PyData.showableAll (A.map dv) = true ∧ PyData.hasDictAll (A.map dv) = false ∧ PyData.depthAll (A.map dv) ≤ 1 ∧ PyData.canLayAll0 (A.map dv) = true ∧ piled (PyData.shownAll (A.map dv)) ≤ A.length * 1923
  | [], _ => ⟨rfl, rfl, by simp [PyData.depthAll], rfl, Nat.zero_le _⟩
  | v :: A, h => by
    obtain ⟨a1, a2, a3, a4, a5⟩ := sm_show (h v List.mem_cons_self)
    obtain ⟨b1, b2, b3, b4, b5⟩ := sm_all (A := A) fun x hx => h x (List.mem_cons_of_mem _ hx)
    rw [List.map_cons, List.length_cons]
    refine ⟨?_, ?_, ?_, ?_, ?_⟩
    · rw [PyData.showableAll, a1, b1]
      rfl
    · rw [PyData.hasDictAll, a2, b2]
      rfl
    · simp only [PyData.depthAll]
      omega
    · rw [PyData.canLayAll0, a4, b4]
      rfl
    · rw [PyData.shownAll, piled_cons, Nat.add_mul, Nat.one_mul]
      omega
theorem textFrom_up : ∀ (ts : List Str) (k : Nat) (acc : Str), (textFrom k acc ts).length ≤ acc.length + piled ts
  | [], _, acc => Nat.le_refl _
  | t :: r, k, acc => by
    have ih := textFrom_up r (k + 1) (acc ++ (if k > 0 then ", " else "" : String) ++ t)
    have e : (acc ++ (if k > 0 then ", " else "" : String) ++ t).length ≤ acc.length + 2 + t.length := by
      rw [strLen_append, strLen_append]
      split
      · have : ((", " : String) : Str).length = 2 := by decide +kernel
        omega
      · have : (("" : String) : Str).length = 0 := by decide +kernel
        omega
    show (textFrom (k + 1) _ r).length ≤ _
    rw [piled_cons]
    omega
theorem listText_up (ts : List Str) : (listText ts).length ≤ piled ts + 2 := by
  have h := textFrom_up ts 0 "["
  have e1 : (("[" : String) : Str).length = 1 := by decide +kernel
  have e2 : (("]" : String) : Str).length = 1 := by decide +kernel
  show (textFrom 0 "[" ts ++ "]").length ≤ _
  rw [strLen_append]
  omega
/-- small lists: what is told -/
structure SmL (A : List V) : Prop where
  len : A.length ≤ 100
  all : ∀ v ∈ A, Sm v
def twoD (A B : List V) : PyData := .list [.list (A.map dv), .list (B.map dv)]
theorem twoD_ok {A B : List V} (ha : SmL A) (hb : SmL B) : (twoD A B).showable = true ∧ (twoD A B).hasDict = false ∧ (twoD A B).depth ≤ 50 ∧ (twoD A B).shown.length ≤ sizeLine := by
  obtain ⟨a1, a2, a3, a4, a5⟩ := sm_all ha.all
  obtain ⟨b1, b2, b3, b4, b5⟩ := sm_all hb.all
  have la := listText_up (PyData.shownAll (A.map dv))
  have lb := listText_up (PyData.shownAll (B.map dv))
  have hla := ha.len
  have hlb := hb.len
  unfold twoD
  refine ⟨?_, ?_, ?_, ?_⟩
  · simp only [PyData.showable, PyData.showableAll, a1, b1]
    rfl
  · simp only [PyData.hasDict, PyData.hasDictAll, a2, b2]
    rfl
  · simp only [PyData.depth, PyData.depthAll]
    omega
  · rw [PyData.shown, PyData.shownAll, PyData.shownAll, PyData.shownAll, PyData.shown, PyData.shown]
    have l := listText_up [listText (PyData.shownAll (A.map dv)), listText (PyData.shownAll (B.map dv))]
    rw [piled_cons, piled_cons, piled_nil] at l
    refine Nat.le_trans l ?_
    have hs : (1000000 : Nat) ≤ sizeLine := by rw [sizeLine_eq]; decide
    omega
/-- nothing behind the first is told as one False -/
def TailOk (B : List V) : Prop := PyData.eqvAll ((B.drop 1).map dv) [.bool false] = false
theorem pow_lt {x y k j : Nat} (h : x ≤ y) (hy : y < 2 ^ k) (hk : k ≤ j) : x < 2 ^ j := Nat.lt_of_le_of_lt h (Nat.lt_of_lt_of_le hy (Nat.pow_le_pow_right (by decide) hk))
theorem sm_le {x : Nat} (h : x ≤ 1000) : Sm (nI x) := sm_nat (k := 10) (Nat.lt_of_le_of_lt h (by decide)) (by decide)
theorem smL_nats {l : List Nat} (h : l.length ≤ 100) (g : ∀ x ∈ l, x ≤ 1000) : SmL (nats l) := ⟨by rw [List.length_map]; exact h, fun v hv => by
  obtain ⟨x, hx, rfl⟩ := List.mem_map.mp hv
  exact sm_le (g x hx)⟩
theorem smL_nil : SmL [] := ⟨Nat.zero_le _, fun v hv => by cases hv⟩
section
variable {b n m d : Nat} (hb : 2 ≤ b) (hn : n ≤ 60) (hm : m ≤ 12)
include hb hn hm
theorem cW_small : cW b n m < 2 ^ 80 := by
  have hc := cnt_le hb n
  exact pow_lt (k := 80) (Cw_le _ _ _ _) (Nat.pow_lt_pow_right (by decide) (by omega)) (Nat.le_refl _)
theorem askA_sm (at' : Nat) : SmL (askA b n m d at') := by
  have hc := cnt_le hb n
  unfold askA
  split
  · unfold fwv
    split
    · exact smL_nats (Nat.zero_le _) fun x hx => by cases hx
    · obtain ⟨h1, h2⟩ := fwGo_len (p := prt b) (mem := isPrt b n) (R := cnt b n) (n := n) n 1
      exact smL_nats (by omega) fun x hx => by have := h2 x hx; omega
  · split
    · unfold tbv
      by_cases h0 : n = 0
      · subst h0
        exact smL_nats (by rw [tb_len]; omega) fun x hx => by rw [List.mem_singleton.mp hx]; omega
      · refine smL_nats (by rw [tb_len]; omega) fun x hx => ?_
        obtain ⟨i, hi⟩ := List.mem_iff_getElem?.mp hx
        have h1 := tb_le (cnt_one hb (n := n) (by omega)) (prt_zero hb) n i x hi
        have h2 := (List.getElem?_eq_some_iff.mp hi).1
        rw [tb_len] at h2
        omega
    · split
      · refine ⟨by show 3 ≤ 100; decide, fun v hv => ?_⟩
        rcases List.mem_cons.mp hv with e | hv
        · rw [e]
          exact sm_nat (cW_small hb hn hm) (by decide)
        · rcases List.mem_cons.mp hv with e | hv
          · rw [e]
            have h1 := Aw_le (prt b) n (cnt b n) n (Nat.le_refl n)
            have h2 : (n + 1) ^ cnt b n ≤ (2 ^ 6) ^ 60 := Nat.le_trans (Nat.pow_le_pow_left (by omega) _) (Nat.pow_le_pow_right (by decide) (by omega))
            rw [← Nat.pow_mul] at h2
            exact sm_nat (k := 361) (Nat.lt_of_le_of_lt (Nat.le_trans h1 h2) (Nat.pow_lt_pow_right (by decide) (by decide))) (by decide)
          · rw [List.mem_singleton.mp hv]
            refine sm_le ?_
            have z : hmv b n m ≤ n + 1 := by
              have z1 := List.count_le_length (a := (m : Int)) (l := ((tbv b n).drop 1).map fun x : Nat => (x : Int))
              rw [List.length_map, List.length_drop] at z1
              have z2 : (tbv b n).length = n + 1 := tb_len _ _ _
              unfold hmv
              omega
            omega
      · split
        · exact smL_nil
        · rename_i hne
          have hd : d % cW b n m < Cw (prt b) (cnt b n) m n := Nat.mod_lt _ (by omega)
          obtain ⟨w1, w2, w3, w4⟩ := wa_spec (prt b) m (cnt b n) n (d % cW b n m) hd
          unfold wayV
          refine smL_nats (by rw [List.length_map, w1]; omega) fun x hx => ?_
          obtain ⟨i, hi, rfl⟩ := List.mem_map.mp hx
          have := prt_top hb (w3 i hi)
          omega
theorem hrd_le {x : Nat} (h : x ∈ hrd b n) : x ≤ n := by
  have := List.mem_range.mp (List.mem_filter.mp h).1
  omega
theorem askB_sm (at' : Nat) : SmL (askB b n m d at') := by
  have hc := cnt_le hb n
  unfold askB
  split
  · exact smL_nil
  · split
    · refine smL_nats ?_ fun x hx => by have := hrd_le hb hn hm hx; omega
      have z := List.length_filter_le (fun i => decide ((tbv b n).getD i 0 = mxl (tbv b n))) (List.range (n + 1))
      rw [List.length_range] at z
      unfold hrd
      omega
    · split
      · exact smL_nil
      · split
        · exact smL_nil
        · rename_i hne
          have hd : d % cW b n m < Cw (prt b) (cnt b n) m n := Nat.mod_lt _ (by omega)
          obtain ⟨w1, w2, w3, w4⟩ := wa_spec (prt b) m (cnt b n) n (d % cW b n m) hd
          refine ⟨by show 2 ≤ 100; decide, fun v hv => ?_⟩
          rcases List.mem_cons.mp hv with e | hv
          · rw [e]
            have h1 := wp_le (prt b) (cnt b n) m (wa (prt b) m (cnt b n) n (d % cW b n m)) n (cnt b n) 0 (Nat.le_refl _) (by omega)
            rw [w1] at h1
            have h2 : 2 ^ (cnt b n + m) ≤ 2 ^ 72 := Nat.pow_le_pow_right (by decide) (by omega)
            have h3 : cnt b n * 2 ^ (cnt b n + m) ≤ 60 * 2 ^ 72 := Nat.mul_le_mul (by omega) h2
            have h4 : m * (cnt b n * 2 ^ (cnt b n + m)) ≤ 12 * (60 * 2 ^ 72) := Nat.mul_le_mul hm h3
            exact sm_nat (k := 90) (Nat.lt_of_le_of_lt (Nat.le_trans h1 (by omega)) (by decide : 12 * (60 * 2 ^ 72) < 2 ^ 90)) (by decide)
          · rw [List.mem_singleton.mp hv]
            exact .inr ⟨true, rfl⟩
theorem askB_tail (at' : Nat) : TailOk (askB b n m d at') := by
  unfold TailOk askB
  split
  · rfl
  · split
    · have hp : (hrd b n).Pairwise (· < ·) := List.Pairwise.sublist List.filter_sublist List.pairwise_lt_range
      generalize hrd b n = l at hp
      cases l with
      | nil => rfl
      | cons x r =>
        cases r with
        | nil => rfl
        | cons y r =>
          have hxy := List.rel_of_pairwise_cons hp List.mem_cons_self
          show PyData.eqvAll (PyData.int (y : Int) :: (nats r).map dv) [.bool false] = false
          have e0 : ((y : Int) == 0) = false := beq_eq_false_iff_ne.mpr (by omega)
          rw [PyData.eqvAll, PyData.eqv]
          simp only [Bool.false_eq_true, if_false]
          rw [e0]
          rfl
    · split
      · rfl
      · split
        · rfl
        · rfl
end
end Mir
namespace Mir
open PySem PySem.Spec PyProof.Rows L2 Evl
open C8 (Cal pe_c)
/-! ## the law -/
def spLaw (K : PySem.W.Frag) : Sp := fun vs H Q _ => ∃ (a : Addr) (ns : List Int), vs = [.ref a] ∧ SqL K H a (ns.map V.int) ∧ ns.length ≤ 63 ∧ ∀ H', Q (.bl true) H'
abbrev Wd : Type := Nat × Nat × Nat × Nat
def WOk (x : Wd) : Prop := 2 ≤ x.1 ∧ x.1 ≤ 36 ∧ x.2.1 ≤ 60 ∧ x.2.2.1 ≤ 12
def WsAt (H : Hp) (wl : Addr) (as : List Addr) (ws : List Wd) : Prop := H wl = some (.lst (as.map V.ref)) ∧ as.length = ws.length ∧ ∀ (i : Nat) (a : Addr) (x : Wd), as[i]? = some a → ws[i]? = some x → H a = some (.tup [nI x.1, nI x.2.1, nI x.2.2.1, nI x.2.2.2]) ∧ WOk x
theorem WsAt.keep {H H' : Hp} {wl : Addr} {as : List Addr} {ws : List Wd} (h : WsAt H wl as ws) (k : ∀ b o, H b = some o → (∀ i j : Int, o ≠ .lst [.int i, .int j]) → (∀ kvs, o ≠ .dT kvs) → H' b = some o) : WsAt H' wl as ws := by
  obtain ⟨h1, h2, h3⟩ := h
  refine ⟨k _ _ h1 (fun i j e => ?_) (fun _ e => nomatch e), h2, fun i a x u v => ⟨k _ _ (h3 i a x u v).1 (fun _ _ e => nomatch e) (fun _ e => nomatch e), (h3 i a x u v).2⟩⟩
  have z := HO.lst.inj e
  cases as with
  | nil => cases z
  | cons a l => cases z
theorem WsAt.hand {H H' : Hp} {wl hd : Addr} {as : List Addr} {ws : List Wd} (h : WsAt H wl as ws) (hh : Hand H hd) (k : Keep hd H H') : WsAt H' wl as ws := h.keep fun b o e n1 _ => k b o (fun z => by
  obtain ⟨d, m, g, _⟩ := hh
  rw [z, g] at e
  cases e
  exact n1 d m rfl) e
theorem WsAt.mono {H H' : Hp} {wl : Addr} {as : List Addr} {ws : List Wd} (h : WsAt H wl as ws) (e : Ex H H') : WsAt H' wl as ws := h.keep fun b o g _ _ => e b o g
def txt2 (x : Wd) (at' : Nat) : Str := (twoD (askA x.1 x.2.1 x.2.2.1 x.2.2.2 at') (askB x.1 x.2.1 x.2.2.1 x.2.2.2 at')).shown
def key2 (a w : Nat) : List Key := [.inl (a : Int), .inl (w : Int)]
def Said (ws : List Wd) (kvs : List (List Key × V)) : Prop := ∀ (a w : Nat) (x : Wd), ws[w]? = some x → (valV kvs (key2 a w)).getD (.str (txt2 x a)) = .str (txt2 x a)
theorem Said.put {ws : List Wd} {kvs : List (List Key × V)} (h : Said ws kvs) {a w : Nat} {x : Wd} (hx : ws[w]? = some x) : Said ws (putK kvs (key2 a w) (.str (txt2 x a))) := fun a' w' x' hx' => by
  rw [valV_put]
  by_cases c : key2 a' w' = key2 a w
  · rw [if_pos c]
    unfold key2 at c
    have e1 : (a' : Int) = a := Sum.inl.inj (List.cons.inj c).1
    have e2 : (w' : Int) = w := Sum.inl.inj (List.cons.inj (List.cons.inj c).2).1
    have e1 : a' = a := by omega
    have e2 : w' = w := by omega
    subst e1 e2
    rw [hx] at hx'
    cases hx'
    rfl
  · rw [if_neg c]
    exact h a' w' x' hx'
/-- all but two is kept -/
def K2 (p q : Addr) (H H' : Hp) : Prop := ∀ b o, b ≠ p → b ≠ q → H b = some o → H' b = some o
section
variable {K : PySem.W.Frag} {σ : L2.St} {H : Hp} {D : Ends} {td ty tv tx : TE}
theorem ev_dget2 {S : Addr} {kvs : List (List Key × V)} {k : List Key} {z : V} (hd : Ev td σ H (.ref S)) (hS : H S = some (.dT kvs)) (hy : EvU ty σ H (k.map kV)) (hx : Ev tx σ H z) : Ev (tDGet2 td ty tx) σ H ((valV kvs k).getD z) := fun H1 e Q q =>
  hd H1 e _ fun H2 e2 => ⟨S, rfl, .inr ⟨kvs, .inl ((e.trans e2) _ _ hS)⟩, hy H2 (e.trans e2) _ fun t H3 _ e3 h3 => hx H3 ((e.trans e2).trans e3) _ fun H4 e4 => ⟨_, .t ((((e.trans e2).trans e3).trans e4) _ _ hS) (e4 _ _ h3), q H4 ((e2.trans e3).trans e4)⟩⟩
theorem q_dputU {tz : TS} {S : Addr} {kvs : List (List Key × V)} {k : List Key} {v : V} (hv : Ev tv σ H v) (hd : Ev td σ H (.ref S)) (hy : EvU ty σ H (k.map kV)) (hS : H S = some (.dT kvs)) (hl : kvs.length < 100000) (g : ∀ H1, Ex H H1 → tz D σ (upd H1 S (.dT (putK kvs k v)))) : tSeq (sDPut td ty tv) tz D σ H :=
  hv H (Ex.refl H) _ fun H1 e1 => hd H1 e1 _ fun H2 e2 => hy H2 (e1.trans e2) _ fun t H3 _ e3 h3 => ⟨S, _, rfl, .t (((e1.trans e2).trans e3) _ _ hS) h3 (sz_lt hl), g H3 ((e1.trans e2).trans e3)⟩
theorem s_rev {ta : TE} {l : Addr} {xs : List V} (hl : H l = some (.lst xs)) (ha : Ev ta σ H (.ref l)) (k : ∀ H1, Ex H H1 → D.nx σ (upd H1 l (.lst xs.reverse))) : tDrop (tBM0 K "list" rReverse ta) D σ H := ha H (Ex.refl H) _ fun H1 e1 =>
  ⟨.inl ⟨rfl, _, sq_of (e1 _ _ hl)⟩, l, xs, rfl, rfl, e1 _ _ hl, k H1 e1⟩
theorem rv_eqD {x y : V} {d e : PyData} (h1 : Dp K H x d) (h2 : Dp K H y e) (s1 : SeqAt.shaped d = true) (s2 : SeqAt.shaped e = true) (Q : VK) (q : Q (.bl (PyData.eqv d e)) H) : rEqD K x y H Q := ⟨d, e, h1, h2, s1, s2, q⟩
theorem shaped_sm {A : List V} (h : ∀ v ∈ A, Sm v) : SeqAt.shaped (.list (A.map dv)) = true := by
  obtain ⟨_, _, b3, b4, _⟩ := sm_all h
  unfold SeqAt.shaped
  rw [Bool.and_eq_true_iff]
  constructor
  · rw [PyData.canLay0]
    first
      | exact b4
      | (rw [b4]; simp)
  · rw [decide_eq_true_iff, PyData.depth]
    omega
end
section
variable {P : Program} {w : World} {K : PySem.W.Frag} {mg : Str → Option Value} {base : Heap}
theorem law_run {f : Addr} {fd : FuncData} (Z : Txt K mg) (F : FunD K "law" "law" (defArgs s_law) (defBody s_law) (defScope s_law) [] [] f fd) : RunAt P w K mg base CX0 f fd ["script"] (spLaw K) callerA := by
  have hroom : Room (64 + 1) callerA := ⟨rfl, by decide, by decide⟩
  refine FunD.runAt F sc_law hroom (fun vs H Q E h => ?_) (fun cdv outer s H vs Q E h => ?_)
  · obtain ⟨a, ns, rfl, _⟩ := h
    rfl
  · have hr := hroom.deeper (envOfC "law" (defScope s_law) s.heap.objs.size f cdv)
    obtain ⟨a, ns, rfl, hs, hn, q⟩ := h
    refine ⟨_, PSs.nox (pss_cons (ps_for PassesOwn.never rfl (pi_list (pe_c (ok__law_cells Z) hr (by decide) (by rfl) (pa_cons (pv 0) (pa_cons pe_int pa_nil)))) (pg_tup rfl (pgs_cons (pg_name (i := 1) sc_law.nd rfl (Or.inl rfl)) (pgs_cons (pg_name (i := 2) sc_law.nd rfl (Or.inl rfl)) pgs_nil)))
        (pss_cons (ps_set (i := 3) sc_law.nd rfl (Or.inl rfl) (pe_c (ok__law_hand Z) hr (by decide) (by rfl) (pa_cons (pv 2) (pa_cons (pv 1) pa_nil))))
        (pss_cons (ps_set (i := 4) sc_law.nd rfl (Or.inl rfl) (pe_lst pa_nil))
        (pss_cons (ps_for PassesOwn.never rfl (pi_range1 (by rfl) Z.f_range (pa_cons pe_int pa_nil)) (pg_name (i := 5) sc_law.nd rfl (Or.inl rfl))
          (pss_cons (ps_set (i := 6) sc_law.nd rfl (Or.inl rfl) (pe_c (ok__law_base Z) hr (by decide) (by rfl) (pa_cons (pv 3) pa_nil)))
          (pss_one (ps_expr (pe_bm PySem.F.plainAttrs_list PySem.F.slot_list_append PySem.F.type_list_append mt_append (pv 4) (pa_cons (pe_tup (pa_cons (pv 6) (pa_cons (pe_c (ok__law_number Z) hr (by decide) (by rfl) (pa_cons (pv 3) (pa_cons (pv 6) (pa_cons pe_int pa_nil)))) (pa_cons (pe_c (ok__law_draw Z) hr (by decide) (by rfl) (pa_cons (pv 3) (pa_cons pe_int pa_nil))) (pa_cons (pe_c (ok__law_draw Z) hr (by decide) (by rfl) (pa_cons (pv 3) (pa_cons (pe_op op_pow pe_int pe_int) pa_nil))) pa_nil))))) pa_nil))))))
        (pss_cons (ps_set (i := 7) sc_law.nd rfl (Or.inl rfl) pe_dnewT)
        (pss_one (ps_for PassesOwn.never rfl (pi_range1 (by rfl) Z.f_range (pa_cons pe_int pa_nil)) (pg_name (i := 8) sc_law.nd rfl (Or.inl rfl))
          (pss_cons (ps_set (i := 9) sc_law.nd rfl (Or.inl rfl) (pe_c (ok__law_draw Z) hr (by decide) (by rfl) (pa_cons (pv 3) (pa_cons pe_int pa_nil))))
          (pss_cons (ps_set (i := 10) sc_law.nd rfl (Or.inl rfl) (pe_c (ok__law_draw Z) hr (by decide) (by rfl) (pa_cons (pv 3) (pa_cons pe_int pa_nil))))
          (pss_cons (ps_set (i := 11) sc_law.nd rfl (Or.inl rfl) (pe_c (ok__law_asked Z) hr (by decide) (by rfl) (pa_cons (pv 9) (pa_cons (pe_ix ix_list (pv 4) (pv 10) (fun _ _ => rfl)) pa_nil))))
          (pss_cons (ps_set (i := 12) sc_law.nd rfl (Or.inl rfl) (pe_callB (call_reprD (by rfl) hr.units) (by rfl) Z.f_repr (by decide +kernel) (pa_cons (pv 11) pa_nil)))
          (pss_cons (ps_if (PW.pt (pw_or (pt_cmpR op_ne (pe_dget2 (hu_of hr) (pv 7) (pe_tup (pa_cons (pv 9) (pa_cons (pv 10) pa_nil))) (pv 12) ⟨by rfl, by rfl, by rfl, by rfl⟩) (pv 12) (nomark _)) (pw_or1 (pt_cmpR (op_eqD hr.units) (pe_slice sl_list (pe_ix ix_list (pv 11) pe_int (fun _ _ => rfl)) (po_some pe_int) po_none) (pe_lst (pa_cons pe_bl pa_nil)) (nomark _)))))
            (pss_one (ps_ret pe_bl))
            pss_nil)
          (pss_cons (ps_dput (hu_of hr) (pv 7) (pe_tup (pa_cons (pv 9) (pa_cons (pv 10) pa_nil))) (pv 12) rfl)
          (pss_cons (ps_for PassesOwn.never rfl (pi_list (pv 11)) (pg_name (i := 13) sc_law.nd rfl (Or.inl rfl))
            (pss_cons (ps_expr (pe_bm PySem.F.plainAttrs_list PySem.F.slot_list_append PySem.F.type_list_append mt_append (pv 13) (pa_cons (pe_un un_neg pe_int) pa_nil)))
            (pss_one (ps_expr (pe_bm0 PySem.F.plainAttrs_list PySem.F.slot_list_reverse PySem.F.type_list_reverse mt_reverse (pv 13))))))
          (pss_one (ps_if (pt_not (pt_val (pe_c (ok__law_refused Z) hr (by decide) (by rfl) (pa_cons (pe_ix ix_list (pv 4) (pv 10) (fun _ _ => rfl)) (pa_cons (pv 8) pa_nil)))))
            (pss_one (ps_ret pe_bl))
            pss_nil))))))))))))))))
      (pss_one (ps_ret pe_bl))), ?_⟩
    refine ⟨.ref a, rfl, a, ns, 3, rfl, hs, hn, fun p Hc cs hp ec ⟨ts, h1, h2, h3⟩ hcs => ⟨p, rfl, ⟨ts.map V.ref, sq_of h1⟩, ?_⟩⟩
    refine for_list (xs := ts.map V.ref) (fun i σ' H' => ∃ o1 o2 o3 o4 o5 o6 o7 o8 o9 o10 o11 o12 o13, σ' = [some (.ref a), o1, o2, o3, o4, o5, o6, o7, o8, o9, o10, o11, o12, o13] ∧ Ex Hc H') ⟨none, none, none, none, none, none, none, none, none, none, none, none, none, rfl, Ex.refl Hc⟩ ?_ ?_ ?_
    · rintro i σ' H' _ ⟨_, _, _, _, _, _, _, _, _, _, _, _, _, _, e'⟩
      exact sq_of (e' p _ h1)
    · rintro i x σ' H' hx ⟨o1, o2, o3, o4, o5, o6, o7, o8, o9, o10, o11, o12, o13, rfl, e'⟩
      have hj : i < ts.length := by
        have := (List.getElem?_eq_some_iff.mp hx).1
        rw [List.length_map] at this
        exact this
      obtain ⟨t, ht⟩ : ∃ t, ts[i]? = some t := ⟨ts[i], List.getElem?_eq_getElem hj⟩
      obtain ⟨c, hc⟩ : ∃ c, cs[i]? = some c := ⟨cs[i]'(by omega), List.getElem?_eq_getElem (by omega)⟩
      have ex : x = .ref t := by
        rw [List.getElem?_map, ht] at hx
        exact (Option.some.inj hx).symm
      subst ex
      refine ⟨t, [nI i, .int c], rfl, st_of (e' t _ (h3 i t c ht hc)), rfl, nI i, [.int c], rfl, .int c, [], rfl, rfl, ?_⟩
      refine ⟨.int c, rfl, nI i, rfl, c, i, rfl, by omega, fun hd H1 hd0 e1 hh1 => ?_⟩
      have hdc : Hc hd = none := fresh_back e' hd0
      have ec1 := e'.trans e1
      refine q_asgL (i := 4) (xs := []) (el_lst ea_nil (Nat.zero_le _)) fun wl H2 hwl e2 hwl2 => ?_
      have wlc : Hc wl = none := fresh_back ec1 hwl
      refine q_forR1 (j := 5) (n := ((2 : Nat) : Int)) (ea_cons (ev_cN 2) ea_nil) ⟨by decide, by decide⟩ (fun j σ' H' => ∃ (as : List Addr) (ws : List Wd) (o5 o6 : Option V), σ' = [some (.ref a), some (nI i), some (.int c), some (.ref hd), some (.ref wl), o5, o6, o7, o8, o9, o10, o11, o12, o13] ∧ Ex Hc H' ∧ Hand H' hd ∧ WsAt H' wl as ws ∧ ws.length = j)
        (fun H3 e3 => ⟨[], [], o5, o6, rfl, (ec1.trans e2).trans e3, (hh1.mono e2).mono e3, ⟨e3 _ _ hwl2, rfl, fun i a x h => nomatch h⟩, rfl⟩) ?_ ?_
      · rintro j σ' H3 hj3 ⟨as, ws, p5, p6, rfl, e3, hh3, hws, hwl3⟩
        refine ⟨.ref hd, rfl, hd, rfl, hh3, fun H4 b k4 hh4 b1 b2 => ?_⟩
        have hws4 := hws.hand hh3 k4
        refine ⟨.ref wl, rfl, .inl ⟨rfl, _, sq_of hws4.1⟩, nI b, rfl, .ref hd, rfl, nI b, rfl, hd, b, rfl, b1, b2, hh4, fun H5 n k5 hh5 hn5 => ?_⟩
        have hws5 := hws4.hand hh4 k5
        refine ⟨.ref hd, rfl, hd, 13, rfl, by decide, by decide, hh5, fun H6 m k6 hh6 hm6 => ?_⟩
        have hws6 := hws5.hand hh5 k6
        refine ⟨.ref hd, rfl, 10, 6, rfl, rfl, ⟨by decide, by decide, by decide⟩, hd, 1000000, rfl, by decide, by decide, hh6, fun H7 d k7 hh7 hd7 => ?_⟩
        have hws7 := hws6.hand hh6 k7
        refine ⟨sz_of (by show 4 ≤ 100000; decide), fun tp htp => ⟨wl, as.map V.ref, .ref tp, rfl, rfl, ?_, sz_lt (by rw [List.length_map, hws.2.1, hwl3]; omega), ?_⟩⟩
        · rw [upd_ne (ne_of_none hws7.1 htp)]
          exact hws7.1
        · have kk := Keep.trans (Keep.trans (Keep.trans k4 k5) k6) k7
          have e37 : Ex Hc H7 := Keep.ex e3 hdc kk
          have htc : Hc tp = none := fresh_back e37 htp
          have nw : tp ≠ wl := fun z => by rw [z, hws7.1] at htp; cases htp
          refine ⟨as ++ [tp], ws ++ [(b, n, m, d)], _, _, rfl, Ex.mut (Ex.mut e37 htc) wlc, ?_, ⟨by rw [upd_same, List.map_append]; rfl, by rw [List.length_append, List.length_append, hws.2.1]; rfl, fun u y x hu hx => ?_⟩, by rw [List.length_append, hwl3]; rfl⟩
          · obtain ⟨dd, mm, g1, g2⟩ := hh7
            have n1 : hd ≠ tp := ne_of_none g1 htp
            have n2 : hd ≠ wl := fun z => by
              have z1 := hws7.1
              rw [← z, g1] at z1
              have z2 := HO.lst.inj (Option.some.inj z1)
              cases as with
              | nil => cases z2
              | cons a l => cases z2
            exact ⟨dd, mm, by rw [upd_ne n2, upd_ne n1]; exact g1, g2⟩
          · by_cases q1 : u < as.length
            · rw [List.getElem?_append_left q1] at hu
              rw [List.getElem?_append_left (by rw [← hws.2.1]; exact q1)] at hx
              obtain ⟨g1, g2⟩ := hws7.2.2 u y x hu hx
              have n1 : y ≠ tp := ne_of_none g1 htp
              have n2 : y ≠ wl := fun z => by rw [z, hws7.1] at g1; cases g1
              exact ⟨by rw [upd_ne n2, upd_ne n1]; exact g1, g2⟩
            · have eu : u = as.length := by
                have := (List.getElem?_eq_some_iff.mp hu).1
                rw [List.length_append, List.length_singleton] at this
                omega
              subst eu
              have a1 : tp = y := by simpa using hu
              rw [hws.2.1] at hx
              have a2 : (b, n, m, d) = x := by simpa using hx
              subst a1 a2
              exact ⟨by rw [upd_ne nw, upd_same], b1, b2, hn5, by show m ≤ 12; omega⟩
      · rintro σ' H3 ⟨as, ws, p5, p6, rfl, e3, hh3, hws, hwl3⟩
        have hwl3 : ws.length = 2 := hwl3
        intro S hS
        have Sc : Hc S = none := fresh_back e3 hS
        have e3' := Ex.new (o := .dT []) hS
        refine s_forR1 (j := 8) (n := ((24 : Nat) : Int)) (σ := [some (.ref a), some (nI i), some (.int c), some (.ref hd), some (.ref wl), p5, p6, some (.ref S), o8, o9, o10, o11, o12, o13]) (ea_cons (ev_cN 24) ea_nil) ⟨by decide, by decide⟩ (fun j σ' H' => ∃ (kvs : List (List Key × V)) (o8 o9 o10 o11 o12 o13 : Option V), σ' = [some (.ref a), some (nI i), some (.int c), some (.ref hd), some (.ref wl), p5, p6, some (.ref S), o8, o9, o10, o11, o12, o13] ∧ Ex Hc H' ∧ Hand H' hd ∧ WsAt H' wl as ws ∧ H' S = some (.dT kvs) ∧ kvs.length ≤ j ∧ Said ws kvs)
          (fun H4 e4 => ⟨[], _, _, _, _, _, _, rfl, (e3.trans e3').trans e4, (hh3.mono e3').mono e4, (hws.mono e3').mono e4, e4 _ _ upd_same, Nat.le_refl _, fun a w x _ => rfl⟩) ?_ ?_
        · rintro turn σ' H4 hturn ⟨kvs, o8, o9, o10, o11, o12, o13, rfl, e4, hh4, hws4, hS4, hkl, hsaid⟩
          have hSh : ∀ {H5 H6 : Hp}, H5 S = some (.dT kvs) → Hand H5 hd → Keep hd H5 H6 → H6 S = some (.dT kvs) := fun {H5 H6} g hh k => k _ _ (fun z => by
            obtain ⟨d, m, g2, _⟩ := hh
            rw [z, g2] at g
            cases g) g
          refine ⟨.ref hd, rfl, hd, 4, rfl, by decide, by decide, hh4, fun H5 at' k5 hh5 hat => ?_⟩
          have hS5 := hSh hS4 hh4 k5
          have hws5 := hws4.hand hh4 k5
          refine ⟨.ref hd, rfl, hd, 2, rfl, by decide, by decide, hh5, fun H6 wh k6 hh6 hwh => ?_⟩
          have hS6 := hSh hS5 hh5 k6
          have hws6 := hws5.hand hh5 k6
          have e6 : Ex Hc H6 := Keep.ex e4 hdc (Keep.trans k5 k6)
          obtain ⟨wa', hwa⟩ : ∃ y, as[wh]? = some y := ⟨as[wh]'(by rw [hws.2.1]; omega), List.getElem?_eq_getElem _⟩
          obtain ⟨xw, hxw⟩ : ∃ y, ws[wh]? = some y := ⟨ws[wh]'(by omega), List.getElem?_eq_getElem _⟩
          obtain ⟨gw, wok⟩ := hws6.2.2 wh wa' xw hwa hxw
          have epick : ∀ {τ : L2.St} {H7 : Hp}, τ[4]? = some (some (.ref wl)) → τ[10]? = some (some (nI wh)) → H7 wl = some (.lst (as.map V.ref)) → Ev (tOp (rIxL K) (tVar 4) (tVar 10)) τ H7 (.ref wa') := fun {τ H7} t1 t2 g => ev_op (ev_var t1) (ev_var t2) (rv_ixL (sq_of g) (atI_nat (by rw [List.getElem?_map, hwa]; rfl)))
          clear k5 k6 hh5 hws5 hS5
          dsimp only [gName]
          show tCall spAsked [] C8.E0 (tCons (tVar 9) (tCons (tOp (rIxL K) (tVar 4) (tVar 10)) tNil)) _ _ _
          refine goCall (vs := [nI at', .ref wa']) (ea_cons (ev_var rfl) (ea_cons (epick rfl rfl hws6.1) ea_nil)) fun H7 e7 => ⟨at', xw.1, xw.2.1, xw.2.2.1, xw.2.2.2, wa', rfl, e7 _ _ gw, wok.1, wok.2.1, wok.2.2.1, wok.2.2.2, by omega, ?_⟩
          intro tp q1 q2 H8 n0 n1 n2 d1 d2 d3 e8 g0 g1 g2
          have sA := askA_sm wok.1 wok.2.2.1 wok.2.2.2 (d := xw.2.2.2) at'
          have sB := askB_sm wok.1 wok.2.2.1 wok.2.2.2 (d := xw.2.2.2) at'
          have tB := askB_tail wok.1 wok.2.2.1 wok.2.2.2 (d := xw.2.2.2) at'
          have htx : txt2 xw at' = (twoD (askA xw.1 xw.2.1 xw.2.2.1 xw.2.2.2 at') (askB xw.1 xw.2.1 xw.2.2.1 xw.2.2.2 at')).shown := rfl
          generalize askA xw.1 xw.2.1 xw.2.2.1 xw.2.2.2 at' = A at g1 sA htx
          generalize askB xw.1 xw.2.1 xw.2.2.1 xw.2.2.2 at' = B at g2 sB tB htx
          obtain ⟨t1, t2, t3, t4⟩ := twoD_ok sA sB
          refine q_asg (i := 12) (v := .str (txt2 xw at')) (ev_cb (vs := [.ref tp]) (ea_cons (ev_var rfl) ea_nil) fun H9 e9 Q9 q9 => ⟨tp, twoD A B, rfl, .lst (sq_of (e9 _ _ g0)) (.cons (.lst (sq_of (e9 _ _ g1)) (sm_dpAll sA.all)) (.cons (.lst (sq_of (e9 _ _ g2)) (sm_dpAll sB.all)) .nil)), t1, t2, t3, t4, by rw [← htx]; exact q9 H9 (Ex.refl H9)⟩) fun H9 e9 => ?_
          have e69 := (e7.trans e8).trans e9
          have hS9 := e69 _ _ hS6
          have hgd := hsaid at' wh xw hxw
          have ekey : ∀ {τ : L2.St} {H10 : Hp}, τ[9]? = some (some (nI at')) → τ[10]? = some (some (nI wh)) → EvU (tTup (tCons (tVar 9) (tCons (tVar 10) tNil))) τ H10 ((key2 at' wh).map kV) := fun {τ H10} u1 u2 => eu_tup (ea_cons (ev_var u1) (ea_cons (ev_var u2) ea_nil)) (by show 2 ≤ 100000; decide)
          have etail : Ev (tOp (rEqD K) (tSl (rSlL K) (tOp (rIxL K) (tVar 11) (tC (.int 1))) (tPart (tC (.int 1))) tNoPart) (tLst (tCons (tC (.bl false)) tNil))) [some (.ref a), some (nI i), some (.int c), some (.ref hd), some (.ref wl), p5, p6, some (.ref S), some (nI turn), some (nI at'), some (nI wh), some (.ref tp), some (.str (txt2 xw at')), o13] H9 (.bl false) := by
            have esl := el_sl (K := K) (te := tOp (rIxL K) (tVar 11) (tC (.int 1))) (σ := [some (.ref a), some (nI i), some (.int c), some (.ref hd), some (.ref wl), p5, p6, some (.ref S), some (nI turn), some (nI at'), some (nI wh), some (.ref tp), some (.str (txt2 xw at')), o13]) (H := H9) (a := q2) (xs := B) (lo := some ((1 : Nat) : Int)) (ev_op (ev_var rfl) ev_c (rv_ixL (sq_of (e9 _ _ g0)) (atI_nat (j := 1) rfl))) (eo_some (te := tC (.int 1)) (ev_cN 1)) eo_none (sq_of (e9 _ _ g2))
            rw [cut_from] at esl
            have sBd : ∀ v ∈ B.drop 1, Sm v := fun v hv => sB.all v (List.mem_of_mem_drop hv)
            refine ev_opL2 esl (fun H1 e1 => el_lst (vs := [V.bl false]) (ea_cons ev_c ea_nil) (by show 1 ≤ 100000; decide)) fun u v H1 u1 u2 H2 ee Q qq => ?_
            refine rv_eqD (d := .list ((B.drop 1).map dv)) (e := .list ([V.bl false].map dv)) (.lst (sq_of (ee _ _ u1)) (sm_dpAll sBd)) (.lst (sq_of (ee _ _ u2)) (sm_dpAll fun v hv => by rw [List.mem_singleton.mp hv]; exact .inr ⟨false, rfl⟩)) (shaped_sm sBd) (shaped_sm fun v hv => by rw [List.mem_singleton.mp hv]; exact .inr ⟨false, rfl⟩) Q ?_
            have e0 : PyData.eqv (.list ((B.drop 1).map dv)) (.list ([V.bl false].map dv)) = false := by
              rw [PyData.eqv]
              exact tB
            rw [e0]
            exact qq H2 (Ex.refl H2)
          refine q_when (b := false) (et_is (a := !decide (V.str (txt2 xw at') = V.str (txt2 xw at')) || false) (et_or (et_test (ev_op (ev_is (ev_dget2 (k := key2 at' wh) (ev_var rfl) hS9 (ekey rfl rfl) (ev_var rfl)) hgd) (ev_var rfl) (rv_ne rfl))) fun _ => et_test etail) (by rw [decide_eq_true rfl]; rfl)) (fun h => nomatch h) fun _ H10 e10 => ?_
          refine q_dputU (k := key2 at' wh) (v := .str (txt2 xw at')) (ev_var rfl) (ev_var rfl) (ekey rfl rfl) (e10 _ _ hS9) (by omega) fun H11 e11 => ?_
          have e811 := (e9.trans e10).trans e11
          have e711 := e8.trans e811
          have hS7 := e7 _ _ hS6
          have apart : ∀ {b : Addr} {o : HO}, H7 b = some o → b ≠ q1 ∧ b ≠ q2 := fun {b o} g => ⟨ne_of_none g n1, ne_of_none g n2⟩
          have nSq := apart hS7
          have nSt : S ≠ tp := ne_of_none hS7 n0
          have gS : L2.upd H11 S (.dT (putK kvs (key2 at' wh) (.str (txt2 xw at')))) S = some (.dT (putK kvs (key2 at' wh) (.str (txt2 xw at')))) := upd_same
          have gtp : L2.upd H11 S (.dT (putK kvs (key2 at' wh) (.str (txt2 xw at')))) tp = some (.lst [.ref q1, .ref q2]) := by rw [upd_ne (Ne.symm nSt)]; exact e811 _ _ g0
          have gq1 : L2.upd H11 S (.dT (putK kvs (key2 at' wh) (.str (txt2 xw at')))) q1 = some (.lst A) := by rw [upd_ne (Ne.symm nSq.1)]; exact e811 _ _ g1
          have gq2 : L2.upd H11 S (.dT (putK kvs (key2 at' wh) (.str (txt2 xw at')))) q2 = some (.lst B) := by rw [upd_ne (Ne.symm nSq.2)]; exact e811 _ _ g2
          have gold : ∀ b o, H7 b = some o → b ≠ S → L2.upd H11 S (.dT (putK kvs (key2 at' wh) (.str (txt2 xw at')))) b = some o := fun b o g n => by rw [upd_ne n]; exact e711 _ _ g
          generalize L2.upd H11 S (.dT (putK kvs (key2 at' wh) (.str (txt2 xw at')))) = Hd at gS gtp gq1 gq2 gold
          refine q_forLn (j := 13) (a := tp) (xs := [.ref q1, .ref q2]) (σ := [some (.ref a), some (nI i), some (.int c), some (.ref hd), some (.ref wl), p5, p6, some (.ref S), some (nI turn), some (nI at'), some (nI wh), some (.ref tp), some (.str (txt2 xw at')), o13]) (ev_var (i := 11) rfl) (sq_of gtp) (fun u σ' H' => ∃ (ys1 ys2 : List V) (o13 : Option V), σ' = [some (.ref a), some (nI i), some (.int c), some (.ref hd), some (.ref wl), p5, p6, some (.ref S), some (nI turn), some (nI at'), some (nI wh), some (.ref tp), some (.str (txt2 xw at')), o13] ∧ K2 q1 q2 Hd H' ∧ H' q1 = some (.lst ys1) ∧ H' q2 = some (.lst ys2) ∧ ys1.length ≤ 100 + u ∧ ys2.length ≤ 100 + u)
            (fun H12 e12 => ⟨A, B, _, rfl, fun b o _ _ g => e12 _ _ g, e12 _ _ gq1, e12 _ _ gq2, sA.len, sB.len⟩) (fun u σ' H' _ ⟨_, _, _, _, kk, _⟩ => sq_of (kk _ _ d1 d2 gtp)) ?_ ?_
          · rintro u x σ' H' hx ⟨ys1, ys2, o13, rfl, kk, r1, r2, l1, l2⟩
            have hu : u < 2 := (List.getElem?_eq_some_iff.mp hx).1
            rcases u with _ | _ | u
            · cases hx
              refine q_app (l := q1) (xs := ys1) (v := .int (-1)) r1 (ev_var rfl) (ev_un (ev_c (v := .int 1)) ru_neg) (by omega) fun H13 e13 => ?_
              refine s_rev (l := q1) upd_same (ev_var rfl) fun H14 e14 => ⟨(ys1 ++ [V.int (-1)]).reverse, ys2, _, rfl, fun b o x1 x2 g => ?_, upd_same, ?_, by rw [List.length_reverse, List.length_append]; show _ + 1 ≤ _; omega, by omega⟩
              · rw [upd_ne x1]
                exact e14 _ _ (by rw [upd_ne x1]; exact e13 _ _ (kk b o x1 x2 g))
              · rw [upd_ne (Ne.symm d3)]
                exact e14 _ _ (by rw [upd_ne (Ne.symm d3)]; exact e13 _ _ r2)
            · cases hx
              refine q_app (l := q2) (xs := ys2) (v := .int (-1)) r2 (ev_var rfl) (ev_un (ev_c (v := .int 1)) ru_neg) (by omega) fun H13 e13 => ?_
              refine s_rev (l := q2) upd_same (ev_var rfl) fun H14 e14 => ⟨ys1, (ys2 ++ [V.int (-1)]).reverse, _, rfl, fun b o x1 x2 g => ?_, ?_, upd_same, by omega, by rw [List.length_reverse, List.length_append]; show _ + 1 ≤ _; omega⟩
              · rw [upd_ne x2]
                exact e14 _ _ (by rw [upd_ne x2]; exact e13 _ _ (kk b o x1 x2 g))
              · rw [upd_ne d3]
                exact e14 _ _ (by rw [upd_ne d3]; exact e13 _ _ r1)
            · omega
          · rintro σ' H' ⟨ys1, ys2, o13, rfl, kk, _⟩
            have route : ∀ b o, H7 b = some o → b ≠ S → H' b = some o := fun b o g n => kk b o (apart g).1 (apart g).2 (gold b o g n)
            have exc : Ex Hc H' := fun b o g => route b o ((e6.trans e7) b o g) (ne_of_none g Sc)
            have hws' : WsAt H' wl as ws := (hws6.mono e7).keep fun b o g _ n => route b o g fun z => by
              rw [z, hS7] at g
              cases g
              exact n kvs rfl
            have hh' : Hand H' hd := by
              obtain ⟨dd, mm, z1, z2⟩ := hh6.mono e7
              exact ⟨dd, mm, route _ _ z1 (fun z => by rw [z, hS7] at z1; cases z1), z2⟩
            have hS' : H' S = some (.dT (putK kvs (key2 at' wh) (.str (txt2 xw at')))) := kk _ _ nSq.1 nSq.2 gS
            obtain ⟨gw', _⟩ := hws'.2.2 wh wa' xw hwa hxw
            refine s_when (b := !true) (et_not (et_B (ev_call (ea_cons (epick rfl rfl hws'.1) (ea_cons (x := nI turn) (ev_var rfl) ea_nil)) (sv_refused gw' wok.1 wok.2.1 wok.2.2.1 wok.2.2.2)))) (fun h => nomatch h) fun _ H15 e15 => ⟨_, _, _, _, _, _, _, rfl, exc.trans e15, hh'.mono e15, hws'.mono e15, e15 _ _ hS', ?_, hsaid.put hxw⟩
            have := length_putK kvs (key2 at' wh) (.str (txt2 xw at'))
            omega
        · rintro σ' H4 ⟨kvs, o8, o9, o10, o11, o12, o13, rfl, e4, _⟩
          exact ⟨_, _, _, _, _, _, _, _, _, _, _, _, _, rfl, e4⟩
    · rintro σ' H' ⟨_, _, _, _, _, _, _, _, _, _, _, _, _, rfl, e'⟩
      exact q H'
end
end Mir
namespace Mir
open PySem PySem.Spec PyProof.Rows L2 Evl
open C8 (Cal pe_c)
/-! ## the head: the facts by names, the run -/
abbrev R : PySem.W.OpenRow := PySem.W.OpenLaw.row PySem.Challenge.rw_mirrorsums_k32_whole_again_and_shared
def dOf (x : Str) (st : Stmt) : He.DefD := ⟨(x, none), x, x, defArgs st, defBody st, defScope st, [], []⟩
def fn : List He.DefD := [dOf "is_whole" s_is_whole, dOf "need_base" s_need_base, dOf "figures_of" s_figures_of, dOf "put_together" s_put_together, dOf "power_of" s_power_of, dOf "half_of" s_half_of, dOf "mirror_of" s_mirror_of, dOf "many_of_size" s_many_of_size, dOf "many_to" s_many_to, dOf "mirrored_at" s_mirrored_at, dOf "mirrored_to" s_mirrored_to, dOf "greatest_by" s_greatest_by, dOf "fewest" s_fewest, dOf "counts_by" s_counts_by, dOf "many_ways" s_many_ways, dOf "all_ways" s_all_ways, dOf "way_at" s_way_at, dOf "need_way" s_need_way, dOf "way_place" s_way_place, dOf "table" s_table, dOf "how_many" s_how_many, dOf "hardest" s_hardest, dOf "_law_hand" s__law_hand, dOf "_law_draw" s__law_draw, dOf "_law_cells" s__law_cells, dOf "_law_base" s__law_base, dOf "_law_number" s__law_number, dOf "_law_asked" s__law_asked, dOf "_law_refused" s__law_refused, dOf "law" s_law]
def fa : List He.Fa := [.glo "is_whole", .glo "need_base", .glo "figures_of", .glo "put_together", .glo "power_of", .glo "half_of", .glo "mirror_of", .glo "many_of_size", .glo "many_to", .glo "mirrored_at", .glo "mirrored_to", .glo "greatest_by", .glo "fewest", .glo "counts_by", .glo "many_ways", .glo "all_ways", .glo "way_at", .glo "need_way", .glo "way_place", .glo "table", .glo "how_many", .glo "hardest", .glo "_law_hand", .glo "_law_draw", .glo "_law_cells", .glo "_law_base", .glo "_law_number", .glo "_law_asked", .glo "_law_refused", .glo "law", .free "isinstance", .free "int", .free "bool", .free "range", .free "len", .free "sum", .free "dict", .free "enumerate", .free "list", .free "zip", .free "min", .free "max", .free "repr", .glo "NoBase", .exc "NoBase", .glo "NoPlace", .exc "NoPlace", .glo "NoWay", .exc "NoWay", .exm "NoBase" "NoBase" true, .exm "NoBase" "NoPlace" false, .exm "NoBase" "NoWay" false, .exm "NoPlace" "NoBase" false, .exm "NoPlace" "NoPlace" true, .exm "NoPlace" "NoWay" false, .exm "NoWay" "NoBase" false, .exm "NoWay" "NoPlace" false, .exm "NoWay" "NoWay" true]
def names0 : List Str := ["MirrorError", "NoBase", "NoPlace", "NoWay", "is_whole", "need_base", "figures_of", "put_together", "power_of", "half_of", "mirror_of", "many_of_size", "many_to", "mirrored_at", "mirrored_to", "greatest_by", "fewest", "counts_by", "many_ways", "all_ways", "way_at", "need_way", "way_place", "table", "how_many", "hardest", "_law_hand", "_law_draw", "_law_cells", "_law_base"]
def names1 : List Str := ["_law_number", "_law_is", "_law_asked", "_law_refused"]
def names : List Str := names0 ++ names1
abbrev hk : PySem.W.Hook := He.hookD 4 fa fn
def ob (s : PySem.W.SharedT) : He.AlD := He.obsDG 4 fa fn (HandSHeadRun.getT s)
theorem ob_eq (s : PySem.W.SharedT) : ob s = hk.obs s.abs := He.obsDG_eq (HandSHeadRun.getT_eq s)
theorem run (w : World) : HandSHeadRun.RunEq R (PySem.W.view R.prog [41]) hk ob 6000 names w := by
  intro os
  kernel_rfl
theorem defAt {K : PySem.W.Frag} {h : Heap} {mg : Str → Option Value} {x : Str} {st : Stmt} {ps : List Str} (X : K.In h) (G : h.Ns mainGlobals mg) (c : ∃ fd, FunD K x x (defArgs st) (defBody st) (defScope st) [] [] (He.ga K x) fd) (g : (He.Fa.glo x).ok K = true)
    (hb : ∀ fd, FunD K x x (defArgs st) (defBody st) (defScope st) [] [] (He.ga K x) fd → Binds K fd ps []) : DefAt K mg x st ps := by
  obtain ⟨fd, F⟩ := c
  exact ⟨⟨He.ga K x, fd, F, He.glo_ok X G g, hb fd F⟩⟩
theorem txt {K : PySem.W.Frag} {h : Heap} {mg : Str → Option Value} (X : K.In h) (G : h.Ns mainGlobals mg) (c : He.SaysD fa fn K) : Txt K mg where
  d_is_whole := defAt X G (c.def_ 0 (d := dOf "is_whole" s_is_whole) rfl) (c.fact 0 (f := .glo "is_whole") rfl) fun fd F => F.bindsN fun _ _ _ _ _ _ us hl => match us, hl with | [_], _ => rfl
  d_need_base := defAt X G (c.def_ 1 (d := dOf "need_base" s_need_base) rfl) (c.fact 1 (f := .glo "need_base") rfl) fun fd F => F.bindsN fun _ _ _ _ _ _ us hl => match us, hl with | [_], _ => rfl
  d_figures_of := defAt X G (c.def_ 2 (d := dOf "figures_of" s_figures_of) rfl) (c.fact 2 (f := .glo "figures_of") rfl) fun fd F => F.bindsN fun _ _ _ _ _ _ us hl => match us, hl with | [_, _], _ => rfl
  d_put_together := defAt X G (c.def_ 3 (d := dOf "put_together" s_put_together) rfl) (c.fact 3 (f := .glo "put_together") rfl) fun fd F => F.bindsN fun _ _ _ _ _ _ us hl => match us, hl with | [_, _], _ => rfl
  d_power_of := defAt X G (c.def_ 4 (d := dOf "power_of" s_power_of) rfl) (c.fact 4 (f := .glo "power_of") rfl) fun fd F => F.bindsN fun _ _ _ _ _ _ us hl => match us, hl with | [_, _], _ => rfl
  d_half_of := defAt X G (c.def_ 5 (d := dOf "half_of" s_half_of) rfl) (c.fact 5 (f := .glo "half_of") rfl) fun fd F => F.bindsN fun _ _ _ _ _ _ us hl => match us, hl with | [_, _], _ => rfl
  d_mirror_of := defAt X G (c.def_ 6 (d := dOf "mirror_of" s_mirror_of) rfl) (c.fact 6 (f := .glo "mirror_of") rfl) fun fd F => F.bindsN fun _ _ _ _ _ _ us hl => match us, hl with | [_, _, _], _ => rfl
  d_many_of_size := defAt X G (c.def_ 7 (d := dOf "many_of_size" s_many_of_size) rfl) (c.fact 7 (f := .glo "many_of_size") rfl) fun fd F => F.bindsN fun _ _ _ _ _ _ us hl => match us, hl with | [_, _], _ => rfl
  d_many_to := defAt X G (c.def_ 8 (d := dOf "many_to" s_many_to) rfl) (c.fact 8 (f := .glo "many_to") rfl) fun fd F => F.bindsN fun _ _ _ _ _ _ us hl => match us, hl with | [_, _], _ => rfl
  d_mirrored_at := defAt X G (c.def_ 9 (d := dOf "mirrored_at" s_mirrored_at) rfl) (c.fact 9 (f := .glo "mirrored_at") rfl) fun fd F => F.bindsN fun _ _ _ _ _ _ us hl => match us, hl with | [_, _], _ => rfl
  d_mirrored_to := defAt X G (c.def_ 10 (d := dOf "mirrored_to" s_mirrored_to) rfl) (c.fact 10 (f := .glo "mirrored_to") rfl) fun fd F => F.bindsN fun _ _ _ _ _ _ us hl => match us, hl with | [_, _], _ => rfl
  d_greatest_by := defAt X G (c.def_ 11 (d := dOf "greatest_by" s_greatest_by) rfl) (c.fact 11 (f := .glo "greatest_by") rfl) fun fd F => F.bindsN fun _ _ _ _ _ _ us hl => match us, hl with | [_, _, _, _, _], _ => rfl
  d_fewest := defAt X G (c.def_ 12 (d := dOf "fewest" s_fewest) rfl) (c.fact 12 (f := .glo "fewest") rfl) fun fd F => F.bindsN fun _ _ _ _ _ _ us hl => match us, hl with | [_, _], _ => rfl
  d_counts_by := defAt X G (c.def_ 13 (d := dOf "counts_by" s_counts_by) rfl) (c.fact 13 (f := .glo "counts_by") rfl) fun fd F => F.bindsN fun _ _ _ _ _ _ us hl => match us, hl with | [_, _, _], _ => rfl
  d_many_ways := defAt X G (c.def_ 14 (d := dOf "many_ways" s_many_ways) rfl) (c.fact 14 (f := .glo "many_ways") rfl) fun fd F => F.bindsN fun _ _ _ _ _ _ us hl => match us, hl with | [_, _, _], _ => rfl
  d_all_ways := defAt X G (c.def_ 15 (d := dOf "all_ways" s_all_ways) rfl) (c.fact 15 (f := .glo "all_ways") rfl) fun fd F => F.bindsN fun _ _ _ _ _ _ us hl => match us, hl with | [_, _], _ => rfl
  d_way_at := defAt X G (c.def_ 16 (d := dOf "way_at" s_way_at) rfl) (c.fact 16 (f := .glo "way_at") rfl) fun fd F => F.bindsN fun _ _ _ _ _ _ us hl => match us, hl with | [_, _, _, _], _ => rfl
  d_need_way := defAt X G (c.def_ 17 (d := dOf "need_way" s_need_way) rfl) (c.fact 17 (f := .glo "need_way") rfl) fun fd F => F.bindsN fun _ _ _ _ _ _ us hl => match us, hl with | [_, _, _], _ => rfl
  d_way_place := defAt X G (c.def_ 18 (d := dOf "way_place" s_way_place) rfl) (c.fact 18 (f := .glo "way_place") rfl) fun fd F => F.bindsN fun _ _ _ _ _ _ us hl => match us, hl with | [_, _, _], _ => rfl
  d_table := defAt X G (c.def_ 19 (d := dOf "table" s_table) rfl) (c.fact 19 (f := .glo "table") rfl) fun fd F => F.bindsN fun _ _ _ _ _ _ us hl => match us, hl with | [_, _], _ => rfl
  d_how_many := defAt X G (c.def_ 20 (d := dOf "how_many" s_how_many) rfl) (c.fact 20 (f := .glo "how_many") rfl) fun fd F => F.bindsN fun _ _ _ _ _ _ us hl => match us, hl with | [_, _, _], _ => rfl
  d_hardest := defAt X G (c.def_ 21 (d := dOf "hardest" s_hardest) rfl) (c.fact 21 (f := .glo "hardest") rfl) fun fd F => F.bindsN fun _ _ _ _ _ _ us hl => match us, hl with | [_, _], _ => rfl
  d__law_hand := defAt X G (c.def_ 22 (d := dOf "_law_hand" s__law_hand) rfl) (c.fact 22 (f := .glo "_law_hand") rfl) fun fd F => F.bindsN fun _ _ _ _ _ _ us hl => match us, hl with | [_, _], _ => rfl
  d__law_draw := defAt X G (c.def_ 23 (d := dOf "_law_draw" s__law_draw) rfl) (c.fact 23 (f := .glo "_law_draw") rfl) fun fd F => F.bindsN fun _ _ _ _ _ _ us hl => match us, hl with | [_, _], _ => rfl
  d__law_cells := defAt X G (c.def_ 24 (d := dOf "_law_cells" s__law_cells) rfl) (c.fact 24 (f := .glo "_law_cells") rfl) fun fd F => F.bindsN fun _ _ _ _ _ _ us hl => match us, hl with | [_, _], _ => rfl
  d__law_base := defAt X G (c.def_ 25 (d := dOf "_law_base" s__law_base) rfl) (c.fact 25 (f := .glo "_law_base") rfl) fun fd F => F.bindsN fun _ _ _ _ _ _ us hl => match us, hl with | [_], _ => rfl
  d__law_number := defAt X G (c.def_ 26 (d := dOf "_law_number" s__law_number) rfl) (c.fact 26 (f := .glo "_law_number") rfl) fun fd F => F.bindsN fun _ _ _ _ _ _ us hl => match us, hl with | [_, _, _], _ => rfl
  d__law_asked := defAt X G (c.def_ 27 (d := dOf "_law_asked" s__law_asked) rfl) (c.fact 27 (f := .glo "_law_asked") rfl) fun fd F => F.bindsN fun _ _ _ _ _ _ us hl => match us, hl with | [_, _], _ => rfl
  d__law_refused := defAt X G (c.def_ 28 (d := dOf "_law_refused" s__law_refused) rfl) (c.fact 28 (f := .glo "_law_refused") rfl) fun fd F => F.bindsN fun _ _ _ _ _ _ us hl => match us, hl with | [_, _], _ => rfl
  d_law := defAt X G (c.def_ 29 (d := dOf "law" s_law) rfl) (c.fact 29 (f := .glo "law") rfl) fun fd F => F.bindsN fun _ _ _ _ _ _ us hl => match us, hl with | [_], _ => rfl
  f_isinstance := He.free_ok X G (c.fact 30 (f := .free "isinstance") rfl)
  f_int := He.free_ok X G (c.fact 31 (f := .free "int") rfl)
  f_bool := He.free_ok X G (c.fact 32 (f := .free "bool") rfl)
  f_range := He.free_ok X G (c.fact 33 (f := .free "range") rfl)
  f_len := He.free_ok X G (c.fact 34 (f := .free "len") rfl)
  f_sum := He.free_ok X G (c.fact 35 (f := .free "sum") rfl)
  f_dict := He.free_ok X G (c.fact 36 (f := .free "dict") rfl)
  f_enumerate := He.free_ok X G (c.fact 37 (f := .free "enumerate") rfl)
  f_list := He.free_ok X G (c.fact 38 (f := .free "list") rfl)
  f_zip := He.free_ok X G (c.fact 39 (f := .free "zip") rfl)
  f_min := He.free_ok X G (c.fact 40 (f := .free "min") rfl)
  f_max := He.free_ok X G (c.fact 41 (f := .free "max") rfl)
  f_repr := He.free_ok X G (c.fact 42 (f := .free "repr") rfl)
  e_NoBase := excAt X G (c.fact 43 (f := .glo "NoBase") rfl) (c.fact 44 (f := .exc "NoBase") rfl)
  e_NoPlace := excAt X G (c.fact 45 (f := .glo "NoPlace") rfl) (c.fact 46 (f := .exc "NoPlace") rfl)
  e_NoWay := excAt X G (c.fact 47 (f := .glo "NoWay") rfl) (c.fact 48 (f := .exc "NoWay") rfl)
  m_NoBase_NoBase := He.exm_ok (c.fact 49 (f := .exm "NoBase" "NoBase" true) rfl)
  m_NoBase_NoPlace := He.exm_ok (c.fact 50 (f := .exm "NoBase" "NoPlace" false) rfl)
  m_NoBase_NoWay := He.exm_ok (c.fact 51 (f := .exm "NoBase" "NoWay" false) rfl)
  m_NoPlace_NoBase := He.exm_ok (c.fact 52 (f := .exm "NoPlace" "NoBase" false) rfl)
  m_NoPlace_NoPlace := He.exm_ok (c.fact 53 (f := .exm "NoPlace" "NoPlace" true) rfl)
  m_NoPlace_NoWay := He.exm_ok (c.fact 54 (f := .exm "NoPlace" "NoWay" false) rfl)
  m_NoWay_NoBase := He.exm_ok (c.fact 55 (f := .exm "NoWay" "NoBase" false) rfl)
  m_NoWay_NoPlace := He.exm_ok (c.fact 56 (f := .exm "NoWay" "NoPlace" false) rfl)
  m_NoWay_NoWay := He.exm_ok (c.fact 57 (f := .exm "NoWay" "NoWay" true) rfl)
theorem facts {w : World} {K : PySem.W.Frag} {h : Heap} {mg : Str → Option Value} {f : Addr} (X : K.In h) (G : h.Ns mainGlobals mg) (hfa : mg ("law" : Str) = some (.ref f)) (c : He.SaysD fa fn K) :
    ∃ fd : FuncData, (∀ (s : Shared) (v : Value), BindsTo s fd ⟨[v], []⟩ [("script", v)]) ∧ ∀ base : Heap, K.In base → base.Ns mainGlobals mg → RunAt (PySem.Challenge.rw_mirrorsums_k32_whole_again_and_shared).prog w K mg base CX0 f fd ["script"] (spLaw K) callerA := by
  obtain ⟨fd, F⟩ := c.def_ 29 (d := dOf "law" s_law) rfl
  have e := hfa.symm.trans (He.glo_ok X G (c.fact 29 (f := .glo "law") rfl))
  cases e
  have b := FunD.bindsA (ps := ["script"]) F fun _ _ _ _ _ _ us hl => match us, hl with | [_], _ => rfl
  exact ⟨fd, fun s v => b s [v] rfl, fun base _ _ => law_run (txt X G c) F⟩
end Mir
open PySem PySem.W PySem.Calls PyProof.Rows
theorem PySem.Challenge.cw_mirrorsums_k32_whole_again_and_shared_holds : PySem.Challenge.rw_mirrorsums_k32_whole_again_and_shared.Holds := by
  w_on; o_law
  refine HandSHeadRun.head_any (r := Mir.R) (q := view Mir.R.prog [41]) (H := Mir.hk) (ob := Mir.ob) (M := 6000) (loose := Mir.names) (d := HandSHeadRun.topDef Mir.R.prog 41) (kwd := []) Mir.ob_eq
    (by kernel_rfl) (fun s => by kernel_rfl) Mir.run (by kernel_rfl) (by kernel_rfl) (by kernel_rfl) (by rfl) (by first | assumption | decide +kernel) (by decide +kernel) ⟨rfl, rfl, rfl, rfl, rfl, by decide +kernel⟩ ?hw ?hc
  case hw => w_witness2
  case hc =>
    refine Mir.walk_at (l := PySem.Challenge.rw_mirrorsums_k32_whole_again_and_shared) (n := 63) (x := "script") rfl (by decide) (by kernel_rfl) ?F
    intro w mg fa h Y G hmg0
    obtain ⟨K, KX, c⟩ := Y
    have hmg : mg ("law" : PySem.Str) = some (.ref fa) := by
      have e : (HandSHeadRun.topDef Mir.R.prog 41).name = ("law" : PySem.Str) := by kernel_rfl
      rw [← e]
      exact hmg0
    obtain ⟨fd, hb, hF⟩ := Mir.facts (w := w) KX G hmg c
    exact ⟨K, fd, Mir.spLaw K, KX, hb, fun H a ns hl _ hS => ⟨a, ns, rfl, hS, hl, fun _ => rfl⟩, hF⟩
