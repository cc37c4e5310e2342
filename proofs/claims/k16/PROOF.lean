import PyProof.Rows.All
import Wide.All
import OpenK.AllK
import Wide.FinOn
import HandS.ForMost
import HandS.Walk
import HandS.Wide
import HandS.IsInst
import HandS.TupAny
import HandS.Conv
import HandS.Strs
import KE.GoesNew
import KE.DatumOrd
import PySem.Challenge.RW_splitclimb_k16_whole_splits_rearranged
set_option Elab.async false
set_option linter.all false
set_option maxRecDepth 100000
set_option maxHeartbeats 3900000
/-! The mathematics of the law: plain lists of ints, no program. -/
namespace Sc

/-- the product of a list -/
def pr : List Int → Int
  | [] => 1
  | e :: r => e * pr r
/-- the weight, times the product of the whole schedule -/
def Wf : List Int → (Nat → Int) → Int
  | [], _ => 0
  | _ :: es, f => f 0 * pr es + Wf es (fun k => f (k + 1))
abbrev gd (c : List Int) : Nat → Int := fun k => c.getD k 0
def WW (E c : List Int) : Int := Wf E (gd c)
def terms : List Int → List Int → List Int
  | _ :: es, c :: cs => c * pr es :: terms es cs
  | _, _ => []
def horn : Int → List Int → List Int → Int
  | t, e :: es, c :: cs => horn (t * e + c) es cs
  | t, _, _ => t
def csum (rows : List (List Int)) (k : Nat) : Int := (rows.map fun r => gd r k).sum

/-! ### products -/
theorem pr_append : ∀ a b : List Int, pr (a ++ b) = pr a * pr b
  | [], b => by simp [pr]
  | x :: a, b => by
    show x * pr (a ++ b) = (x * pr a) * pr b
    rw [pr_append a b, Int.mul_assoc]
theorem pr_split (E : List Int) (i : Nat) : pr E = pr (E.take i) * pr (E.drop i) := by
  rw [← pr_append, List.take_append_drop]
theorem pr_take_succ {E : List Int} {i : Nat} {e : Int} (h : E[i]? = some e) : pr (E.take (i + 1)) = pr (E.take i) * e := by
  rw [List.take_add_one, h, pr_append]
  show pr (E.take i) * (e * 1) = _
  rw [Int.mul_one]
theorem pr_drop {E : List Int} {i : Nat} {e : Int} (h : E[i]? = some e) : pr (E.drop i) = e * pr (E.drop (i + 1)) := by
  obtain ⟨hi, he⟩ := List.getElem?_eq_some_iff.mp h
  rw [List.drop_eq_getElem_cons hi, he]
  rfl
/-- a schedule's entries -/
def Ent (E : List Int) : Prop := ∀ e ∈ E, 2 ≤ e ∧ e < 2 ^ 64
theorem Ent.tail {e : Int} {E : List Int} (h : Ent (e :: E)) : Ent E := fun x hx => h x (List.mem_cons_of_mem _ hx)
theorem Ent.drop {E : List Int} (h : Ent E) (i : Nat) : Ent (E.drop i) := fun x hx => h x (List.mem_of_mem_drop hx)
theorem Ent.take {E : List Int} (h : Ent E) (i : Nat) : Ent (E.take i) := fun x hx => h x (List.mem_of_mem_take hx)
theorem pr_pos : ∀ {E : List Int}, Ent E → 0 < pr E
  | [], _ => by decide
  | e :: E, h => by
    have h1 := pr_pos h.tail
    have h2 := h e List.mem_cons_self
    exact Int.mul_pos (by omega) h1
theorem pr_div {E : List Int} (h : Ent E) (i : Nat) : pr E / pr (E.take i) = pr (E.drop i) := by
  rw [pr_split E i]
  exact Int.mul_ediv_cancel_left _ (Int.ne_of_gt (pr_pos (h.take i)))

/-! ### sizes -/
def Lt2 (a : Nat) (i : Int) : Prop := i.natAbs < 2 ^ a
theorem Lt2.mono {a b : Nat} {i : Int} (h : Lt2 a i) (hab : a ≤ b) : Lt2 b i := Nat.lt_of_lt_of_le h (Nat.pow_le_pow_right (by decide) hab)
theorem Lt2.mul {a b : Nat} {i j : Int} (h : Lt2 a i) (g : Lt2 b j) : Lt2 (a + b) (i * j) := by
  unfold Lt2
  rw [Nat.pow_add, @Int.natAbs_mul]
  exact Nat.mul_lt_mul'' h g
theorem Lt2.add {a : Nat} {i j : Int} (h : Lt2 a i) (g : Lt2 a j) : Lt2 (a + 1) (i + j) := by
  unfold Lt2 at *
  rw [Nat.pow_succ]
  have := Int.natAbs_add_le i j
  omega
theorem Lt2.neg {a : Nat} {i : Int} (h : Lt2 a i) : Lt2 a (-i) := by
  unfold Lt2
  rw [Int.natAbs_neg]
  exact h
theorem Lt2.zero {a : Nat} : Lt2 a 0 := Nat.pow_pos (by decide)
theorem Lt2.of_le {a : Nat} {i j : Int} (h0 : 0 ≤ i) (h : i ≤ j) (g : Lt2 a j) : Lt2 a i := by
  unfold Lt2 at *
  omega
theorem Ent.lt2 {E : List Int} (h : Ent E) {e : Int} (he : e ∈ E) : Lt2 64 e := by
  have := h e he
  unfold Lt2
  omega
theorem pr_lt2 : ∀ {E : List Int}, Ent E → Lt2 (64 * E.length + 1) (pr E)
  | [], _ => by
    show (1 : Int).natAbs < 2 ^ (64 * 0 + 1)
    decide
  | e :: E, h => by
    have h1 := pr_lt2 h.tail
    have h2 := h.lt2 List.mem_cons_self
    exact (h2.mul h1).mono (by rw [List.length_cons]; omega)
/-- a row of counts -/
def Cnt (c : List Int) : Prop := ∀ x ∈ c, 0 ≤ x ∧ Lt2 200 x
theorem Cnt.gd {c : List Int} (h : Cnt c) (k : Nat) : 0 ≤ gd c k ∧ Lt2 200 (gd c k) := by
  show 0 ≤ c.getD k 0 ∧ Lt2 200 (c.getD k 0)
  rw [@List.getD_eq_getElem?_getD]
  cases e : c[k]? with
  | none => exact ⟨Int.le_refl 0, Lt2.zero⟩
  | some x => exact h x (List.mem_of_getElem? e)
theorem Wf_lt2 : ∀ {E : List Int} {f : Nat → Int}, Ent E → (∀ k, Lt2 200 (f k)) → Lt2 (202 + 65 * E.length) (Wf E f)
  | [], _, _, _ => Lt2.zero
  | e :: E, f, h, hf => by
    have h1 := (hf 0).mul (pr_lt2 h.tail)
    have h2 := Wf_lt2 (f := fun k => f (k + 1)) h.tail fun k => hf (k + 1)
    exact ((h1.mono (b := 202 + 65 * E.length) (by omega)).add h2).mono (by rw [List.length_cons]; omega)
theorem horn_lt2 : ∀ {E c : List Int} {t : Int} {a : Nat}, Ent E → Cnt c → 200 ≤ a → Lt2 a t → Lt2 (a + 65 * E.length) (horn t E c)
  | [], _, _, _, _, _, _, h => h
  | _ :: _, [], _, a, _, _, _, h => h.mono (by omega)
  | e :: E, c :: cs, t, a, h, hc, ha, ht => by
    have h1 := ht.mul (h.lt2 List.mem_cons_self)
    have h2 := (hc c List.mem_cons_self).2.mono (b := a + 64) (by omega)
    have h3 := horn_lt2 (E := E) (c := cs) (a := a + 64 + 1) h.tail (fun x hx => hc x (List.mem_cons_of_mem _ hx)) (by omega) (h1.add h2)
    exact h3.mono (by rw [List.length_cons]; omega)

/-! ### the weight -/
theorem Wf_zero : ∀ E : List Int, Wf E (fun _ => 0) = 0
  | [] => rfl
  | _ :: E => by
    show 0 * pr E + Wf E (fun _ => 0) = 0
    rw [Wf_zero E, Int.zero_mul, Int.add_zero]
theorem Wf_add : ∀ (E : List Int) (f g : Nat → Int), Wf E (fun k => f k + g k) = Wf E f + Wf E g
  | [], _, _ => rfl
  | _ :: E, f, g => by
    have h := Wf_add E (fun k => f (k + 1)) (fun k => g (k + 1))
    show (f 0 + g 0) * pr E + Wf E (fun k => f (k + 1) + g (k + 1)) = (f 0 * pr E + Wf E fun k => f (k + 1)) + (g 0 * pr E + Wf E fun k => g (k + 1))
    rw [h, Int.add_mul]
    omega
theorem Wf_congr : ∀ {E : List Int} {f g : Nat → Int}, (∀ k, k < E.length → f k = g k) → Wf E f = Wf E g
  | [], _, _, _ => rfl
  | e :: E, f, g, h => by
    have h1 := Wf_congr (E := E) (f := fun k => f (k + 1)) (g := fun k => g (k + 1)) fun k hk => h (k + 1) (by rw [List.length_cons]; omega)
    show f 0 * pr E + Wf E (fun k => f (k + 1)) = g 0 * pr E + Wf E (fun k => g (k + 1))
    rw [h1, h 0 (by rw [List.length_cons]; omega)]
theorem Wf_nonneg : ∀ {E : List Int} {f : Nat → Int}, Ent E → (∀ k, 0 ≤ f k) → 0 ≤ Wf E f
  | [], _, _, _ => Int.le_refl 0
  | e :: E, f, h, hf => by
    have h1 := Wf_nonneg (f := fun k => f (k + 1)) h.tail fun k => hf (k + 1)
    have h2 := Int.mul_nonneg (hf 0) (Int.le_of_lt (pr_pos h.tail))
    show 0 ≤ f 0 * pr E + Wf E (fun k => f (k + 1))
    omega
/-- what one climber at a place weighs -/
def co (E : List Int) (i : Nat) : Int := if i < E.length then pr (E.drop (i + 1)) else 0
theorem co_nonneg {E : List Int} (h : Ent E) (i : Nat) : 0 ≤ co E i := by
  unfold co
  split
  · exact Int.le_of_lt (pr_pos (h.drop _))
  · exact Int.le_refl 0
/-- a change at one place -/
theorem Wf_at : ∀ (E : List Int) (f g : Nat → Int) (i : Nat) (d : Int), (∀ k, k ≠ i → g k = f k) → g i = f i + d → Wf E g = Wf E f + d * co E i
  | [], _, _, _, d, _, _ => by
    show (0 : Int) = 0 + d * 0
    rw [Int.mul_zero, Int.add_zero]
  | e :: E, f, g, 0, d, h, hi => by
    have h1 : Wf E (fun k => g (k + 1)) = Wf E (fun k => f (k + 1)) := Wf_congr fun k _ => h (k + 1) (by omega)
    have h2 : co (e :: E) 0 = pr E := by
      unfold co
      rw [if_pos (by rw [List.length_cons]; omega)]
      rfl
    show g 0 * pr E + Wf E (fun k => g (k + 1)) = f 0 * pr E + Wf E (fun k => f (k + 1)) + d * co (e :: E) 0
    rw [h1, hi, h2, Int.add_mul]
    omega
  | e :: E, f, g, i + 1, d, h, hi => by
    have h1 := Wf_at E (fun k => f (k + 1)) (fun k => g (k + 1)) i d (fun k hk => h (k + 1) (by omega)) hi
    have h2 : co (e :: E) (i + 1) = co E i := by
      unfold co
      rw [List.length_cons]
      by_cases hl : i < E.length
      · rw [if_pos hl, if_pos (by omega)]
        rfl
      · rw [if_neg hl, if_neg (by omega)]
    show g 0 * pr E + Wf E (fun k => g (k + 1)) = f 0 * pr E + Wf E (fun k => f (k + 1)) + d * co (e :: E) (i + 1)
    rw [h1, h 0 (by omega), h2]
    omega
theorem co_step {E : List Int} {i : Nat} {e : Int} (h : E[i + 1]? = some e) : co E i = e * co E (i + 1) := by
  obtain ⟨hi, -⟩ := List.getElem?_eq_some_iff.mp h
  unfold co
  rw [if_pos (by omega), if_pos hi, pr_drop h]
theorem terms_sum : ∀ E c : List Int, (terms E c).sum = WW E c
  | [], _ => rfl
  | e :: E, [] => by
    show (0 : Int) = Wf (e :: E) (fun k => ([] : List Int).getD k 0)
    have h : (fun k => ([] : List Int).getD k 0) = fun _ => (0 : Int) := by
      funext k
      simp
    rw [h, Wf_zero]
  | e :: E, c :: cs => by
    have h := terms_sum E cs
    show (c * pr E :: terms E cs).sum = c * pr E + Wf E (fun k => (c :: cs).getD (k + 1) 0)
    rw [List.sum_cons, h]
    rfl
theorem terms_len : ∀ E c : List Int, (terms E c).length = min c.length E.length
  | [], c => by simp [terms]
  | e :: E, [] => by simp [terms]
  | e :: E, c :: cs => by
    show (terms E cs).length + 1 = min (cs.length + 1) (E.length + 1)
    rw [terms_len E cs]
    omega
theorem terms_get : ∀ {E c : List Int} {i : Nat} {x : Int}, c[i]? = some x → i < E.length → (terms E c)[i]? = some (x * pr (E.drop (i + 1)))
  | [], _, _, _, _, h => absurd h (Nat.not_lt_zero _)
  | e :: E, [], _, _, h, _ => by simp at h
  | e :: E, c :: cs, 0, x, h, _ => by
    have e1 : c = x := Option.some.inj h
    subst e1
    rfl
  | e :: E, c :: cs, i + 1, x, h, hl => by
    have h1 := terms_get (E := E) (c := cs) (i := i) (x := x) h (by rw [List.length_cons] at hl; omega)
    exact h1
theorem horn_W : ∀ (E c : List Int) (t : Int), horn t E c * pr (E.drop c.length) = t * pr E + WW E c
  | [], c, t => by
    show t * pr (([] : List Int).drop c.length) = t * 1 + 0
    rw [List.drop_nil]
    show t * 1 = t * 1 + 0
    omega
  | e :: E, [], t => by
    have h : WW (e :: E) [] = 0 := by
      rw [← terms_sum]
      rfl
    rw [h]
    show t * pr (e :: E) = t * pr (e :: E) + 0
    omega
  | e :: E, c :: cs, t => by
    have h := horn_W E cs (t * e + c)
    show horn (t * e + c) E cs * pr (E.drop cs.length) = t * (e * pr E) + (c * pr E + WW E cs)
    rw [h, Int.add_mul, Int.mul_assoc]
    omega
/-- rows of one length and weight have one top -/
theorem horn_eq {E a b : List Int} (h : Ent E) (hl : a.length = b.length) (hw : WW E a = WW E b) : horn 0 E a = horn 0 E b := by
  have h1 := horn_W E a 0
  have h2 := horn_W E b 0
  rw [← hl, ← hw, ← h1] at h2
  exact (Int.eq_of_mul_eq_mul_right (Int.ne_of_gt (pr_pos (h.drop _))) h2).symm

/-! ### sums over the groups -/
theorem sum_W (E : List Int) : ∀ rows : List (List Int), (rows.map (WW E)).sum = Wf E (csum rows)
  | [] => by
    show (0 : Int) = Wf E (fun _ => 0)
    rw [Wf_zero]
  | r :: rows => by
    show (WW E r :: rows.map (WW E)).sum = Wf E (fun k => gd r k + csum rows k)
    rw [List.sum_cons, sum_W E rows, Wf_add]
    rfl
theorem gd_out {r : List Int} {k : Nat} (h : r.length ≤ k) : gd r k = 0 := by
  show r.getD k 0 = 0
  rw [List.getD_eq_getElem?_getD, List.getElem?_eq_none h]
  rfl
theorem gd_some {r : List Int} {k : Nat} {x : Int} (h : r[k]? = some x) : gd r k = x := by
  show r.getD k 0 = x
  rw [List.getD_eq_getElem?_getD, h]
  rfl
theorem get_gd {r : List Int} {k : Nat} (h : k < r.length) : r[k]? = some (gd r k) := by
  show r[k]? = some (r.getD k 0)
  rw [List.getD_eq_getElem?_getD, List.getElem?_eq_getElem h]
  rfl
theorem csum_out {m k : Nat} : ∀ {rows : List (List Int)}, (∀ r ∈ rows, r.length = m) → m ≤ k → csum rows k = 0
  | [], _, _ => rfl
  | r :: rows, h, hk => by
    show (gd r k :: rows.map fun r => gd r k).sum = 0
    have h1 := csum_out (rows := rows) (fun x hx => h x (List.mem_cons_of_mem _ hx)) hk
    have h2 : (rows.map fun r => gd r k).sum = 0 := h1
    rw [List.sum_cons, h2, gd_out (by rw [h r List.mem_cons_self]; exact hk)]
    rfl
/-- the columns' sums -/
def cols (rows : List (List Int)) (m : Nat) : List Int := (List.range m).map (csum rows)
theorem gd_cols {rows : List (List Int)} {m : Nat} (h : ∀ r ∈ rows, r.length = m) (k : Nat) : gd (cols rows m) k = csum rows k := by
  show (cols rows m).getD k 0 = csum rows k
  unfold cols
  rw [List.getD_eq_getElem?_getD, List.getElem?_map]
  by_cases hk : k < m
  · rw [List.getElem?_range hk]
    rfl
  · rw [List.getElem?_eq_none (by rw [List.length_range]; omega), csum_out h (by omega)]
    rfl
theorem W_cols {E : List Int} {rows : List (List Int)} {m : Nat} (h : ∀ r ∈ rows, r.length = m) : WW E (cols rows m) = (rows.map (WW E)).sum := by
  rw [sum_W]
  exact Wf_congr fun k _ => gd_cols h k
theorem perm_sum {a b : List Int} (h : a.Perm b) : a.sum = b.sum := by
  induction h with
  | nil => rfl
  | cons x _ ih => rw [List.sum_cons, List.sum_cons, ih]
  | swap x y l =>
    rw [List.sum_cons, List.sum_cons, List.sum_cons, List.sum_cons]
    omega
  | trans _ _ i1 i2 => rw [i1, i2]
theorem csum_perm {a b : List (List Int)} (h : a.Perm b) (k : Nat) : csum a k = csum b k := perm_sum (h.map _)
theorem cols_perm {a b : List (List Int)} (h : a.Perm b) (m : Nat) : cols a m = cols b m := by
  unfold cols
  exact List.map_congr_left fun k _ => csum_perm h k

/-! ### the values -/
/-- the value's floor and ceiling -/
def val (E r : List Int) : List Int := [WW E r / pr (E.drop 1), -((-WW E r) / pr (E.drop 1))]
theorem floor_le {a b : Int} (hb : 0 < b) : a / b * b ≤ a := Int.ediv_mul_le a (Int.ne_of_gt hb)
theorem le_ceil {a b : Int} (hb : 0 < b) : a ≤ -((-a) / b) * b := by
  have h := Int.ediv_mul_le (-a) (Int.ne_of_gt hb)
  rw [Int.neg_mul]
  omega
def lowS (E : List Int) (rows : List (List Int)) : Int := (rows.map fun r => WW E r / pr (E.drop 1)).sum
def highS (E : List Int) (rows : List (List Int)) : Int := (rows.map fun r => -((-WW E r) / pr (E.drop 1))).sum
theorem low_le {E : List Int} (h : Ent E) : ∀ rows : List (List Int), lowS E rows * pr (E.drop 1) ≤ (rows.map (WW E)).sum
  | [] => by
    show (0 : Int) * _ ≤ 0
    rw [Int.zero_mul]
    exact Int.le_refl 0
  | r :: rows => by
    have h1 := low_le h rows
    have h2 := floor_le (a := WW E r) (pr_pos (h.drop 1))
    show (WW E r / pr (E.drop 1) :: rows.map fun r => WW E r / pr (E.drop 1)).sum * pr (E.drop 1) ≤ (WW E r :: rows.map (WW E)).sum
    rw [List.sum_cons, List.sum_cons, Int.add_mul]
    have h3 : (rows.map fun r => WW E r / pr (E.drop 1)).sum * pr (E.drop 1) ≤ (rows.map (WW E)).sum := h1
    omega
theorem le_high {E : List Int} (h : Ent E) : ∀ rows : List (List Int), (rows.map (WW E)).sum ≤ highS E rows * pr (E.drop 1)
  | [] => by
    show (0 : Int) ≤ 0 * _
    rw [Int.zero_mul]
    exact Int.le_refl 0
  | r :: rows => by
    have h1 := le_high h rows
    have h2 := le_ceil (a := WW E r) (pr_pos (h.drop 1))
    show (WW E r :: rows.map (WW E)).sum ≤ (-((-WW E r) / pr (E.drop 1)) :: rows.map fun r => -((-WW E r) / pr (E.drop 1))).sum * pr (E.drop 1)
    rw [List.sum_cons, List.sum_cons, Int.add_mul]
    have h3 : (rows.map (WW E)).sum ≤ (rows.map fun r => -((-WW E r) / pr (E.drop 1))).sum * pr (E.drop 1) := h1
    omega
/-- the rounded numbers enclose the sum: the weight is S / pr E, in terms that some g has shortened -/
theorem encl {e0 : Int} {E : List Int} {S L Hi g : Int} (h : Ent (e0 :: E)) (hg : 0 < g) (g1 : g ∣ S) (g2 : g ∣ pr (e0 :: E)) (hl : L * pr E ≤ S) (hh : S ≤ Hi * pr E) :
    L * (pr (e0 :: E) / g) ≤ e0 * (S / g) ∧ e0 * (S / g) ≤ Hi * (pr (e0 :: E) / g) := by
  obtain ⟨a, ha⟩ := g1
  obtain ⟨b, hb⟩ := g2
  have he : 0 < e0 := by
    have := h e0 List.mem_cons_self
    omega
  have e1 : S / g = a := by
    rw [ha]
    exact Int.mul_ediv_cancel_left _ (Int.ne_of_gt hg)
  have e2 : pr (e0 :: E) / g = b := by
    rw [hb]
    exact Int.mul_ediv_cancel_left _ (Int.ne_of_gt hg)
  rw [e1, e2]
  have hP : e0 * pr E = g * b := hb
  have k1 : e0 * (L * pr E) ≤ e0 * S := Int.mul_le_mul_of_nonneg_left hl (Int.le_of_lt he)
  have k2 : e0 * S ≤ e0 * (Hi * pr E) := Int.mul_le_mul_of_nonneg_left hh (Int.le_of_lt he)
  have x1 : e0 * (L * pr E) = g * (L * b) := by
    rw [Int.mul_left_comm, hP, Int.mul_left_comm]
  have x2 : e0 * (Hi * pr E) = g * (Hi * b) := by
    rw [Int.mul_left_comm, hP, Int.mul_left_comm]
  have x3 : e0 * S = g * (e0 * a) := by
    rw [ha, Int.mul_left_comm]
  rw [x1, x3] at k1
  rw [x2, x3] at k2
  exact ⟨Int.le_of_mul_le_mul_left k1 hg, Int.le_of_mul_le_mul_left k2 hg⟩
/-- less weight: no greater values; more: no less -/
theorem floor_mono {a b p : Int} (hp : 0 < p) (h : a ≤ b) : a / p ≤ b / p := Int.ediv_le_ediv hp h
theorem ceil_mono {a b p : Int} (hp : 0 < p) (h : a ≤ b) : -((-a) / p) ≤ -((-b) / p) := by
  have := Int.ediv_le_ediv hp (show -b ≤ -a by omega)
  omega
theorem floor_one {a p : Int} (hp : 0 < p) : (a + -1 * p) / p = a / p - 1 := by
  rw [Int.add_mul_ediv_right _ _ (Int.ne_of_gt hp)]
  omega
theorem ceil_one {a p : Int} (hp : 0 < p) : -((-(a + -1 * p)) / p) = -((-a) / p) - 1 := by
  have h : -(a + -1 * p) = -a + 1 * p := by omega
  rw [h, Int.add_mul_ediv_right _ _ (Int.ne_of_gt hp)]
  omega
theorem co_zero {e : Int} {E : List Int} : co (e :: E) 0 = pr E := by
  unfold co
  rw [if_pos (by rw [List.length_cons]; omega)]
  rfl
end Sc

/-! Rules that the hand layer lacks: zip and enumerate over lists and tuples in any mix, max of a tuple, tuple.index of an int, o[i] op= e on a list, + of lists that are read, a, b = x, y with names that are captured. -/
namespace Sc
open L2 PyProof.Rows PySem PySem.Spec

/-- a list (true), a tuple (false) that is read -/
def SqX (K : PySem.W.Frag) (b : Bool) (H : Hp) (a : Addr) (xs : List V) : Prop := match b with
  | true => SqL K H a xs
  | false => SqT K H a xs
/-- vs0 iterator at turn i -/
def ItS (b : Bool) (h : Heap) (it a : Addr) (i : Nat) : Prop := match b with
  | true => h.IsListIter it a i
  | false => h.IsTupleIter it a i
theorem ItS.obj {b : Bool} {h : Heap} {it a : Addr} {i : Nat} (x : ItS b h it a i) : ∃ o, h.get? it = some o ∧ ∀ v, o.data ≠ .cell v := by
  cases b with
  | true =>
    obtain ⟨o, e, _, d⟩ := (show h.IsListIter it a i from x)
    exact ⟨o, e, fun v q => by rw [d] at q; cases q⟩
  | false =>
    obtain ⟨o, e, _, d⟩ := (show h.IsTupleIter it a i from x)
    exact ⟨o, e, fun v q => by rw [d] at q; cases q⟩
theorem ItS.at {b : Bool} {h h' : Heap} {it a : Addr} {i : Nat} (x : ItS b h it a i) (k : ∀ o, h.get? it = some o → h'.get? it = some o) : ItS b h' it a i := by
  cases b with
  | true => exact Heap.IsListIter.at (show h.IsListIter it a i from x) k
  | false => exact Heap.IsTupleIter.at (show h.IsTupleIter it a i from x) k
/-- what iter(..) makes -/
def itO (b : Bool) (a : Addr) : Obj := match b with
  | true => { cls := .type "list_iterator", data := .fields #[.ref a, .int 0 0] }
  | false => { cls := .type "tuple_iterator", data := .fields #[.ref a, .int 0 0] }
theorem ItS.of {b : Bool} {h : Heap} {it a : Addr} (e : h.get? it = some (itO b a)) : ItS b h it a 0 := by
  cases b with
  | true => exact ⟨_, e, rfl, rfl⟩
  | false => exact ⟨_, e, rfl, rfl⟩
section
variable {X : Cx} {pn : List (Addr × Obj)} {σ : L2.St} {H : Hp} {s : Shared} {a it : Addr} {xs ys : List V}
theorem inj_x {b : Bool} (J : Inv X pn σ H s) (h : SqX X.K b H a xs) (h' : SqX X.K b H a ys) : xs = ys := by
  cases b with
  | true => exact J.list_inj h h'
  | false => exact J.tuple_inj h h'
/-- the sequence's draws, as it stands -/
theorem draws_x {b : Bool} (J : Inv X pn σ H s) (hh : X.A.handled = none) (h : SqX X.K b H a xs) (hne : a ≠ it) : ∃ (vs0 : List Value) (S : Heap → Prop), Vals xs vs0 ∧
    Draws X.prog X.w X.A.in1 it [it, a] vs0.toArray.size (fun i v => vs0.toArray[i]? = some v) (fun i h => ItS b h it a i ∧ S h) ∧ S s.heap := by
  cases b with
  | true =>
    obtain ⟨vs0, r, p, _⟩ := J.list h
    exact ⟨vs0, fun h => h.IsList a vs0.toArray, r, Draws.list (A := X.A.in1) hh it a hne vs0.toArray, p.isList⟩
  | false =>
    obtain ⟨vs0, r, p, _⟩ := J.tuple h
    exact ⟨vs0, fun h => h.IsTuple a vs0.toArray, r, Draws.tuple (A := X.A.in1) hh it a hne vs0.toArray, p⟩
theorem begins_x {b : Bool} (J : Inv X pn σ H s) (h : SqX X.K b H a xs) : a < s.heap.objs.size ∧ ∃ S : Heap → Prop, Begins (.ref a) (itO b a) S ∧ S s.heap := by
  cases b with
  | true =>
    obtain ⟨vs0, r, p, _⟩ := J.list h
    exact ⟨p.lt, _, begins_list a vs0.toArray, p.isList⟩
  | false =>
    obtain ⟨vs0, r, p, _⟩ := J.tuple h
    exact ⟨p.lt, _, begins_tuple a vs0.toArray, p⟩
end

/-! ### zip of two, lists or tuples -/
def ItzX (K : PySem.W.Frag) (b1 b2 : Bool) (a b : Addr) : It :=
  ⟨fun i H => ∃ (xs ys : List V) (x y : V), SqX K b1 H a xs ∧ SqX K b2 H b ys ∧ xs[i]? = some x ∧ ys[i]? = some y,
    fun i H v H' => ∃ T x y, v = .ref T ∧ H T = none ∧ H' = upd H T (.tup [x, y]) ∧ (∀ xs, SqX K b1 H a xs → xs[i]? = some x) ∧ ∀ ys, SqX K b2 H b ys → ys[i]? = some y,
    fun i H => ∃ xs ys : List V, SqX K b1 H a xs ∧ SqX K b2 H b ys ∧ i ≤ xs.length ∧ i ≤ ys.length ∧ (i = xs.length ∨ i = ys.length)⟩
theorem turn_zipX {P : Program} {w : World} {K : PySem.W.Frag} {elts : List Expr} {kk : Nat} {tpos : Pos} {b1 b2 : Bool} {a b z TI TO i1 i2 : Addr} (S : ZipSep2 z TI TO i1 i2 [i1, a] [i2, b]) (ha : a ≠ i1) (hb : b ≠ i2) :
    Turn P w K (.Tuple elts kk tpos) (ItzX K b1 b2 a b) [z, TI, TO, i1, i2] z (fun i h => IsZip h z TI TO .none ∧ IsTupOf2 h TI (.ref i1) (.ref i2) ∧ (∃ x y, IsTupOf2 h TO x y) ∧ ItS b1 h i1 a i ∧ ItS b2 h i2 b i) where
  mem := by simp
  obj := fun i h st c hc => by
    obtain ⟨gz, gI, ⟨x, y, gO⟩, h1, h2⟩ := st
    have ce : c = z ∨ c = TI ∨ c = TO ∨ c = i1 ∨ c = i2 := by simpa using hc
    rcases ce with q | q | q | q | q
    · rw [q]; exact ⟨_, gz, fun v q => nomatch q⟩
    · rw [q]; exact ⟨_, gI, fun v q => nomatch q⟩
    · rw [q]; exact ⟨_, gO, fun v q => nomatch q⟩
    · rw [q]; exact h1.obj
    · rw [q]; exact h2.obj
  keep := fun i h h' st k => by
    obtain ⟨gz, gI, ⟨x, y, gO⟩, h1, h2⟩ := st
    exact ⟨k z (by simp) _ gz, k TI (by simp) _ gI, ⟨x, y, k TO (by simp) _ gO⟩, h1.at fun o q => k i1 (by simp) o q, h2.at fun o q => k i2 (by simp) o q⟩
  item := by
    intro X hP hw hK hc i pn s σ H E J hf st hg
    subst hP hw hK
    obtain ⟨gz, gI, ⟨x0, y0, gO⟩, h1, h2⟩ := st
    obtain ⟨xs, ys, x, y, qx, qy, hx, hy⟩ := hg
    obtain ⟨vs0, S1, r0, D1, k1⟩ := draws_x J (J.ok.hd hc) qx ha
    obtain ⟨vs2, S2, r02, D2, k2⟩ := draws_x J (J.ok.hd hc) qy hb
    obtain ⟨u, hu, ru⟩ := r0.get hx
    obtain ⟨u2, hu2, ru2⟩ := r02.get hy
    have lz0 : z < s.heap.objs.size := Heap.lt_size gz
    have l1 : i < vs0.toArray.size := by
      rw [List.size_toArray]
      exact (List.getElem?_eq_some_iff.mp hu).1
    have l2 : i < vs2.toArray.size := by
      rw [List.size_toArray]
      exact (List.getElem?_eq_some_iff.mp hu2).1
    refine wpAny_pyNext_zipD2_item S D1 D2 gz gI gO ⟨h1, k1⟩ ⟨h2, k2⟩ l1 l2 fun v1 v2 h' tk p1 p2 z' TO' h1' h2' hT hsz kp0 => ?_
    have e1 : u = v1 := Option.some.inj (by rw [← hu, ← p1]; simp)
    have e2 : u2 = v2 := Option.some.inj (by rw [← hu2, ← p2]; simp)
    subst e1 e2
    refine ⟨_, rfl, wpAny_letOwnedTupleGo_zip (s := { s with heap := h', toks := tk }) z' fun hN z'' sq => ?_⟩
    have gT2 : hN.get? s.heap.objs.size = some { cls := .type "tuple", data := .seq #[u, u2] } := (sq.2 _ (Nat.ne_of_gt lz0)).trans hT
    have new : ObjOk X.prog X.w (upd H s.heap.objs.size (.tup [x, y])) hN s.heap.objs.size (.tup [x, y]) :=
      ⟨by show 2 ≤ sizeLine; decide, [u, u2], .cons ru (.cons ru2 .nil), ⟨_, gT2, rfl, _, rfl⟩⟩
    have J1 : Inv X pn σ (upd H s.heap.objs.size (.tup [x, y])) { s with heap := hN, toks := tk } :=
      J.turnedNew (t' := tk) (ch := [z, TI, TO, i1, i2]) (fun c o hb q => (sq.2 c (fun q' => hb (by simp [q']))).trans (kp0 c o (fun q' => hb (by simp [q'])) (fun q' => hb (by simp [q'])) (fun q' => hb (by simp [q'])) (fun q' => hb (by simp [q'])) q)) hf (Nat.le_refl _) new
    refine ⟨.ref s.heap.objs.size, _, J1, rfl, ⟨_, x, y, rfl, J.hok.fresh (Nat.le_refl _), rfl, fun l hl => by rw [inj_x J hl qx]; exact hx, fun l hl => by rw [inj_x J hl qy]; exact hy⟩, ⟨z'', ?_, ⟨u, u2, ?_⟩, ?_, ?_⟩, fun c hcm => ?_⟩
    · exact (sq.2 _ S.TIz).trans (kp0 _ _ S.TIz S.TITO S.TIi1 S.TIi2 gI)
    · exact (sq.2 _ S.TOz).trans TO'
    · exact h1'.1.at fun o q => (sq.2 _ S.zi1.symm).trans q
    · exact h2'.1.at fun o q => (sq.2 _ S.zi2.symm).trans q
    · have lt0 : c < s.heap.objs.size := by
        have ce : c = z ∨ c = TI ∨ c = TO ∨ c = i1 ∨ c = i2 := by simpa using hcm
        rcases ce with q | q | q | q | q
        · rw [q]; exact lz0
        · rw [q]; exact Heap.lt_size gI
        · rw [q]; exact Heap.lt_size gO
        · rw [q]; obtain ⟨_, e1, _⟩ := h1.obj; exact Heap.lt_size e1
        · rw [q]; obtain ⟨_, e2, _⟩ := h2.obj; exact Heap.lt_size e2
      rw [upd_ne (Nat.ne_of_lt lt0)]
      exact (hf c hcm).1
  done := by
    intro X hP hw hK hc i pn s σ H E J hf st hg
    subst hP hw hK
    obtain ⟨gz, gI, ⟨x0, y0, gO⟩, h1, h2⟩ := st
    obtain ⟨xs, ys, qx, qy, hl1, hl2, hend⟩ := hg
    obtain ⟨vs0, S1, r0, D1, k1⟩ := draws_x J (J.ok.hd hc) qx ha
    obtain ⟨vs2, S2, r02, D2, k2⟩ := draws_x J (J.ok.hd hc) qy hb
    have l1 := r0.length
    have l2 := r02.length
    refine wpAny_pyNext_zipD2_end S D1 D2 gz gI gO ⟨h1, k1⟩ ⟨h2, k2⟩ (by rw [List.size_toArray]; omega) (by rw [List.size_toArray]; omega) (by rw [List.size_toArray, List.size_toArray]; omega) fun h' tk kp0 => ⟨rfl, J.turnedL (t' := tk) (ch := [z, TI, TO, i1, i2]) (fun c o hb q =>
      kp0 c o (fun q' => hb (by simp [q'])) (fun q' => hb (by simp [q'])) (fun q' => hb (by simp [q'])) (fun q' => hb (by simp [q'])) q) hf⟩
  self := fun _ _ _ _ _ st h => wpAny_pyIter_zip st.1 h
def iZipX (K : PySem.W.Frag) (b1 b2 : Bool) (ta : TA) : TI := fun σ H R => ta σ H fun vs H1 => ∃ a b xs ys, vs = [.ref a, .ref b] ∧ SqX K b1 H1 a xs ∧ SqX K b2 H1 b ys ∧ R (ItzX K b1 b2 a b) H1
theorem pi_zipX {X : Cx} (b1 b2 : Bool) {e e2 : Expr} {ta : TA} {p pos tpos : Pos} {elts : List Expr} {kk : Nat} (hg : Gl X "zip") (hm : X.mg "zip" = none) (ha : PA X [e, e2] ta)
    (w1 : starEach [e, e2] X.env = (false, eval e X.env) :: starEach [e2] X.env := by rfl) (w2 : (backTo pos (starEach [e2] X.env)).any (·.1) = false := by rfl) :
    PI X (.Tuple elts kk tpos) (.Call (.Name "zip" p) [e, e2] [] pos) (iZipX X.K b1 b2 ta) := by
  refine ⟨fun pn s σ H R J h => ?_⟩
  refine Call_ (ld_blt J hg hm PyProof.Rows.boot_zip (PyProof.Rows.callWith_type1 (thn (ha.run pos pn s σ H _ J h) fun us s1 ⟨vs, H1, J1, r1, q1⟩ => ?_) w1 w2))
  obtain ⟨a, b, xs, ys, ex, qx, qy, q⟩ := q1
  subst ex
  cases r1 with
  | cons r rr =>
    cases rr with
    | cons r' rr =>
      cases rr
      cases r
      cases r'
      obtain ⟨la, S1, B1, k1⟩ := begins_x J1 qx
      obtain ⟨lb, S2, B2, k2⟩ := begins_x J1 qy
      refine zip_begins2 B1 B2 k1 k2 fun h' gz gI gO h1 h2 hsz kp0 => wpAny_pyIter_zip gz ?_
      have J2 : Inv X pn σ H1 { s1 with heap := h' } := J1.kept (t' := s1.toks) kp0
      refine ⟨s1.heap.objs.size + 4, [s1.heap.objs.size + 4, s1.heap.objs.size + 2, s1.heap.objs.size + 3, s1.heap.objs.size, s1.heap.objs.size + 1], _, _, H1, rfl, J2,
        turn_zipX (zip_sep2 (N := s1.heap.objs.size) (fp1 := [a]) (fp2 := [b]) (fun c hc => by rw [List.mem_singleton.mp hc]; exact la) (fun c hc => by rw [List.mem_singleton.mp hc]; exact lb)) (Nat.ne_of_lt la) (Nat.ne_of_lt (Nat.lt_succ_of_lt lb)),
        ⟨gz, gI, ⟨_, _, gO⟩, ItS.of h1, ItS.of h2⟩, fun c hcm => ?_, q⟩
      have ce : c = s1.heap.objs.size + 4 ∨ c = s1.heap.objs.size + 2 ∨ c = s1.heap.objs.size + 3 ∨ c = s1.heap.objs.size ∨ c = s1.heap.objs.size + 1 := by simpa using hcm
      have le1 : s1.heap.objs.size ≤ c := by
        rcases ce with z | z | z | z | z
        · rw [z]; exact Nat.le_add_right ..
        · rw [z]; exact Nat.le_add_right ..
        · rw [z]; exact Nat.le_add_right ..
        · rw [z]; exact Nat.le_refl _
        · rw [z]; exact Nat.le_add_right ..
      exact J1.fpOk le1 (J1.hok.fresh le1)
theorem walk_zipX {K : PySem.W.Frag} {b1 b2 : Bool} {a b : Addr} {xs ys : List V} {n : Nat} (hn : n = min xs.length ys.length) : Walk (ItzX K b1 b2 a b) n (fun H => SqX K b1 H a xs ∧ SqX K b2 H b ys) (YPair (fun i => xs[i]?) (fun i => ys[i]?)) := by
  subst hn
  refine ⟨fun i _ hi q => ?_, fun _ q => ⟨xs, ys, q.1, q.2, by omega, by omega, by omega⟩, fun i H v H' _ q y => ?_⟩
  · have w1 : i < xs.length := by omega
    have w2 : i < ys.length := by omega
    exact ⟨xs, ys, xs[i], ys[i], q.1, q.2, by simp [w1], by simp [w2]⟩
  · obtain ⟨T, x, z, w1, w2, w3, w4, w5⟩ := y
    exact ⟨T, x, z, w1, w2, w3, w4 xs q.1, w5 ys q.2⟩

/-! ### enumerate of a list or a tuple -/
open AutoSeq1 (wpAny_loadPart') in
theorem meets_enum1 {v : Value} {o : Obj} {H : Heap → Prop} (B : Begins v o H) :
    Meets (Builtin.«enumerate.__new__» ⟨[.type "enumerate", v], []⟩) (fun _ R s => H s.heap ∧
      R (.ok (.ret (.ref (s.heap.push o).objs.size))) { s with heap := (s.heap.push o).push { cls := .type "enumerate", data := .fields #[.none, .bool false, .ref s.heap.objs.size, rawInt 0, .none, .none] } }) :=
  .of_wp fun prg w A R s h => by
    obtain ⟨hp, gn, dr, tk, sy⟩ := s
    obtain ⟨h1, h⟩ := h
    have hsub := sub_enumerate
    have q1 : ∀ {A' : Around} {E : Value → Shared → Prop} {Q : Value → Shared → Prop}, Q (.ref hp.objs.size) ⟨hp.push o, gn, dr, tk, sy⟩ → wpAny (model prg w) A' (pyIter v) Q E ⟨hp, gn, dr, tk, sy⟩ :=
      fun q => B.iter prg w _ _ ⟨hp, gn, dr, tk, sy⟩ _ h1 q
    wp_walk using q1
    refine wpAny_stack_any fun _ => wpAny_pure ?_
    split
    · rename_i cl _ _ _ _ _
      cases (cl == Value.type "enumerate")
      · wp_walk using q1
        exact ⟨_, rfl, h⟩
      · wp_walk using q1
        exact ⟨_, rfl, h⟩
    · wp_walk using q1
      exact ⟨_, rfl, h⟩
theorem enum1_begins {prog : Program} {w : World} {A : Around} {E : Value → Shared → Prop} {s : Shared} {v : Value} {o : Obj} {H : Heap → Prop} {Q : Value → Shared → Prop} (B : Begins v o H) (h1 : H s.heap)
    (h : ∀ h', IsEnum h' (s.heap.objs.size + 1) s.heap.objs.size 0 .none → h'.get? s.heap.objs.size = some o → h'.objs.size = s.heap.objs.size + 2 →
      (∀ (c : Addr) (u : Obj), s.heap.get? c = some u → h'.get? c = some u) → Q (.ref (s.heap.objs.size + 1)) { s with heap := h' }) :
    wpAny (model prog w) A (call (.type "enumerate") [v]) Q E s := by
  refine callType_new F.called_enumerate (by decide) (F.typeCall_enumerate_1 _) (F.newCall_enumerate_1 _) (fun x => F.args_object_init_2 x _) F.entry_enumerate_new (meets_enum1 B) ⟨h1, ?_⟩
  have gz : (s.heap.push o).objs.size = s.heap.objs.size + 1 := Heap.size_push ..
  show _ ∧ _
  rw [gz]
  have he : IsEnum ((s.heap.push o).push { cls := .type "enumerate", data := .fields #[.none, .bool false, .ref s.heap.objs.size, rawInt 0, .none, .none] }) (s.heap.objs.size + 1) s.heap.objs.size 0 .none := by
    have := Heap.get?_push_size (s.heap.push o) (o := { cls := .type "enumerate", data := .fields #[.none, .bool false, .ref s.heap.objs.size, rawInt 0, .none, .none] }) rfl
    rw [gz] at this; exact this
  refine ⟨⟨_, he, rfl⟩, h _ he (Heap.get?_push_of_some _ (Heap.get?_push_size _ B.free)) (by rw [Heap.size_push, gz]) fun _ _ x => Heap.get?_push_of_some _ (Heap.get?_push_of_some _ x)⟩
def IteX (K : PySem.W.Frag) (b : Bool) (a : Addr) : It :=
  ⟨fun i H => ∃ (xs : List V) (x : V), SqX K b H a xs ∧ xs[i]? = some x, fun i H v H' => ∃ T x, v = .ref T ∧ H T = none ∧ H' = upd H T (.tup [.int (i : Nat), x]) ∧ ∀ xs, SqX K b H a xs → xs[i]? = some x, fun i H => ∃ xs : List V, SqX K b H a xs ∧ xs.length = i⟩
theorem turn_enumX {P : Program} {w : World} {K : PySem.W.Frag} {elts : List Expr} {kk : Nat} {tpos : Pos} {bb : Bool} {a e it : Addr} (hai : a ≠ it) (hei : e ≠ it) (hea : e ≠ a) :
    Turn P w K (.Tuple elts kk tpos) (IteX K bb a) [e, it] e (fun i h => (∃ old, IsEnum h e it ((i : Nat) : Int) old) ∧ ItS bb h it a i) where
  mem := by simp
  obj := fun i h st b hb => by
    obtain ⟨⟨old, he⟩, hi⟩ := st
    have ce : b = e ∨ b = it := by simpa using hb
    rcases ce with z | z
    · rw [z]; exact ⟨_, he, fun _ q => nomatch q⟩
    · rw [z]; exact hi.obj
  keep := fun i h h' st k => let ⟨⟨old, he⟩, hi⟩ := st; ⟨⟨old, k e (by simp) _ he⟩, hi.at fun o q => k it (by simp) o q⟩
  item := by
    intro X hP hw hK hc i pn s σ H E J hf st hg
    subst hP hw hK
    obtain ⟨⟨old, he⟩, hit⟩ := st
    obtain ⟨xs, x, hq, hx⟩ := hg
    obtain ⟨vs0, S1, r0, D1, k1⟩ := draws_x J (J.ok.hd hc) hq hai
    obtain ⟨u, hu, ru⟩ := r0.get hx
    have le0 : e < s.heap.objs.size := Heap.lt_size he
    have hil : it < s.heap.objs.size := by obtain ⟨_, q, _⟩ := hit.obj; exact Heap.lt_size q
    have l1 : i < vs0.toArray.size := by
      rw [List.size_toArray]
      exact (List.getElem?_eq_some_iff.mp hu).1
    refine wpAny_pyNext_enum_itemC D1 he ⟨hit, k1⟩ l1 hei (by simp [hei, hea]) fun v1 h' tk p1 ho hit' hT hsz kp0 => ?_
    have e1 : u = v1 := Option.some.inj (by rw [← hu, ← p1]; simp)
    subst e1
    refine ⟨_, rfl, wpAny_letOwnedTupleGo_enum (s := { s with heap := h', toks := tk + 1 }) ho fun hN he' sq => ?_⟩
    have gT2 : hN.get? s.heap.objs.size = some { cls := .type "tuple", data := .seq #[.int i tk, u] } := (sq.2 _ (Nat.ne_of_gt le0)).trans hT
    have new : ObjOk X.prog X.w (upd H s.heap.objs.size (.tup [.int (i : Nat), x])) hN s.heap.objs.size (.tup [.int (i : Nat), x]) :=
      ⟨by show 2 ≤ sizeLine; decide, [.int i tk, u], .cons ⟨_, rfl⟩ (.cons ru .nil), ⟨_, gT2, rfl, _, rfl⟩⟩
    have J1 : Inv X pn σ (upd H s.heap.objs.size (.tup [.int (i : Nat), x])) { s with heap := hN, toks := tk + 1 } :=
      J.turnedNew (ch := [e, it]) (fun b ob hb q => (sq.2 b (fun z => hb (by simp [z]))).trans (kp0 b ob (fun z => hb (by simp [z])) (fun z => hb (by simp [z])) q)) hf (Nat.le_refl _) new
    refine ⟨.ref s.heap.objs.size, _, J1, rfl, ⟨_, x, rfl, J.hok.fresh (Nat.le_refl _), rfl, fun ys hy => by rw [inj_x J hy hq]; exact hx⟩, ⟨⟨u, ?_⟩, hit'.1.at fun o q => (sq.2 it (Ne.symm hei)).trans q⟩, fun b hb => ?_⟩
    · have ei : ((i + 1 : Nat) : Int) = (i : Int) + 1 := by omega
      rw [ei]; exact he'
    · have lb0 : b < s.heap.objs.size := by
        have ce : b = e ∨ b = it := by simpa using hb
        rcases ce with z | z
        · rw [z]; exact le0
        · rw [z]; exact hil
      rw [upd_ne (Nat.ne_of_lt lb0)]
      exact (hf b hb).1
  done := by
    intro X hP hw hK hc i pn s σ H E J hf st hg
    subst hP hw hK
    obtain ⟨⟨old, he⟩, hit⟩ := st
    obtain ⟨xs, hq, hl⟩ := hg
    obtain ⟨vs0, S1, r0, D1, k1⟩ := draws_x J (J.ok.hd hc) hq hai
    obtain ⟨w0, w1, -, w3, w4, w5⟩ := hf it (by simp)
    have hn : vs0.toArray.size = i := by
      rw [List.size_toArray, ← r0.length, hl]
    exact wpAny_pyNext_enum_endD D1 he (by rw [hn]; exact ⟨hit, k1⟩) fun h' eb => ⟨rfl, J.turned (t' := s.toks) (fun b o hb q => eb b o hb q) w0 w1 w3 w4 w5⟩
  self := fun _ _ _ _ _ st h => let ⟨⟨_, he⟩, _⟩ := st; wpAny_pyIter_enum he h
def iEnumX (K : PySem.W.Frag) (b : Bool) (ta : TA) : TI := fun σ H R => ta σ H fun vs H1 => ∃ a xs, vs = [.ref a] ∧ SqX K b H1 a xs ∧ R (IteX K b a) H1
theorem pi_enumX {X : Cx} (bb : Bool) {e : Expr} {ta : TA} {p pos tpos : Pos} {elts : List Expr} {kk : Nat} (hg : Gl X "enumerate") (hm : X.mg "enumerate" = none) (ha : PA X [e] ta) (hs : starEach [e] X.env = [(false, eval e X.env)] := by rfl) :
    PI X (.Tuple elts kk tpos) (.Call (.Name "enumerate" p) [e] [] pos) (iEnumX X.K bb ta) := by
  refine ⟨fun pn s σ H R J h => ?_⟩
  refine Call_ (ld_blt J hg hm boot_enumerate (PyProof.Rows.callWith_type1 (thn (ha.run pos pn s σ H _ J h) fun us s1 ⟨vs, H1, J1, r1, q1⟩ => ?_) hs rfl))
  obtain ⟨a, xs, eq1, hq, q⟩ := q1
  subst eq1
  cases r1 with
  | cons r rr =>
    cases rr
    cases r
    obtain ⟨la, S1, B1, k1⟩ := begins_x J1 hq
    refine enum1_begins B1 k1 fun h' he hit hsz kp0 => wpAny_pyIter_enum he ?_
    have J2 : Inv X pn σ H1 { s1 with heap := h' } := J1.kept (t' := s1.toks) kp0
    refine ⟨s1.heap.objs.size + 1, [s1.heap.objs.size + 1, s1.heap.objs.size], _, _, H1, rfl, J2, turn_enumX (Nat.ne_of_lt la) (Nat.succ_ne_self _) (Nat.ne_of_gt (Nat.lt_succ_of_lt la)), ⟨⟨.none, he⟩, ItS.of hit⟩, fun b hb => ?_, q⟩
    have ce : b = s1.heap.objs.size + 1 ∨ b = s1.heap.objs.size := by simpa using hb
    have le1 : s1.heap.objs.size ≤ b := by
      rcases ce with z | z
      · rw [z]; exact Nat.le_add_right ..
      · rw [z]; exact Nat.le_refl _
    exact J1.fpOk le1 (J1.hok.fresh le1)
theorem walk_enumX {K : PySem.W.Frag} {b : Bool} {a : Addr} {xs : List V} : Walk (IteX K b a) xs.length (fun H => SqX K b H a xs) (YPair (fun i => some (.int (i : Nat))) (fun i => xs[i]?)) := by
  refine ⟨fun i _ hi q => ⟨xs, xs[i], q, by simp [hi]⟩, fun _ q => ⟨xs, q, rfl⟩, fun i H v H' _ q y => ?_⟩
  obtain ⟨T, x, w1, w2, w3, w4⟩ := y
  exact ⟨T, .int (i : Nat), x, w1, w2, w3, rfl, w4 xs q⟩

/-! ### max of a tuple of ints; vs0 first place in it -/
section
variable {X : Cx}
theorem maxOf_ge : ∀ (xs : List Int) (x : Int), x ≤ PySem.W.maxOf x xs ∧ (∀ y ∈ xs, y ≤ PySem.W.maxOf x xs) ∧ (PySem.W.maxOf x xs = x ∨ PySem.W.maxOf x xs ∈ xs)
  | [], x => ⟨Int.le_refl x, fun _ h => (nomatch h), .inl rfl⟩
  | y :: ys, x => by
    have e : PySem.W.maxOf x (y :: ys) = PySem.W.maxOf (if x < y then y else x) ys := by
      show PySem.W.maxOf (if decide (x < y) = true then y else x) ys = _
      simp
    rw [e]
    by_cases h : x < y
    · rw [if_pos h]
      obtain ⟨h1, h2, h3⟩ := maxOf_ge ys y
      refine ⟨by omega, fun z gz => ?_, ?_⟩
      · rcases List.mem_cons.mp gz with rfl | gz
        · exact h1
        · exact h2 z gz
      · rcases h3 with h3 | h3
        · rw [h3]; exact .inr List.mem_cons_self
        · exact .inr (List.mem_cons_of_mem _ h3)
    · rw [if_neg h]
      obtain ⟨h1, h2, h3⟩ := maxOf_ge ys x
      refine ⟨h1, fun z gz => ?_, ?_⟩
      · rcases List.mem_cons.mp gz with rfl | gz
        · omega
        · exact h2 z gz
      · rcases h3 with h3 | h3
        · exact .inl h3
        · exact .inr (List.mem_cons_of_mem _ h3)
theorem holdAll_ints {h : Heap} : ∀ {us : List Value} {ns : List Int}, Vals (ns.map V.int) us → PySem.W.HoldAll h us ns
  | _, [], r => by
    cases r
    exact ⟨_, ReadsAll.nil⟩
  | _, n :: ns, r => by
    cases r with
    | cons r1 r2 =>
      obtain ⟨t, rfl⟩ := r1
      obtain ⟨as, q⟩ := holdAll_ints (h := h) r2
      exact ⟨_, ReadsAll.cons (Reads.int n t) q⟩
theorem cr_maxT (hc : X.calm = true) (hu : X.A.units + 64 < cLine) : CallR X (.builtin "max") (fun vs H Q => ∃ (a : Addr) (n : Int) (ns : List Int), vs = [V.ref a] ∧ SqT X.K H a ((n :: ns).map V.int) ∧ ∀ m, m ∈ n :: ns → (∀ y, y ∈ n :: ns → y ≤ m) → Q (.int m) H) := by
  intro pn s σ H vs us Q J r h
  obtain ⟨a, n, ns, rfl, hs, q⟩ := h
  obtain ⟨vs0, r0, hl, _⟩ := J.tuple hs
  rw [Vals.ref1 r]
  have hm := holdAll_ints (h := s.heap) (ns := n :: ns) r0
  refine PySem.W.max_tuple_datum (J.ok.hd hc) (vs := vs0.toArray) hl (x := n) (xs := ns) (by simpa using hm) (by show X.A.units + 1 + 0 < cLine; omega) fun i v h' tk hi hv kp0 => ?_
  obtain ⟨as, hr⟩ := hv
  obtain ⟨h1, h2, h3⟩ := maxOf_ge ns n
  have hr' : Reads h' v (.int (PySem.W.maxOf n ns)) as := hr
  cases hr' with
  | int _ t =>
    refine ⟨.int (PySem.W.maxOf n ns), H, J.kept kp0, ⟨_, rfl⟩, q _ ?_ fun y hy => ?_⟩
    · rcases h3 with h3 | h3
      · rw [h3]; exact List.mem_cons_self
      · exact List.mem_cons_of_mem _ h3
    · rcases (List.mem_cons.mp hy) with rfl | hy
      · exact h1
      · exact h2 y hy
theorem flat_ints (ys : List Int) : (ys.map V.int).all flatV = true := by
  rw [List.all_map]
  exact (List.all_eq_true.mpr fun _ _ => rfl)
theorem mt_tup_indexI : MtR X "tuple.index" (fun x xs H Q => ∃ p, ∃ ys : List Int, ∃ z j, x = .ref p ∧ xs = [.int z] ∧ SqT X.K H p (ys.map V.int) ∧ ys[j]? = some z ∧ (∀ m, m < j → ys[m]? ≠ some z) ∧ Q (.int (j : Nat)) H) := by
  intro pn s σ H x xs v us Q J rx rs h
  obtain ⟨p, ys, z, j, rfl, rfl, hq, hy, fst, q⟩ := h
  cases rx
  obtain ⟨u, rfl, t, rfl⟩ := (vals1 rs)
  obtain ⟨vs0, r, pl, gz⟩ := J.tuple hq
  obtain ⟨⟨kl, dd, dt, sl⟩, ho, hc, n, hd⟩ := pl
  simp only at hc hd
  subst hc
  subst hd
  have hl : vs0.toArray.size = ys.length := by rw [List.size_toArray, ← r.length, List.length_map]
  have hj : j < vs0.toArray.size := by rw [hl]; exact (List.getElem?_eq_some_iff.mp hy).1
  have here : ∀ (m : Nat) (hm : m < vs0.toArray.size), ∃ y t', ys[m]? = some y ∧ vs0.toArray[m] = Value.int y t' := fun m hm => by
    have lm : m < ys.length := by rw [← hl]; exact hm
    obtain ⟨w, hw, t', hw'⟩ := r.get (i := m) (x := .int ys[m]) (by simp [lm])
    refine ⟨ys[m], t', List.getElem?_eq_getElem lm, ?_⟩
    have e := ((List.getElem?_eq_some_iff.mp hw)).2
    rw [← hw', ← e]
    simp
  refine call_meets PySem.F.slot_tuple_index ⟨_, ho, rfl⟩ PySem.F.entry_tuple_index (PySem.F.args_tuple_index_2 _ _) (TI.tuple_indexAt p vs0.toArray n dd sl (.int z t) (eqU (.int z)) j hj ?_ ?_)
    ⟨ho, fun w hw => mem_eqAt (x := .int z) ⟨t, rfl⟩ rfl r (flat_ints ys) w (by simpa using hw), ⟨.int (j : Nat), H, J.tok _, ⟨_, rfl⟩, q⟩⟩
  · obtain ⟨y, t', h1, h2⟩ := here j hj
    rw [hy] at h1
    cases h1
    rw [h2]
    show (z == z) = true
    exact beq_self_eq_true z
  · intro m hm hmj
    obtain ⟨y, t', h1, h2⟩ := here m hm
    rw [h2]
    show (y == z) = false
    refine beq_eq_false_iff_ne.mpr fun e => fst m hmj ?_
    rw [h1, e]

/-! ### lists -/
/-- o[i], by values -/
def gL (K : PySem.W.Frag) : V → V → Hp → VK → Prop := fun o i H Q => ∃ (p : Addr) (xs : List V) (j : Nat) (v : V), o = .ref p ∧ i = .int (j : Int) ∧ SqL K H p xs ∧ xs[j]? = some v ∧ Q v H
theorem get_list : PGet X (gL X.K) := by
  intro pn s σ H o i ov iv Q J ro ri h
  obtain ⟨p, xs, j, v, rfl, rfl, hq, hx, q⟩ := h
  cases ro
  obtain ⟨t, rfl⟩ := ri
  obtain ⟨vs0, r, pl, gz⟩ := J.list hq
  obtain ⟨u, hu, ru⟩ := r.get hx
  have hj := (List.getElem?_eq_some_iff.mp hx).1
  have hn := line63
  exact wpAny_getItem_list pl.isList (by omega) (by omega) (by simpa using hu) ⟨v, H, J, ru, q⟩
open AutoSeq1 in
theorem add_any (l : Addr) (items : Array Value) (n : Nat) (d1 : Option Addr) (sl1 : Array (Option Value)) (b : Addr) (items2 : Array Value) (n2 : Nat) (d2 : Option Addr) (sl2 : Array (Option Value)) (hc0 : items.size + items2.size ≤ sizeLine) :
    Meets (Builtin.«list.__add__» ⟨[.ref l, .ref b], []⟩) (fun _ R s => s.heap.get? l = some { cls := .type "list", dict := d1, data := .seq items n, slots := sl1 } ∧ s.heap.get? b = some { cls := .type "list", dict := d2, data := .seq items2 n2, slots := sl2 } ∧ R (.ok (.ret (Value.ref s.heap.objs.size))) { s with heap := s.heap.push { cls := Value.type "list", data := Data.seq (items ++ items2) }, toks := s.toks }) :=
  .of_wp fun prog w A R s h => by obtain ⟨hp, gn, dr, tk, sy⟩ := s; obtain ⟨hl, hb, h⟩ := h; have f1 := idx_int; have f2 := AutoSeq1.sub_tuple_tuple; have f3 := AutoSeq1.sub_list_list; have f4 := AutoSeq1.sub_tuple_list; have f5 := AutoSeq1.sub_list_tuple; wp_walk using wpAny_loadPart' hl, wpAny_loadPart' hb; exact ⟨_, rfl, h⟩
/-- xs + ys, both read -/
def rCatR (K : PySem.W.Frag) : R2 := fun x y H Q => ∃ l b xs zs, x = .ref l ∧ y = .ref b ∧ SqL K H l xs ∧ SqL K H b zs ∧ xs.length + zs.length ≤ sizeLine ∧ ∀ p, H p = none → Q (.ref p) (upd H p (.lst (xs ++ zs)))
theorem op_catR : OpR X (binaryOp .Add) (rCatR X.K) := by
  intro pn s σ H x y v u Q J rx ry h
  obtain ⟨l, b, xs, zs, rfl, rfl, hH, hB, gz, q⟩ := h
  cases rx
  cases ry
  obtain ⟨vs0, r, ⟨⟨c1, d1, dt1, sl1⟩, n, e, hc, hdn, hd⟩, _⟩ := J.list hH
  obtain ⟨vs2, r2, ⟨⟨c2, d2, dt2, sl2⟩, n2, e2, hc2, hdn2, hd2⟩, _⟩ := J.list hB
  simp only at hc hd hc2 hd2
  subst hc hd hc2 hd2
  have hl := r.length
  have hl2 := r2.length
  refine concat_meets (T := "list") (a := .ref l) (b := .ref b) ⟨_, e, rfl⟩ ⟨_, e2, rfl⟩ noFill_list_add seq_list_add F.slot_list_add F.entry_list_add (F.args_list_add_2 _ _) (add_any l vs0.toArray n d1 sl1 b vs2.toArray n2 d2 sl2 (by rw [List.size_toArray, List.size_toArray]; omega)) ⟨e, e2, ?_⟩
  have ea : vs0.toArray ++ vs2.toArray = (vs0 ++ vs2).toArray := by simp
  rw [ea]
  exact ⟨.ref _, _, J.lnew (t' := s.toks) (r.append r2) (by rw [List.length_append]; omega), rfl, q _ J.fresh⟩
end
end Sc

/-! The text by places, the data on the heap, a call in short. -/
namespace Sc
open L2 PyProof.Rows PySem PySem.Spec
def topS (i : Nat) : Stmt := PySem.Challenge.pw_splitclimb_k16_whole_splits_rearranged.main.body.getD i (.Pass ⟨0, 0, 0, 0⟩)
abbrev sIsInt : Stmt := topS 1
abbrev sAtLeast : Stmt := topS 2
abbrev sGcd : Stmt := topS 3
abbrev sRup : Stmt := topS 4
abbrev sLowest : Stmt := topS 5
abbrev sReqSched : Stmt := topS 15
abbrev sReqRounds : Stmt := topS 16
abbrev sIsGroup : Stmt := topS 17
abbrev sReqCounts : Stmt := topS 18
abbrev sReqSmall : Stmt := topS 19
abbrev sReqSplit : Stmt := topS 20
abbrev sProducts : Stmt := topS 21
abbrev sScaled : Stmt := topS 22
abbrev sWeight : Stmt := topS 23
abbrev sGWeights : Stmt := topS 25
abbrev sGValues : Stmt := topS 26
abbrev sLightest : Stmt := topS 27
abbrev sHeaviest : Stmt := topS 28
abbrev sMixed : Stmt := topS 30
abbrev sSource : Stmt := topS 31
abbrev sTake : Stmt := topS 32
abbrev sBig : Stmt := topS 33
abbrev sRounds : Stmt := topS 34
abbrev sPeople : Stmt := topS 35
abbrev sWeighed : Stmt := topS 37
abbrev sDivided : Stmt := topS 38
abbrev sScene : Stmt := topS 40
abbrev sShuffled : Stmt := topS 41
abbrev sOrder : Stmt := topS 42
abbrev sReplaced : Stmt := topS 43
abbrev sMoved : Stmt := topS 44
abbrev sLaw : Stmt := topS 45

/-- the built-in names that the text leaves as they are; its two constants -/
structure Blt (mg : Str → Option Value) : Prop where
  isi : mg "isinstance" = none
  int : mg "int" = none
  bool : mg "bool" = none
  abs : mg "abs" = none
  list : mg "list" = none
  tuple : mg "tuple" = none
  len : mg "len" = none
  enum : mg "enumerate" = none
  all : mg "all" = none
  range : mg "range" = none
  sum : mg "sum" = none
  zip : mg "zip" = none
  min : mg "min" = none
  max : mg "max" = none
  mr : ∃ t, mg "MAX_ROUNDS" = some (.int 200 t)
  mgr : ∃ t, mg "MAX_GROUPS" = some (.int 1000 t)
/-- a def that may be called by its name -/
structure Cal (P : Program) (w : World) (K : PySem.W.Frag) (mg : Str → Option Value) (base : Heap) (k : Nat) (x : Str) (f : Addr) (fd : FuncData) (ps : List Str) (sp : Sp) : Prop where
  ok : FnOk P w K mg base CX0 k f fd ps sp
  g : mg x = some (.ref f)
  kp : PySem.W.keepIn K (Value.ref f) = true
  b : Binds K fd ps []
section
variable {X : Cx} {k : Nat} {f : Addr} {fd : FuncData} {ps : List Str} {sp : Sp} {x : Str} {p pos : Pos} {e : Expr} {es : List Expr} {t : TA}
theorem pc (G : Cal X.prog X.w X.K X.mg X.base k x f fd ps sp) (hr : Room k X.A) (ha : PA X (e :: es) t) (hg : Gl X x := by rfl) (hdb : (x == ("__debug__" : Str)) = false := by decide)
    (he : starEach (e :: es) X.env = (false, eval e X.env) :: starEach es X.env := by rfl) (hpl : (backTo pos (starEach es X.env)).any (·.1) = false := by rfl) : PE X (.Call (.Name x p) (e :: es) [] pos) (tCall sp [] E0 t) :=
  pe_call G.ok hr hg G.g G.kp G.b .nil pass0 ha hdb he hpl
/-- a built-in function, a built-in class, by its name -/
theorem pb {id : String} {r : List V → Hp → VK → Prop} (hc : CallR X (.builtin id) r) (hm : X.mg x = none) (ha : PA X (e :: es) t) (hv : bootBuiltins x = some (.builtin id) := by decide +kernel) (hg : Gl X x := by rfl) (hn : x ≠ "__name__" := by decide) (hdb : (x == ("__debug__" : Str)) = false := by decide)
    (he : starEach (e :: es) X.env = (false, eval e X.env) :: starEach es X.env := by rfl) (hpl : (backTo pos (starEach es X.env)).any (·.1) = false := by rfl) : PE X (.Call (.Name x p) (e :: es) [] pos) (tCB r t) :=
  pe_callB hc hg hm hv ha hn hdb he hpl
theorem pt' {T : String} {r : List V → Hp → VK → Prop} (hc : CallR X (.type T) r) (hm : X.mg x = none) (ha : PA X (e :: es) t) (hv : bootBuiltins x = some (.type T) := by decide +kernel) (hg : Gl X x := by rfl) (hn : x ≠ "__name__" := by decide) (hdb : (x == ("__debug__" : Str)) = false := by decide)
    (he : starEach (e :: es) X.env = (false, eval e X.env) :: starEach es X.env := by rfl) (hpl : (backTo pos (starEach es X.env)).any (·.1) = false := by rfl) : PE X (.Call (.Name x p) (e :: es) [] pos) (tCB r t) :=
  pe_callTy hc hg hm hv ha hn hdb he hpl
/-- a built-in class as a value -/
theorem pty {T : String} (hm : X.mg x = none) (hv : bootBuiltins x = some (.type T) := by decide +kernel) (hg : Gl X x := by rfl) (hn : x ≠ "__name__" := by decide) (hdb : (x == ("__debug__" : Str)) = false := by decide) : PE X (.Name x p) (tC (.ty T)) :=
  pe_bltn hg hm hv rfl hn hdb
/-- a constant of the module -/
theorem pcst {i : Int} {tk : Tok} (hm : X.mg x = some (.int i tk)) (hg : Gl X x := by rfl) (hdb : (x == ("__debug__" : Str)) = false := by decide) : PE X (.Name x p) (tC (.int i)) :=
  pe_glob hg hm (show RelV (.int i) (.int i tk) from ⟨tk, rfl⟩) hdb
/-- arguments -/
theorem p1 {a : Expr} {ta : TE} (ha : PE X a ta) (hs : starEach [a] X.env = (false, eval a X.env) :: starEach [] X.env := by rfl) : PA X [a] (tCons ta tNil) := pa_cons ha pa_nil hs
theorem p2 {a b : Expr} {ta tb : TE} (ha : PE X a ta) (hb : PE X b tb) (hs : starEach [a, b] X.env = (false, eval a X.env) :: starEach [b] X.env := by rfl) (hs2 : starEach [b] X.env = (false, eval b X.env) :: starEach [] X.env := by rfl) : PA X [a, b] (tCons ta (tCons tb tNil)) := pa_cons ha (pa_cons hb pa_nil hs2) hs
theorem p3 {a b c : Expr} {ta tb tc : TE} (ha : PE X a ta) (hb : PE X b tb) (hc : PE X c tc) (hs : starEach [a, b, c] X.env = (false, eval a X.env) :: starEach [b, c] X.env := by rfl) (hs2 : starEach [b, c] X.env = (false, eval b X.env) :: starEach [c] X.env := by rfl)
    (hs3 : starEach [c] X.env = (false, eval c X.env) :: starEach [] X.env := by rfl) : PA X [a, b, c] (tCons ta (tCons tb (tCons tc tNil))) := pa_cons ha (pa_cons hb (pa_cons hc pa_nil hs3) hs2) hs
theorem p4 {a b c d : Expr} {ta tb tc td : TE} (ha : PE X a ta) (hb : PE X b tb) (hc : PE X c tc) (hd : PE X d td) (hs : starEach [a, b, c, d] X.env = (false, eval a X.env) :: starEach [b, c, d] X.env := by rfl) (hs2 : starEach [b, c, d] X.env = (false, eval b X.env) :: starEach [c, d] X.env := by rfl)
    (hs3 : starEach [c, d] X.env = (false, eval c X.env) :: starEach [d] X.env := by rfl) (hs4 : starEach [d] X.env = (false, eval d X.env) :: starEach [] X.env := by rfl) : PA X [a, b, c, d] (tCons ta (tCons tb (tCons tc (tCons td tNil)))) := pa_cons ha (pa_cons hb (pa_cons hc (pa_cons hd pa_nil hs4) hs3) hs2) hs
end

/-! ### heaps -/
theorem same_new {H : Hp} {p : Addr} {o : HO} (h : H p = none) : Same H (upd H p o) := fun b x e => by
  rw [upd_ne (ne_of_none e h)]
  exact e
/-- all but the object at a stands as it was -/
def But (a : Addr) (H H' : Hp) : Prop := ∀ b o, H b = some o → b ≠ a → H' b = some o
theorem But.refl (a : Addr) (H : Hp) : But a H H := fun _ _ e _ => e
theorem But.trans {a : Addr} {H H1 H2 : Hp} (x : But a H H1) (y : But a H1 H2) : But a H H2 := fun b o e n => y b o (x b o e n) n
theorem But.of {a : Addr} {H H' : Hp} (x : Same H H') : But a H H' := fun b o e _ => x b o e
theorem but_upd {a : Addr} {H : Hp} {o : HO} : But a H (upd H a o) := fun b u e n => by
  rw [upd_ne n]
  exact e
theorem But.free {a p : Addr} {H H' : Hp} (x : But a H H') (ha : H a = none ∨ p ≠ a) (h : H' p = none) : H p = none := by
  cases q : H p with
  | none => rfl
  | some o =>
    by_cases e : p = a
    · rcases ha with z | z
      · rw [← e, q] at z
        cases z
      · exact absurd e z
    · rw [x p o q e] at h
      cases h
/-- a source of draws -/
def Src (H : Hp) (a : Addr) : Prop := ∃ c c0 d : Int, H a = some (.lst [.int c, .int c0, .int d])
theorem Src.but {a b : Addr} {H H' : Hp} (x : Src H a) (y : But b H H') (n : a ≠ b) : Src H' a := by
  obtain ⟨c, c0, d, e⟩ := x
  exact ⟨c, c0, d, y _ _ e n⟩
theorem Src.same {a : Addr} {H H' : Hp} (x : Src H a) (y : Same H H') : Src H' a := by
  obtain ⟨c, c0, d, e⟩ := x
  exact ⟨c, c0, d, y _ _ e⟩
/-- a list, a tuple of ints -/
abbrev LI (H : Hp) (a : Addr) (ns : List Int) : Prop := H a = some (.lst (ns.map V.int))
abbrev TI (H : Hp) (a : Addr) (ns : List Int) : Prop := H a = some (.tup (ns.map V.int))
/-- .. known as a tuple, or as its object too -/
def TupO (ns : List Int) (o : HO) : Prop := o = .tup (ns.map V.int) ∨ ∃ ob, o = .frz ob (.tup (ns.map V.int))
def TR (H : Hp) (a : Addr) (ns : List Int) : Prop := ∃ o, TupO ns o ∧ H a = some o
theorem TupO.rd {H : Hp} {a : Addr} {ns : List Int} {o : HO} (k : TupO ns o) (h : H a = some o) : Rd H a (.tup (ns.map V.int)) := by
  rcases k with rfl | ⟨ob, rfl⟩
  · exact .inl h
  · exact .inr ⟨ob, h⟩
theorem TupO.seq {K : PySem.W.Frag} {H : Hp} {a : Addr} {ns : List Int} {o : HO} (k : TupO ns o) (h : H a = some o) : SqT K H a (ns.map V.int) := .inl (k.rd h)
theorem TupO.ty {K : PySem.W.Frag} {H : Hp} {a : Addr} {ns : List Int} {o : HO} (k : TupO ns o) (h : H a = some o) : TyX K H (.ref a) (.type "tuple") := by
  rcases k with rfl | ⟨ob, rfl⟩
  · exact .base (.tup h)
  · exact .fTuple h
theorem TR.of {H : Hp} {a : Addr} {ns : List Int} (h : TI H a ns) : TR H a ns := ⟨_, .inl rfl, h⟩
theorem TR.seq {K : PySem.W.Frag} {H : Hp} {a : Addr} {ns : List Int} (h : TR H a ns) : SqT K H a (ns.map V.int) := by
  obtain ⟨o, k, e⟩ := h
  exact k.seq e
theorem TR.same {H H' : Hp} {a : Addr} {ns : List Int} (h : TR H a ns) (s : Same H H') : TR H' a ns := by
  obtain ⟨o, k, e⟩ := h
  exact ⟨o, k, s _ _ e⟩
theorem TR.but {c : Addr} {H H' : Hp} {a : Addr} {ns : List Int} (h : TR H a ns) (s : But c H H') (n : a ≠ c) : TR H' a ns := by
  obtain ⟨o, k, e⟩ := h
  exact ⟨o, k, s _ _ e n⟩
theorem TR.nl {H : Hp} {a : Addr} {ns : List Int} (h : TR H a ns) (xs : List V) : H a ≠ some (.lst xs) := fun z => by
  obtain ⟨o, k, e⟩ := h
  have x := Option.some.inj (e.symm.trans z)
  rcases k with rfl | ⟨ob, rfl⟩ <;> cases x
theorem Src.nr {H : Hp} {a : Addr} (h : Src H a) (ns : List Int) : ¬ TR H a ns := fun t => by
  obtain ⟨c, c0, d, e⟩ := h
  exact t.nl _ e
/-- tuples of ints at addresses -/
def TA (H : Hp) (as : List Addr) (rows : List (List Int)) : Prop := as.length = rows.length ∧ ∀ (j : Nat) (a : Addr) (r : List Int), as[j]? = some a → rows[j]? = some r → TR H a r
/-- a list of tuples of ints -/
def TL (H : Hp) (p : Addr) (rows : List (List Int)) : Prop := ∃ as : List Addr, H p = some (.lst (as.map V.ref)) ∧ TA H as rows
theorem TA.same {H H' : Hp} {as : List Addr} {rows : List (List Int)} (h : TA H as rows) (s : Same H H') : TA H' as rows := ⟨h.1, fun j a r e1 e2 => (h.2 j a r e1 e2).same s⟩
theorem TL.same {H H' : Hp} {p : Addr} {rows : List (List Int)} (h : TL H p rows) (s : Same H H') : TL H' p rows := by
  obtain ⟨as, e, t⟩ := h
  exact ⟨as, s _ _ e, t.same s⟩
theorem TA.but {a : Addr} {H H' : Hp} {as : List Addr} {rows : List (List Int)} (h : TA H as rows) (s : But a H H') (n : ∀ xs, ¬ TR H a xs) : TA H' as rows :=
  ⟨h.1, fun j b r e1 e2 => (h.2 j b r e1 e2).but s fun z => n _ (by rw [← z]; exact h.2 j b r e1 e2)⟩
theorem TL.but {a : Addr} {H H' : Hp} {p : Addr} {rows : List (List Int)} (h : TL H p rows) (s : But a H H') (n : ∀ xs, ¬ TR H a xs) (np : p ≠ a) : TL H' p rows := by
  obtain ⟨as, e, t⟩ := h
  exact ⟨as, s _ _ e np, t.but s n⟩
theorem TA.get {H : Hp} {as : List Addr} {rows : List (List Int)} (h : TA H as rows) {j : Nat} {r : List Int} (e : rows[j]? = some r) : ∃ a, as[j]? = some a ∧ TR H a r := by
  obtain ⟨hj, _⟩ := List.getElem?_eq_some_iff.mp e
  have hj' : j < as.length := by rw [h.1]; exact hj
  exact ⟨as[j], List.getElem?_eq_getElem hj', h.2 j _ r (List.getElem?_eq_getElem hj') e⟩
theorem TA.snoc {H : Hp} {as : List Addr} {rows : List (List Int)} (h : TA H as rows) {a : Addr} {r : List Int} (e : TR H a r) : TA H (as ++ [a]) (rows ++ [r]) := by
  refine ⟨by rw [List.length_append, List.length_append, h.1]; rfl, fun j b q e1 e2 => ?_⟩
  by_cases hj : j < as.length
  · rw [List.getElem?_append_left hj] at e1
    rw [List.getElem?_append_left (by rw [← h.1]; exact hj)] at e2
    exact h.2 j b q e1 e2
  · have hl := h.1
    rw [List.getElem?_append_right (by omega)] at e1
    rw [List.getElem?_append_right (by omega)] at e2
    have e3 : j - as.length = 0 := by
      obtain ⟨z, _⟩ := List.getElem?_eq_some_iff.mp e1
      rw [List.length_singleton] at z
      omega
    rw [e3] at e1
    rw [← hl, e3] at e2
    have x1 : a = b := Option.some.inj e1
    have x2 : r = q := Option.some.inj e2
    rw [← x1, ← x2]
    exact e
theorem TA.nil {H : Hp} : TA H [] [] := ⟨rfl, fun _ _ _ e _ => by simp at e⟩
theorem at_int {ns : List Int} {j : Nat} {x : Int} (h : ns[j]? = some x) : (ns.map V.int)[j]? = some (.int x) := by
  rw [List.getElem?_map, h]
  rfl
theorem at_ref {as : List Addr} {j : Nat} {a : Addr} (h : as[j]? = some a) : (as.map V.ref)[j]? = some (.ref a) := by
  rw [List.getElem?_map, h]
  rfl
theorem of_int {ns : List Int} {j : Nat} {v : V} (h : (ns.map V.int)[j]? = some v) : ∃ x, ns[j]? = some x ∧ v = .int x := by
  rw [List.getElem?_map] at h
  cases e : ns[j]? with
  | none =>
    rw [e] at h
    cases h
  | some x =>
    rw [e] at h
    exact ⟨x, rfl, (Option.some.inj h).symm⟩
theorem of_ref {as : List Addr} {j : Nat} {v : V} (h : (as.map V.ref)[j]? = some v) : ∃ a, as[j]? = some a ∧ v = .ref a := by
  rw [List.getElem?_map] at h
  cases e : as[j]? with
  | none =>
    rw [e] at h
    cases h
  | some x =>
    rw [e] at h
    exact ⟨x, rfl, (Option.some.inj h).symm⟩
theorem li_seq {K : PySem.W.Frag} {H : Hp} {a : Addr} {ns : List Int} (h : LI H a ns) : SqL K H a (ns.map V.int) := SqL.of h
theorem ti_seq {K : PySem.W.Frag} {H : Hp} {a : Addr} {ns : List Int} (h : TI H a ns) : SqT K H a (ns.map V.int) := SqT.of h
theorem small_line {n : Nat} (h : n ≤ 100000) : n ≤ sizeLine := Nat.le_trans h (by decide)
theorem small_line' {n : Nat} (h : n < 100000) : n < sizeLine := Nat.lt_of_lt_of_le h (by decide)
theorem Lt2.log {a : Nat} {i : Int} (h : Lt2 a i) (h0 : 0 < a) : i.natAbs.log2 < a := PySem.Flt.log2_lt_of h0 h
theorem cdiv {i j : Int} {b : Nat} (h : 0 < j) (hb : Lt2 b j) (h0 : 0 < b := by decide) (h9 : b ≤ 9000 := by decide) : CDivW i j := wide_div h hb h0 h9
theorem cmul {i j : Int} {a b : Nat} (ha : Lt2 a i) (hb : Lt2 b j) (h0 : 0 < a := by decide) (h1 : 0 < b := by decide) (h : a + b ≤ 1000000 := by decide) : CMulW i j := wide_mul ha hb h0 h1 h
end Sc

/-! integers.py -/
namespace Sc
open L2 PyProof.Rows PySem PySem.Spec
section
variable {base : Heap} {mg : Str → Option Value} {K : PySem.W.Frag} {w : World} {P : Program}
def spIsInt : Sp := fun vs H Q _ => ∃ i : Int, vs = [.int i] ∧ Q (.bl true) H
theorem scIsInt : FnScope ["value"] ["value"] (defScope sIsInt) := ⟨rfl, rfl, rfl, by decide +kernel, rfl, by decide +kernel, by decide +kernel⟩
theorem ok_isInt {f : Addr} {fd : FuncData} (F : Fun K "is_integer" "is_integer" sIsInt f fd) (B : Blt mg) : FnOk P w K mg base CX0 1 f fd ["value"] spIsInt := by
  refine F.ok scIsInt (fun vs H Q E h => ?_) (fun cdv A outer s H vs Q E hr h => ?_)
  · obtain ⟨i, rfl, _⟩ := h
    rfl
  · obtain ⟨i, rfl, q⟩ := h
    refine ⟨_, pss_one (ps_ret (pe_and (pb call_isi B.isi (p2 (pv 0) (pty (T := "int") B.int))) (pe_one (pe_not (pb call_isi B.isi (p2 (pv 0) (pty (T := "bool") B.bool))))))), ?_⟩
    refine ⟨_, rfl, .int i, .ty "int", .type "int", .type "int", true, rfl, .ty _, .base (.int i), kit_ty (by decide +kernel), true, rfl, iteT ?_⟩
    exact ⟨_, rfl, .int i, .ty "bool", .type "int", .type "bool", false, rfl, .ty _, .base (.int i), kit_ty (by decide +kernel), false, rfl, q⟩
def spAtLeast : Sp := fun vs H Q _ => ∃ i lo : Int, vs = [.int i, .int lo] ∧ lo ≤ i ∧ Q (.bl true) H
theorem scAtLeast : FnScope ["value", "low"] ["value", "low"] (defScope sAtLeast) := ⟨rfl, rfl, rfl, by decide +kernel, rfl, by decide +kernel, by decide +kernel⟩
theorem ok_atLeast {f f1 : Addr} {fd fd1 : FuncData} (F : Fun K "is_at_least" "is_at_least" sAtLeast f fd) (G1 : Cal P w K mg base 1 "is_integer" f1 fd1 ["value"] spIsInt) : FnOk P w K mg base CX0 2 f fd ["value", "low"] spAtLeast := by
  refine F.ok scAtLeast (fun vs H Q E h => ?_) (fun cdv A outer s H vs Q E hr h => ?_)
  · obtain ⟨i, lo, rfl, _⟩ := h
    rfl
  · obtain ⟨i, lo, rfl, hl, q⟩ := h
    refine ⟨_, pss_one (ps_ret (pe_and (pc G1 hr (p1 (pv 0))) (pe_one (pe_cmpR op_ge (pv 0) (pv 1) (nomark _))))), ?_⟩
    refine ⟨_, rfl, i, rfl, true, rfl, iteT ⟨_, rfl, _, rfl, i, lo, rfl, rfl, ?_⟩⟩
    show Q (.bl (decide (lo ≤ i))) H
    rw [decide_eq_true hl]
    exact q
def spGcd : Sp := fun vs H Q _ => ∃ a b : Int, vs = [.int a, .int b] ∧ 0 ≤ a ∧ 0 < b ∧ ∀ g : Int, 0 < g → g ∣ a → g ∣ b → Q (.int g) H
theorem scGcd : FnScope ["first", "second"] ["first", "second"] (defScope sGcd) := ⟨rfl, rfl, rfl, by decide +kernel, rfl, by decide +kernel, by decide +kernel⟩
theorem ok_gcd {f : Addr} {fd : FuncData} (F : Fun K "greatest_common_divisor" "greatest_common_divisor" sGcd f fd) (B : Blt mg) : FnOk P w K mg base CX0 1 f fd ["first", "second"] spGcd := by
  refine F.ok scGcd (fun vs H Q E h => ?_) (fun cdv A outer s H vs Q E hr h => ?_)
  · obtain ⟨a, b, rfl, _⟩ := h
    rfl
  · obtain ⟨a, b, rfl, ha, hb, q⟩ := h
    refine ⟨_, pss_cons (ps_while PassesOwn.never (pt_cmpR op_ne (pv 1) pe_int (nomark _)) (pss_one (ps_par (i := 0) (j := 1) (by rfl) scGcd.nd rfl rfl (by decide) rfl rfl (p2 (pv 1) (pe_op op_mod (pv 0) (pv 1))) (by rfl))))
      (pss_one (ps_ret (pb call_abs B.abs (p1 (pv 0))))), ?_⟩
    refine ⟨fun m σ H1 => H1 = H ∧ ∃ x y : Int, σ = [some (.int x), some (.int y)] ∧ 0 ≤ x ∧ 0 ≤ y ∧ y.toNat = m ∧ (∀ d : Int, d ∣ x → d ∣ y → d ∣ a ∧ d ∣ b), ⟨b.toNat, rfl, a, b, rfl, ha, by omega, rfl, fun d h1 h2 => ⟨h1, h2⟩⟩, fun m σ H1 hW => ?_⟩
    obtain ⟨rfl, x, y, rfl, hx, hy, hm, hd⟩ := hW
    refine ⟨_, rfl, (rfl), _, rfl, ?_⟩
    by_cases h0 : y = 0
    · subst h0
      rw [show (!decide (V.int 0 = V.int 0)) = false by simp]
      refine iteF ⟨_, rfl, x, rfl, ?_⟩
      obtain ⟨h1, h2⟩ := hd x (Int.dvd_refl x) (Int.dvd_zero x)
      rw [if_neg (show ¬ x < 0 by omega)]
      refine q x ?_ h1 h2
      have hne : x ≠ 0 := fun e => by
        rw [e] at h2
        have := Int.zero_dvd.mp h2
        omega
      omega
    · rw [show (!decide (V.int y = V.int 0)) = true by simp [h0]]
      refine iteT ⟨fun σ' H' => H' = H1 ∧ σ' = [some (.int y), some (.int (x % y))], fun σ' H' hN => ?_, ?_⟩
      · obtain ⟨rfl, rfl⟩ := hN
        have h3 := Int.emod_nonneg x h0
        have h4 := Int.emod_lt_of_pos x (show 0 < y by omega)
        refine ⟨(x % y).toNat, by omega, rfl, y, x % y, rfl, hy, h3, rfl, fun d h1 h2 => hd d ?_ h1⟩
        have e := Int.mul_ediv_add_emod x y
        rw [← e]
        exact Int.dvd_add (Int.dvd_trans h1 (Int.dvd_mul_right y _)) h2
      · exact ⟨_, rfl, _, rfl, _, rfl, x, y, rfl, rfl, (by show 0 < y; omega), _, _, rfl, rfl, rfl⟩
/-- -(-n // d) -/
def spRup : Sp := fun vs H Q _ => ∃ n d : Int, vs = [.int n, .int d] ∧ 0 < d ∧ Lt2 2000 d ∧ Q (.int (-((-n) / d))) H
theorem scRup : FnScope ["numerator", "denominator"] ["numerator", "denominator"] (defScope sRup) := ⟨rfl, rfl, rfl, by decide +kernel, rfl, by decide +kernel, by decide +kernel⟩
theorem ok_rup {f : Addr} {fd : FuncData} (F : Fun K "rounded_up" "rounded_up" sRup f fd) : FnOk P w K mg base CX0 1 f fd ["numerator", "denominator"] spRup := by
  refine F.ok scRup (fun vs H Q E h => ?_) (fun cdv A outer s H vs Q E hr h => ?_)
  · obtain ⟨a, b, rfl, _⟩ := h
    rfl
  · obtain ⟨n, d, rfl, h0, hd, q⟩ := h
    refine ⟨_, pss_one (ps_ret (pe_un un_neg (pe_op op_fdivW (pe_un un_neg (pv 0)) (pv 1)))), ?_⟩
    exact ⟨_, rfl, n, rfl, _, rfl, _, _, rfl, rfl, cdiv h0 hd, _, rfl, q⟩
def spLowest : Sp := fun vs H Q _ => ∃ n d : Int, vs = [.int n, .int d] ∧ 0 ≤ n ∧ 0 < d ∧ Lt2 2000 d ∧ ∀ (g : Int) (p : Addr) (H' : Hp), 0 < g → g ∣ n → g ∣ d → H p = none → H' = upd H p (.tup [.int (n / g), .int (d / g)]) → Q (.ref p) H'
theorem scLowest : FnScope ["numerator", "denominator", "shared"] ["numerator", "denominator"] (defScope sLowest) := ⟨rfl, rfl, rfl, by decide +kernel, rfl, by decide +kernel, by decide +kernel⟩
theorem ok_lowest {f f1 : Addr} {fd fd1 : FuncData} (F : Fun K "lowest_terms" "lowest_terms" sLowest f fd) (G1 : Cal P w K mg base 1 "greatest_common_divisor" f1 fd1 ["first", "second"] spGcd) : FnOk P w K mg base CX0 2 f fd ["numerator", "denominator"] spLowest := by
  refine F.ok scLowest (fun vs H Q E h => ?_) (fun cdv A outer s H vs Q E hr h => ?_)
  · obtain ⟨a, b, rfl, _⟩ := h
    rfl
  · obtain ⟨n, d, rfl, hn, hd, hb, q⟩ := h
    refine ⟨_, pss_cons (ps_set (i := 2) scLowest.nd rfl (.inl rfl) (pc G1 hr (p2 (pv 0) (pv 1))))
      (pss_one (ps_ret (pe_tup (p2 (pe_op op_fdivW (pv 0) (pv 2)) (pe_op op_fdivW (pv 1) (pv 2)))))), ?_⟩
    refine ⟨_, rfl, _, rfl, n, d, rfl, hn, hd, fun g hg g1 g2 => ?_⟩
    have hl : Lt2 2000 g := Lt2.of_le (Int.le_of_lt hg) (Int.le_of_dvd hd g2) hb
    refine ⟨_, rfl, _, rfl, _, _, rfl, rfl, cdiv hg hl, _, rfl, _, rfl, _, _, rfl, rfl, cdiv hg hl, (by show 2 ≤ sizeLine; decide), fun p hp => ?_⟩
    exact q g p _ hg g1 g2 hp rfl
end
end Sc

/-! positions.py: the checks -/
namespace Sc
open L2 PyProof.Rows PySem PySem.Spec
section
variable {base : Heap} {mg : Str → Option Value} {K : PySem.W.Frag} {w : World} {P : Program}
def spReqSched : Sp := fun vs H Q _ => ∃ (a : Addr) (E : List Int), vs = [.ref a] ∧ LI H a E ∧ E.length ≤ 200 ∧ (∀ e ∈ E, 2 ≤ e) ∧ ∀ H', Same H H' → Q .non H'
theorem scReqSched : FnScope ["schedule", "index", "entry"] ["schedule"] (defScope sReqSched) := ⟨rfl, rfl, rfl, by decide +kernel, rfl, by decide +kernel, by decide +kernel⟩
theorem ok_reqSched {f f1 : Addr} {fd fd1 : FuncData} (F : Fun K "require_schedule" "require_schedule" sReqSched f fd) (B : Blt mg) (G1 : Cal P w K mg base 2 "is_at_least" f1 fd1 ["value", "low"] spAtLeast) : FnOk P w K mg base CX0 3 f fd ["schedule"] spReqSched := by
  refine F.ok scReqSched (fun vs H Q E h => ?_) (fun cdv A outer s H vs Q E hr h => ?_)
  · obtain ⟨a, E, rfl, _⟩ := h
    rfl
  · obtain ⟨a, E, rfl, hE, hlen, h2, q⟩ := h
    obtain ⟨t, hmr⟩ := B.mr
    refine ⟨_, pss_cons (ps_if (PW.pt (pw_or (pt_not (pt_val (pb call_isiT B.isi (p2 (pv 0) (pe_tup (p2 (pty (T := "list") B.list) (pty (T := "tuple") B.tuple))))))) (pw_or1 (pt_cmpR op_gt (pb call_len_seq B.len (p1 (pv 0))) (pcst hmr) (nomark _)))))
        (pss_one ps_never) pss_nil)
      (pss_one (ps_for PassesOwn.never rfl (pi_enumX true (by rfl) B.enum (p1 (pv 0))) (pg_tup rfl (pgs_cons (pg_name (i := 1) scReqSched.nd rfl (.inl rfl)) (pgs_cons (pg_name (i := 2) scReqSched.nd rfl (.inl rfl)) pgs_nil)))
        (pss_one (ps_if (pt_not (pt_val (pc G1 hr (p2 (pv 2) pe_int)))) (pss_one ps_never) pss_nil)))), ?_⟩
    refine ⟨_, rfl, (by show 2 ≤ sizeLine; decide), fun tp htp => ⟨.ref a, tp, [.ty "list", .ty "tuple"], .type "list", [.type "list", .type "tuple"], true, rfl, upd_same, .cons (.ty _) (.cons (.ty _) .nil), .base (.lst (same_new htp _ _ hE)), kitAny_cons (b := true) (kit_ty (by decide +kernel)) (fun z => Bool.noConfusion z) (fun _ => rfl), true, rfl, iteF ?_⟩⟩
    have s1 := same_new (o := .tup [.ty "list", .ty "tuple"]) htp
    refine ⟨_, rfl, a, E.map V.int, rfl, .inl (li_seq (s1 _ _ hE)), _, _, rfl, rfl, _, rfl, ?_⟩
    have hl : decide ((200 : Int) < ((E.map V.int).length : Nat)) = false := decide_eq_false (by rw [List.length_map]; omega)
    show if decide ((200 : Int) < ((E.map V.int).length : Nat)) = true then _ else _
    rw [hl]
    refine iteF ?_
    refine ⟨_, rfl, a, E.map V.int, rfl, li_seq (s1 _ _ hE), for_it walk_enumX (fun i σ H1 => Same H H1 ∧ ∃ y1 y2, σ = [some (.ref a), y1, y2]) ⟨s1, none, none, rfl⟩ (fun i σ H1 _ hp => li_seq (hp.1 _ _ hE)) ?_ ?_⟩
    · rintro i x σ H1 H2 hi ⟨sm, y1, y2, rfl⟩ ⟨T, u, v, rfl, hT, rfl, e1, e2⟩
      obtain ⟨e, he, rfl⟩ := of_int e2
      refine ⟨T, [u, .int e], rfl, SqT.of upd_same, rfl, u, [.int e], rfl, .int e, [], rfl, rfl, ?_⟩
      refine ⟨_, rfl, e, 2, rfl, h2 e (List.mem_of_getElem? he), true, rfl, iteF ?_⟩
      exact ⟨sm.trans (same_new hT), _, _, rfl⟩
    · rintro σ H1 ⟨sm, _⟩
      exact q H1 sm
def spReqRounds : Sp := fun vs H Q _ => ∃ (a : Addr) (E : List Int), vs = [.ref a] ∧ LI H a E ∧ E.length ≤ 200 ∧ E ≠ [] ∧ (∀ e ∈ E, 2 ≤ e) ∧ ∀ H', Same H H' → Q .non H'
theorem scReqRounds : FnScope ["schedule"] ["schedule"] (defScope sReqRounds) := ⟨rfl, rfl, rfl, by decide +kernel, rfl, by decide +kernel, by decide +kernel⟩
theorem ok_reqRounds {f f1 : Addr} {fd fd1 : FuncData} (F : Fun K "require_rounds" "require_rounds" sReqRounds f fd) (B : Blt mg) (G1 : Cal P w K mg base 3 "require_schedule" f1 fd1 ["schedule"] spReqSched) : FnOk P w K mg base CX0 4 f fd ["schedule"] spReqRounds := by
  refine F.ok scReqRounds (fun vs H Q E h => ?_) (fun cdv A outer s H vs Q E hr h => ?_)
  · obtain ⟨a, E, rfl, _⟩ := h
    rfl
  · obtain ⟨a, E, rfl, hE, hlen, hne, h2, q⟩ := h
    refine ⟨_, pss_cons (ps_expr (pc G1 hr (p1 (pv 0)))) (pss_one (ps_if (pt_cmpR op_eq (pb call_len_seq B.len (p1 (pv 0))) pe_int (nomark _)) (pss_one ps_never) pss_nil)), ?_⟩
    refine ⟨_, rfl, a, E, rfl, hE, hlen, h2, fun H1 sm => ?_⟩
    refine ⟨_, rfl, a, E.map V.int, rfl, .inl (li_seq (sm _ _ hE)), rfl, _, rfl, ?_⟩
    have hl : decide (V.int ((E.map V.int).length : Nat) = V.int 0) = false := decide_eq_false fun e => by
      have e1 := V.int.inj e
      rw [List.length_map] at e1
      exact hne (List.eq_nil_of_length_eq_zero (by omega))
    rw [hl]
    exact iteF (q H1 sm)
def spIsGroup : Sp := fun vs H Q _ => ∃ (p : Addr) (ns : List Int) (m : Int), vs = [.ref p, .int m] ∧ TR H p ns ∧ m = (ns.length : Nat) ∧ ns.length ≤ 1000 ∧ (∀ x ∈ ns, 0 ≤ x) ∧ ∀ H', Same H H' → Q (.bl true) H'
theorem scIsGroup : FnScope ["value", "length", "entry"] ["value", "length"] (defScope sIsGroup) := ⟨rfl, rfl, rfl, by decide +kernel, rfl, by decide +kernel, by decide +kernel⟩
theorem all_rep (n : Nat) : (List.replicate n true).all id = true := by
  rw [List.all_eq_true]
  intro x hx
  rw [(List.mem_replicate.mp hx).2]
  rfl
theorem ok_isGroup {f f1 : Addr} {fd fd1 : FuncData} (F : Fun K "is_group" "is_group" sIsGroup f fd) (B : Blt mg) (G1 : Cal P w K mg base 2 "is_at_least" f1 fd1 ["value", "low"] spAtLeast) : FnOk P w K mg base CX0 3 f fd ["value", "length"] spIsGroup := by
  refine F.ok scIsGroup (fun vs H Q E h => ?_) (fun cdv A outer s H vs Q E hr h => ?_)
  · obtain ⟨a, E, m, rfl, _⟩ := h
    rfl
  · obtain ⟨p, ns, m, rfl, ⟨o, kp, hp⟩, hm, hlen, h0, q⟩ := h
    refine ⟨_, pss_one (ps_ret (pe_and (pb call_isi B.isi (p2 (pv 0) (pty (T := "tuple") B.tuple))) (pe_and (pe_cmpR op_eq (pb call_len_seq B.len (p1 (pv 0))) (pv 1) (nomark _))
      (pe_one (pb (cr_all rfl) B.all (p1 (pe_lc (own := [("entry", 2)]) (g := gName 2) rfl scIsGroup.nd (pi_tup (pv 0)) (blkOk_by (own := [("entry", 2)]) (N := ["value", "length", "entry"]) (sc := defScope sIsGroup) (by decide +kernel)) (fun _ _ _ _ _ => pg_name (i := 2) scIsGroup.nd rfl (.inl rfl)) (fun _ _ _ _ _ => pts_nil)
        (fun _ _ _ _ _ => pc G1 hr (p2 (pv 2) pe_int))))))))), ?_⟩
    refine ⟨_, rfl, .ref p, .ty "tuple", .type "tuple", .type "tuple", true, rfl, .ty _, kp.ty hp, kit_ty (by decide +kernel), true, rfl, iteT ?_⟩
    refine ⟨_, rfl, p, ns.map V.int, rfl, .inr (kp.seq hp), _, rfl, rfl, _, rfl, ?_⟩
    have hl : decide (V.int ((ns.map V.int).length : Nat) = V.int m) = true := decide_eq_true (by rw [hm, List.length_map])
    rw [hl]
    refine iteT ⟨_, rfl, p, rfl, ⟨_, kp.seq hp⟩, fun D hD => lc_tup (K := K) (a := p) (xs := ns.map V.int) (fun i H1 => Same H H1 ∧ H1 D = some (.lst ((List.replicate i true).map V.bl))) ⟨same_new hD, upd_same⟩ (fun i H1 _ hq => kp.seq (hq.1 _ _ hp)) ?_ ?_⟩
    · rintro i x H1 hx ⟨sm, e⟩
      obtain ⟨n, hn, rfl⟩ := of_int hx
      have hi := (List.getElem?_eq_some_iff.mp hn).1
      refine ⟨rfl, _, rfl, n, 0, rfl, h0 n (List.mem_of_getElem? hn), _, e, (by rw [List.length_map, List.length_replicate]; exact small_line' (by omega)), fun b o hb => ?_, ?_⟩
      · rw [upd_ne (ne_of_none hb hD)]
        exact sm b o hb
      · rw [upd_same, List.replicate_succ', List.map_append]
        rfl
    · rintro H1 ⟨sm, e⟩
      refine ⟨D, List.replicate (ns.map V.int).length true, rfl, SqL.of e, ?_⟩
      rw [all_rep]
      exact q H1 sm
def spReqCounts : Sp := fun vs H Q _ => ∃ (p : Addr) (ns : List Int), vs = [.ref p] ∧ TI H p ns ∧ ns.length ≤ 200 ∧ (∀ x ∈ ns, 0 ≤ x) ∧ ∀ H', Same H H' → Q .non H'
theorem scReqCounts : FnScope ["counts"] ["counts"] (defScope sReqCounts) := ⟨rfl, rfl, rfl, by decide +kernel, rfl, by decide +kernel, by decide +kernel⟩
theorem ok_reqCounts {f f1 : Addr} {fd fd1 : FuncData} (F : Fun K "require_counts" "require_counts" sReqCounts f fd) (B : Blt mg) (G1 : Cal P w K mg base 3 "is_group" f1 fd1 ["value", "length"] spIsGroup) : FnOk P w K mg base CX0 4 f fd ["counts"] spReqCounts := by
  refine F.ok scReqCounts (fun vs H Q E h => ?_) (fun cdv A outer s H vs Q E hr h => ?_)
  · obtain ⟨a, E, rfl, _⟩ := h
    rfl
  · obtain ⟨p, ns, rfl, hp, hlen, h0, q⟩ := h
    obtain ⟨t, hmr⟩ := B.mr
    refine ⟨_, pss_one (ps_if (PW.pt (pw_or (pt_not (pt_val (pb call_isi B.isi (p2 (pv 0) (pty (T := "tuple") B.tuple))))) (pw_or (pt_cmpR op_gt (pb call_len_seq B.len (p1 (pv 0))) (pcst hmr) (nomark _)) (pw_or1 (pt_not (pt_val (pc G1 hr (p2 (pv 0) (pb call_len_seq B.len (p1 (pv 0))))))))))) (pss_one ps_never) pss_nil), ?_⟩
    refine ⟨_, rfl, .ref p, .ty "tuple", .type "tuple", .type "tuple", true, rfl, .ty _, .base (.tup hp), kit_ty (by decide +kernel), true, rfl, iteF ?_⟩
    refine ⟨_, rfl, p, ns.map V.int, rfl, .inr (ti_seq hp), _, _, rfl, rfl, _, rfl, ?_⟩
    have hl : decide ((200 : Int) < ((ns.map V.int).length : Nat)) = false := decide_eq_false (by rw [List.length_map]; omega)
    show if decide ((200 : Int) < ((ns.map V.int).length : Nat)) = true then _ else _
    rw [hl]
    refine iteF ⟨_, rfl, _, rfl, p, ns.map V.int, rfl, .inr (ti_seq hp), p, ns, _, rfl, .of hp, (by rw [List.length_map]), (by omega), h0, fun H1 sm => ⟨true, rfl, iteF (q H1 sm)⟩⟩
def spReqSmall : Sp := fun vs H Q _ => ∃ (a : Addr) (E : List Int) (g : Int), vs = [.ref a] ∧ LI H a E ∧ E[0]? = some g ∧ g ≤ 1000 ∧ Q .non H
theorem scReqSmall : FnScope ["schedule"] ["schedule"] (defScope sReqSmall) := ⟨rfl, rfl, rfl, by decide +kernel, rfl, by decide +kernel, by decide +kernel⟩
theorem ok_reqSmall {f : Addr} {fd : FuncData} (F : Fun K "require_small_round" "require_small_round" sReqSmall f fd) (B : Blt mg) : FnOk P w K mg base CX0 1 f fd ["schedule"] spReqSmall := by
  refine F.ok scReqSmall (fun vs H Q E h => ?_) (fun cdv A outer s H vs Q E hr h => ?_)
  · obtain ⟨a, E, g, rfl, _⟩ := h
    rfl
  · obtain ⟨a, E, g, rfl, hE, hg, h1, q⟩ := h
    obtain ⟨t, hmr⟩ := B.mgr
    refine ⟨_, pss_one (ps_if (pt_cmpR op_gt (pe_ix ix_list (pv 0) pe_int (fun _ _ => rfl)) (pcst hmr) (nomark _)) (pss_one ps_never) pss_nil), ?_⟩
    refine ⟨_, rfl, a, E.map V.int, 0, .int g, rfl, rfl, li_seq hE, at_of (j := 0) rfl (at_int hg), _, _, rfl, rfl, _, rfl, ?_⟩
    show if decide ((1000 : Int) < g) = true then _ else _
    rw [(decide_eq_false (by omega))]
    exact iteF q
end
end Sc

/-! data compared; slices; the text's comprehensions -/
namespace Sc
open L2 PyProof.Rows PySem PySem.Spec
theorem cut_from {xs : List V} (k : Nat) : cutV xs (some (k : Int)) none = xs.drop k := by
  unfold cutV
  rw [HT.sIx_nat, HT.sIx_none]
  by_cases h : k ≤ xs.length
  · rw [Nat.min_eq_left h]
    exact List.take_of_length_le (by rw [List.length_drop]; exact Nat.le_refl _)
  · rw [Nat.min_eq_right (by omega), List.drop_eq_nil_of_le (Nat.le_refl _), List.drop_eq_nil_of_le (by omega), List.take_nil]
theorem cut_to {xs : List V} (k : Nat) : cutV xs none (some (k : Int)) = xs.take k := by
  unfold cutV
  rw [HT.sIx_nat, HT.sIx_none, List.drop_zero, Nat.sub_zero]
  by_cases h : k ≤ xs.length
  · rw [Nat.min_eq_left h]
  · rw [Nat.min_eq_right (by omega), List.take_of_length_le Nat.le.refl, List.take_of_length_le (by omega)]
theorem take_snoc {α : Type} {l : List α} {i : Nat} {x : α} (h : l[i]? = some x) : l.take (i + 1) = l.take i ++ [x] := by
  rw [List.take_add_one, h]
  rfl
/-! ### == of data -/
def iD (ns : List Int) : List PyData := ns.map PyData.int
def rD (rows : List (List Int)) : List PyData := rows.map fun r => PyData.tuple (iD r)
theorem dp_ints {K : PySem.W.Frag} {H : Hp} : ∀ ns : List Int, DpAll K H (ns.map V.int) (iD ns)
  | [] => DpAll.nil
  | n :: ns => DpAll.cons (Dp.int n) (dp_ints ns)
theorem dp_LI {K : PySem.W.Frag} {H : Hp} {p : Addr} {ns : List Int} (h : LI H p ns) : Dp K H (.ref p) (.list (iD ns)) := Dp.lst (SqL.of h) (dp_ints ns)
theorem dp_TI {K : PySem.W.Frag} {H : Hp} {p : Addr} {ns : List Int} (h : TI H p ns) : Dp K H (.ref p) (.tuple (iD ns)) := Dp.tup (SqT.of h) (dp_ints ns)
theorem dp_TR {K : PySem.W.Frag} {H : Hp} {p : Addr} {ns : List Int} (h : TR H p ns) : Dp K H (.ref p) (.tuple (iD ns)) := Dp.tup h.seq (dp_ints ns)
theorem dp_TA {K : PySem.W.Frag} {H : Hp} : ∀ {as : List Addr} {rows : List (List Int)}, TA H as rows → DpAll K H (as.map V.ref) (rD rows)
  | [], [], _ => DpAll.nil
  | a :: as, [], h => by
    have := h.1
    simp at this
  | [], r :: rows, h => by
    have := h.1
    simp at this
  | a :: as, r :: rows, h => DpAll.cons (dp_TR (h.2 0 a r rfl rfl)) (dp_TA (as := as) (rows := rows) ⟨by
      have := h.1
      rw [List.length_cons, List.length_cons] at this
      omega, fun j b q e1 e2 => h.2 (j + 1) b q e1 e2⟩)
theorem dp_TL {K : PySem.W.Frag} {H : Hp} {p : Addr} {rows : List (List Int)} (h : TL H p rows) : Dp K H (.ref p) (.list (rD rows)) := by
  obtain ⟨as, e, t⟩ := h
  exact Dp.lst (SqL.of e) (dp_TA t)
theorem iD_lay : ∀ ns : List Int, PyData.canLayAll0 (iD ns) = true
  | [] => by simp [iD, PyData.canLayAll0]
  | n :: ns => by
    have h := iD_lay ns
    show PyData.canLayAll0 (PyData.int n :: iD ns) = true
    simp [PyData.canLayAll0, PyData.canLay0, h]
theorem iD_depth : ∀ ns : List Int, PyData.depthAll (iD ns) = 0
  | [] => by simp [iD, PyData.depthAll]
  | n :: ns => by
    have h := iD_depth ns
    show PyData.depthAll (PyData.int n :: iD ns) = 0
    simp [PyData.depthAll, PyData.depth, h]
theorem rD_lay : ∀ rows : List (List Int), PyData.canLayAll0 (rD rows) = true
  | [] => by simp [rD, PyData.canLayAll0]
  | r :: rows => by
    have h := rD_lay rows
    have h1 := iD_lay r
    show PyData.canLayAll0 (PyData.tuple (iD r) :: rD rows) = true
    simp [PyData.canLayAll0, PyData.canLay0, h, h1]
theorem rD_depth : ∀ rows : List (List Int), PyData.depthAll (rD rows) ≤ 1
  | [] => by simp [rD, PyData.depthAll]
  | r :: rows => by
    have h := rD_depth rows
    have h1 := iD_depth r
    show PyData.depthAll (PyData.tuple (iD r) :: rD rows) ≤ 1
    simp only [PyData.depthAll, PyData.depth, h1]
    omega
theorem sh_of {d : PyData} (h1 : d.canLay0 = true) (h2 : d.depth ≤ 64) : SeqAt.shaped d = true := by
  show (d.canLay0 && decide (d.depth ≤ 64)) = true
  rw [h1, decide_eq_true h2]
  rfl
theorem sh_L (ns : List Int) : SeqAt.shaped (.list (iD ns)) = true := sh_of (by simp only [PyData.canLay0]; exact iD_lay ns) (by simp only [PyData.depth, iD_depth]; omega)
theorem sh_T (ns : List Int) : SeqAt.shaped (.tuple (iD ns)) = true := sh_of (by simp only [PyData.canLay0]; exact iD_lay ns) (by simp only [PyData.depth, iD_depth]; omega)
theorem sh_R (rows : List (List Int)) : SeqAt.shaped (.list (rD rows)) = true := sh_of (by simp only [PyData.canLay0]; exact rD_lay rows) (by have := rD_depth rows; simp only [PyData.depth]; omega)
theorem eqv_self {d : PyData} (h : SeqAt.shaped d = true) : PyData.eqv d d = true := SeqAt.eqv_refl d (SeqAt.canLay_of_shaped h)
theorem ne_nil_eqv {n : Int} {ns : List Int} : PyData.eqv (.list (iD (n :: ns))) (.list (iD [])) = false := by
  show PyData.eqv (.list (PyData.int n :: iD ns)) (.list []) = false
  simp [PyData.eqv, PyData.eqvAll]
/-! ### comprehensions in the text -/
def lcS : Expr → Scope
  | .ListComp _ _ sc _ => sc
  | _ => { names := [], kind := .function, isCoroutine := false, isGenerator := false }
def lcE : Expr → Expr
  | .ListComp e _ _ _ => e
  | e => e
def call1 : Expr → Expr
  | .Call _ (a :: _) _ _ => a
  | e => e
def ifLeft : Stmt → Expr
  | .If (.Compare l _ _ _) _ _ _ => l
  | _ => .Constant .none 0 ⟨0, 0, 0, 0⟩
def asgVal : Stmt → Expr
  | .Assign _ e _ => e
  | _ => .Constant .none 0 ⟨0, 0, 0, 0⟩
def stAt (s : Stmt) (i : Nat) : Stmt := (defBody s).getD i (.Pass ⟨0, 0, 0, 0⟩)
end Sc

/-! positions.py: products, weights -/
namespace Sc
open L2 PyProof.Rows PySem PySem.Spec
section
variable {base : Heap} {mg : Str → Option Value} {K : PySem.W.Frag} {w : World} {P : Program}
def prods (E : List Int) : List Int := (List.range (E.length + 1)).map fun i => pr (E.take i)
theorem prods_last (E : List Int) (i : Nat) : ((List.range (i + 1)).map fun i => pr (E.take i)) = ((List.range i).map fun i => pr (E.take i)) ++ [pr (E.take i)] := by
  rw [List.range_succ, List.map_append]
  rfl
theorem last_prods (E : List Int) (i : Nat) : atI (((List.range (i + 1)).map fun i => pr (E.take i)).map V.int) (-1) = some (.int (pr (E.take i))) := by
  rw [prods_last, List.map_append]
  exact atI_last _ _
theorem prods_end (E : List Int) : atI ((prods E).map V.int) (-1) = some (.int (pr E)) := by
  have h := last_prods E E.length
  rw [List.take_length] at h
  exact h
theorem take_lt2 {E : List Int} (h : Ent E) (hl : E.length ≤ 20) (i : Nat) : Lt2 1282 (pr (E.take i)) := (pr_lt2 (h.take i)).mono (by rw [List.length_take]; omega)
theorem drop_lt2 {E : List Int} (h : Ent E) (hl : E.length ≤ 20) (i : Nat) : Lt2 1282 (pr (E.drop i)) := (pr_lt2 (h.drop i)).mono (by rw [List.length_drop]; omega)
theorem pr_lt {E : List Int} (h : Ent E) (hl : E.length ≤ 20) : Lt2 1282 (pr E) := (pr_lt2 h).mono (by omega)
def spProducts : Sp := fun vs H Q _ => ∃ (a : Addr) (E : List Int), vs = [.ref a] ∧ LI H a E ∧ Ent E ∧ E.length ≤ 20 ∧ ∀ (p : Addr) (H' : Hp), Same H H' → H p = none → LI H' p (prods E) → Q (.ref p) H'
theorem scProducts : FnScope ["schedule", "found", "entry"] ["schedule"] (defScope sProducts) := ⟨rfl, rfl, rfl, by decide +kernel, rfl, by decide +kernel, by decide +kernel⟩
theorem ok_products {f : Addr} {fd : FuncData} (F : Fun K "products" "products" sProducts f fd) : FnOk P w K mg base CX0 1 f fd ["schedule"] spProducts := by
  refine F.ok scProducts (fun vs H Q E h => ?_) (fun cdv A outer s H vs Q E hr h => ?_)
  · obtain ⟨a, E, rfl, _⟩ := h
    rfl
  · obtain ⟨a, E, rfl, hE, he, hlen, q⟩ := h
    refine ⟨_, pss_cons (ps_set (i := 1) scProducts.nd rfl (.inl rfl) (pe_lst (p1 pe_int)))
      (pss_cons (ps_for PassesOwn.never rfl (pi_list (pv 0)) (pg_name (i := 2) scProducts.nd rfl (.inl rfl))
        (pss_one (ps_expr (pe_bm PySem.F.plainAttrs_list PySem.F.slot_list_append PySem.F.type_list_append mt_append (pv 1) (p1 (pe_op op_mulW (pe_ix ix_list (pv 1) (pe_un un_neg pe_int) (fun _ _ => rfl)) (pv 2))))))) (pss_one (ps_ret (pv 1)))), ?_⟩
    refine ⟨(by show 1 ≤ sizeLine; decide), fun o ho => ?_⟩
    have s1 := same_new (o := .lst [.int 1]) ho
    refine ⟨_, rfl, a, rfl, ⟨_, li_seq (s1 _ _ hE)⟩, for_list (K := K) (a := a) (xs := E.map V.int) (fun i σ H1 => Same H H1 ∧ LI H1 o ((List.range (i + 1)).map fun i => pr (E.take i)) ∧ ∃ y, σ = [some (.ref a), some (.ref o), y])
      ⟨s1, upd_same, none, rfl⟩ (fun i σ H1 _ hp => li_seq (hp.1 _ _ hE)) ?_ ?_⟩
    · rintro i x σ H1 hx ⟨sm, e, y, rfl⟩
      obtain ⟨z, hz, rfl⟩ := of_int hx
      have hi := (List.getElem?_eq_some_iff.mp hz).1
      refine ⟨.ref o, rfl, .inl ⟨rfl, _, li_seq e⟩, .ref o, rfl, 1, rfl, o, _, -1, _, rfl, rfl, li_seq e, last_prods E i, .int z, rfl, _, z, rfl, rfl, cmul (take_lt2 he hlen i) (he.lt2 (List.mem_of_getElem? hz)), o, _, _, rfl, rfl, e, ?_, ?_⟩
      · rw [List.length_map, List.length_map, List.length_range]
        exact small_line' (by omega)
      · refine ⟨fun b u hb => ?_, ?_, _, rfl⟩
        · rw [upd_ne (ne_of_none hb ho)]
          exact sm b u hb
        · show upd H1 o _ o = _
          rw [upd_same, prods_last E (i + 1), List.map_append, pr_take_succ hz]
          rfl
    · rintro σ H1 ⟨sm, e, y, rfl⟩
      rw [List.length_map] at e
      exact ⟨_, rfl, q o H1 sm ho e⟩
def spScaled : Sp := fun vs H Q _ => ∃ (a p : Addr) (E cs : List Int), vs = [.ref a, .ref p] ∧ LI H a E ∧ TR H p cs ∧ Ent E ∧ E.length ≤ 20 ∧ Cnt cs ∧ cs.length ≤ 1000 ∧ ∀ H', Same H H' → Q (.int (WW E cs)) H'
theorem scScaled : FnScope ["schedule", "counts", "found", "count", "product"] ["schedule", "counts"] (defScope sScaled) := ⟨rfl, rfl, rfl, by decide +kernel, rfl, by decide +kernel, by decide +kernel⟩
theorem ok_scaled {f f1 : Addr} {fd fd1 : FuncData} (F : Fun K "scaled_weight" "scaled_weight" sScaled f fd) (B : Blt mg) (G1 : Cal P w K mg base 1 "products" f1 fd1 ["schedule"] spProducts) : FnOk P w K mg base CX0 2 f fd ["schedule", "counts"] spScaled := by
  refine F.ok scScaled (fun vs H Q E h => ?_) (fun cdv A outer s H vs Q E hr h => ?_)
  · obtain ⟨a, p, E, cs, rfl, _⟩ := h
    rfl
  · obtain ⟨a, p, E, cs, rfl, hE, ⟨oC, kC, hC⟩, he, hlen, hc, hcl, q⟩ := h
    refine ⟨_, pss_cons (ps_set (i := 2) scScaled.nd rfl (.inr rfl) (pc G1 hr (p1 (pv 0))))
      (pss_one (ps_ret (pb (cr_sum rfl) B.sum (p1 (pe_lc (own := [("count", 3), ("product", 4)]) (g := gTup K 2 (gCons (gName 3) (gCons (gName 4) gNil))) rfl scScaled.nd (pi_zipX false true (by rfl) B.zip (p2 (pv 1) (pe_slice sl_list (pv 2) (po_some pe_int) po_none)))
        (blkOk_by (own := [("count", 3), ("product", 4)]) (N := ["schedule", "counts", "found", "count", "product"]) (sc := defScope sScaled) (by decide +kernel)) (fun _ _ _ _ _ => pg_tup rfl (pgs_cons (pg_name (i := 3) scScaled.nd rfl (.inl rfl)) (pgs_cons (pg_name (i := 4) scScaled.nd rfl (.inl rfl)) pgs_nil))) (fun _ _ _ _ _ => pts_nil)
        (fun _ _ _ _ _ => pe_op op_mulW (pv 3) (pe_op op_fdivW (pe_ix (r := rIxL K) ix_list (pv 2) (pe_un un_neg pe_int) (fun _ _ => rfl)) (pv 4)))))))), ?_⟩
    refine ⟨_, rfl, a, E, rfl, hE, he, hlen, fun o H1 sm ho e => ?_⟩
    refine ⟨_, rfl, _, rfl, 1, rfl, o, _, rfl, li_seq e, fun c hc1 => ?_⟩
    have s2 := same_new (o := .lst (cutV ((prods E).map V.int) (some 1) none)) hc1
    have ec : LI (upd H1 c (.lst (cutV ((prods E).map V.int) (some 1) none))) c ((prods E).drop 1) := by
      show upd H1 c _ c = _
      rw [upd_same, show (some (1 : Int)) = some ((1 : Nat) : Int) from rfl, cut_from, List.map_drop]
    refine ⟨p, c, _, _, rfl, kC.seq (s2 _ _ (sm _ _ hC)), li_seq ec, fun D hD => ?_⟩
    have s3 := same_new (o := .lst []) hD
    have hn : (terms E cs).length = min (cs.map V.int).length (((prods E).drop 1).map V.int).length := by
      rw [terms_len, List.length_map, List.length_map, List.length_drop]
      unfold prods
      rw [@List.length_map, List.length_range]
      omega
    generalize hH2 : upd H1 c (.lst (cutV ((prods E).map V.int) (some 1) none)) = H2 at s2 ec hD s3
    refine lc_it (walk_zipX hn) (fun i H3 => Same H2 H3 ∧ LI H3 D ((terms E cs).take i)) ⟨s3, upd_same⟩ (fun i H3 _ hp => ⟨kC.seq (hp.1 _ _ (s2 _ _ (sm _ _ hC))), li_seq (hp.1 _ _ ec)⟩) ?_ ?_
    · rintro i x H3 H4 hi ⟨s4, e4⟩ ⟨T, u, v, rfl, hT, rfl, k1, k2⟩
      obtain ⟨y, hy, rfl⟩ := of_int k1
      obtain ⟨z, hz, rfl⟩ := of_int k2
      have hil : i < E.length := by
        rw [terms_len] at hi
        omega
      have hz2 : z = pr (E.take (i + 1)) := by
        rw [List.getElem?_drop] at hz
        unfold prods at hz
        rw [List.getElem?_map, List.getElem?_range (by omega)] at hz
        have := Option.some.inj hz
        rw [← this, Nat.add_comm]
      subst hz2
      have tg := terms_get (E := E) hy hil
      refine ⟨T, [.int y, .int (pr (E.take (i + 1)))], rfl, SqT.of upd_same, rfl, _, _, rfl, _, _, rfl, rfl, rfl, ?_⟩
      have s5 := (s4.trans (same_new (o := .tup [.int y, .int (pr (E.take (i + 1)))]) hT))
      refine ⟨_, rfl, _, rfl, 1, rfl, o, _, -1, _, rfl, rfl, li_seq (s5 _ _ (s2 _ _ e)), prods_end E, _, rfl, _, _, rfl, rfl, cdiv (pr_pos (he.take _)) (take_lt2 he hlen _), _, _, rfl, rfl, ?_, ?_⟩
      · rw [pr_div he]
        exact cmul ((hc y (List.mem_of_getElem? hy)).2) (drop_lt2 he hlen _)
      · refine ⟨_, (by rw [upd_ne (ne_of_none e4 hT)]; exact e4), ?_, ?_, ?_⟩
        · rw [@List.length_map, List.length_take]
          exact small_line' (by rw [terms_len]; omega)
        · intro b u hb
          rw [upd_ne (ne_of_none hb hD)]
          exact s5 b u hb
        · show upd _ D _ D = _
          rw [upd_same, take_snoc tg, List.map_append, pr_div he]
          rfl
    · rintro H3 ⟨s4, e4⟩
      rw [List.take_of_length_le (Nat.le_refl _)] at e4
      refine ⟨D, terms E cs, rfl, li_seq e4, ?_⟩
      rw [terms_sum]
      exact q H3 ((sm.trans s2).trans s4)
/-- the weight in lowest terms -/
def spWeight : Sp := fun vs H Q _ => ∃ (a p : Addr) (E cs : List Int), vs = [.ref a, .ref p] ∧ LI H a E ∧ TI H p cs ∧ Ent E ∧ E.length ≤ 20 ∧ Cnt cs ∧ cs.length ≤ 200 ∧ ∀ (g : Int) (t : Addr) (H' : Hp), 0 < g → g ∣ WW E cs → g ∣ pr E → Same H H' → TI H' t [WW E cs / g, pr E / g] → Q (.ref t) H'
theorem scWeight : FnScope ["schedule", "counts"] ["schedule", "counts"] (defScope sWeight) := ⟨rfl, rfl, rfl, by decide +kernel, rfl, by decide +kernel, by decide +kernel⟩
theorem ok_weight {f f1 f2 f3 f4 f5 : Addr} {fd fd1 fd2 fd3 fd4 fd5 : FuncData} (F : Fun K "weight" "weight" sWeight f fd) (G1 : Cal P w K mg base 3 "require_schedule" f1 fd1 ["schedule"] spReqSched) (G2 : Cal P w K mg base 4 "require_counts" f2 fd2 ["counts"] spReqCounts)
    (G3 : Cal P w K mg base 2 "lowest_terms" f3 fd3 ["numerator", "denominator"] spLowest) (G4 : Cal P w K mg base 2 "scaled_weight" f4 fd4 ["schedule", "counts"] spScaled) (G5 : Cal P w K mg base 1 "products" f5 fd5 ["schedule"] spProducts) : FnOk P w K mg base CX0 5 f fd ["schedule", "counts"] spWeight := by
  refine F.ok scWeight (fun vs H Q E h => ?_) (fun cdv A outer s H vs Q E hr h => ?_)
  · obtain ⟨a, p, E, cs, rfl, _⟩ := h
    rfl
  · obtain ⟨a, p, E, cs, rfl, hE, hC, he, hlen, hc, hcl, q⟩ := h
    refine ⟨_, pss_cons (ps_expr (pc G1 (hr.mono (by decide)) (p1 (pv 0)))) (pss_cons (ps_expr (pc G2 hr (p1 (pv 1))))
      (pss_one (ps_ret (pc G3 (hr.mono (by decide)) (p2 (pc G4 (hr.mono (by decide)) (p2 (pv 0) (pv 1))) (pe_ix ix_list (pc G5 (hr.mono (by decide)) (p1 (pv 0))) (pe_un un_neg pe_int) (fun _ _ => rfl))))))), ?_⟩
    refine ⟨_, rfl, a, E, rfl, hE, by omega, fun e h => (he e h).1, fun H1 s1 => ?_⟩
    refine ⟨_, rfl, p, cs, rfl, s1 _ _ hC, hcl, fun x h => (hc x h).1, fun H2 s2 => ?_⟩
    have s12 := s1.trans s2
    refine ⟨_, rfl, _, rfl, a, p, E, cs, rfl, s12 _ _ hE, .of (s12 _ _ hC), he, hlen, hc, by omega, fun H3 s3 => ?_⟩
    have s13 := s12.trans s3
    refine ⟨_, rfl, a, E, rfl, s13 _ _ hE, he, hlen, fun o H4 s4 ho e4 => ?_⟩
    have s14 := s13.trans s4
    refine ⟨1, rfl, o, _, -1, _, rfl, rfl, li_seq e4, prods_end E, ?_⟩
    refine ⟨_, _, rfl, Wf_nonneg he fun k => (hc.gd k).1, pr_pos he, (pr_lt he hlen).mono (by decide), fun g t H5 hg g1 g2 ht eH => ?_⟩
    subst eH
    exact q g t _ hg g1 g2 (s14.trans (same_new ht)) upd_same
end
end Sc

/-! positions.py: require_split -/
namespace Sc
open L2 PyProof.Rows PySem PySem.Spec
/-- a schedule, counts and a split of them -/
structure Spl (E cs : List Int) (rows : List (List Int)) : Prop where
  ent : Ent E
  ne : E ≠ []
  len : E.length ≤ 20
  g : E[0]? = some (rows.length : Int)
  rl : rows.length ≤ 1000
  cl : cs.length ≤ 200
  rlen : ∀ r ∈ rows, r.length = cs.length
  cnt : ∀ r ∈ rows, Cnt r
  cc : ∀ x ∈ cs, 0 ≤ x
  col : cols rows cs.length = cs
section
variable {base : Heap} {mg : Str → Option Value} {K : PySem.W.Frag} {w : World} {P : Program}
/-- the three arguments -/
def Args3 (K : PySem.W.Frag) (vs : List V) (H : Hp) (E cs : List Int) (rows : List (List Int)) : Prop := ∃ a p r : Addr, vs = [.ref a, .ref p, .ref r] ∧ LI H a E ∧ TI H p cs ∧ TL H r rows ∧ Spl E cs rows
def spReqSplit (K : PySem.W.Frag) : Sp := fun vs H Q _ => ∃ (E cs : List Int) (rows : List (List Int)), Args3 K vs H E cs rows ∧ ∀ H', Same H H' → Q .non H'
def cpOuter : Expr := ifLeft (stAt sReqSplit 5)
theorem scReqSplit : FnScope ["schedule", "counts", "split", "index", "group"] ["schedule", "counts", "split"] (defScope sReqSplit) := ⟨rfl, rfl, rfl, by decide +kernel, rfl, by decide +kernel, by decide +kernel⟩
theorem ok_reqSplit {f f1 f2 f3 f4 : Addr} {fd fd1 fd2 fd3 fd4 : FuncData} (F : Fun K "require_split" "require_split" sReqSplit f fd) (B : Blt mg) (G1 : Cal P w K mg base 4 "require_rounds" f1 fd1 ["schedule"] spReqRounds) (G2 : Cal P w K mg base 4 "require_counts" f2 fd2 ["counts"] spReqCounts)
    (G3 : Cal P w K mg base 1 "require_small_round" f3 fd3 ["schedule"] spReqSmall) (G4 : Cal P w K mg base 3 "is_group" f4 fd4 ["value", "length"] spIsGroup) : FnOk P w K mg base CX0 5 f fd ["schedule", "counts", "split"] (spReqSplit K) := by
  refine F.ok scReqSplit (fun vs H Q E h => ?_) (fun cdv A outer s H vs Q E hr h => ?_)
  · obtain ⟨E, cs, rows, ⟨a, p, r, rfl, _⟩, _⟩ := h
    rfl
  · obtain ⟨E, cs, rows, ⟨a, p, r, rfl, hE, hC, hR, S⟩, q⟩ := h
    refine ⟨_, pss_cons (ps_expr (pc G1 hr (p1 (pv 0)))) (pss_cons (ps_expr (pc G2 hr (p1 (pv 1)))) (pss_cons (ps_expr (pc G3 (hr.mono (by decide)) (p1 (pv 0))))
      (pss_cons (ps_if (PW.pt (pw_or (pt_not (pt_val (pb call_isi B.isi (p2 (pv 2) (pty (T := "list") B.list))))) (pw_or1 (pt_cmpR op_ne (pb call_len_seq B.len (p1 (pv 2))) (pe_ix ix_list (pv 0) pe_int (fun _ _ => rfl)) (nomark _))))) (pss_one ps_never) pss_nil)
      (pss_cons (ps_for PassesOwn.never rfl (pi_enumX true (by rfl) B.enum (p1 (pv 2))) (pg_tup rfl (pgs_cons (pg_name (i := 3) scReqSplit.nd rfl (.inl rfl)) (pgs_cons (pg_name (i := 4) scReqSplit.nd rfl (.inl rfl)) pgs_nil)))
        (pss_one (ps_if (pt_not (pt_val (pc G4 (hr.mono (by decide)) (p2 (pv 4) (pb call_len_seq B.len (p1 (pv 1))))))) (pss_one ps_never) pss_nil)))
      (pss_one (ps_if (pt_cmpR (op_neD hr.units) (pe_lc (own := [("index", 3)]) (g := gName 3) rfl scReqSplit.nd (pi_range1 (by rfl) B.range (p1 (pb call_len_seq B.len (p1 (pv 1)))))
            (blkOk_by (own := [("index", 3)]) (N := ["schedule", "counts", "split", "index", "group"]) (sc := defScope sReqSplit) (by decide +kernel)) (fun _ _ _ _ _ => pg_name (i := 3) scReqSplit.nd rfl (.inr rfl)) (fun _ _ _ _ _ => pts_nil)
            (fun _ _ _ _ _ => pb (r := rSum K) (cr_sum rfl) B.sum (p1 (pe_lc (own := [("group", 4)]) (g := gName 4) (wi := iList K (tVar 2)) rfl scReqSplit.nd (pi_list (pv 2))
              (show BlkOk ["schedule", "counts", "split", "index", "group"] (relS (lcS cpOuter) (defScope sReqSplit)) _ _ from blkOk_by (by decide +kernel)) (fun _ _ _ _ _ => pg_name (i := 4) scReqSplit.nd rfl (.inl rfl)) (fun _ _ _ _ _ => pts_nil)
              (fun _ _ _ _ _ => pe_ix (r := rIxT K) ix_tup (pv 4) (pv 3) (fun _ _ => rfl)))))) (pt' call_list_of B.list (p1 (pv 1))) (nomark _))
          (pss_one ps_never) pss_nil)))))), ?_⟩
    obtain ⟨as, hl, hT⟩ := hR
    obtain ⟨hlr, hTr⟩ := id hT
    -- the three checks
    refine ⟨_, rfl, a, E, rfl, hE, by have := S.len; omega, S.ne, fun e h => (S.ent e h).1, fun H1 s1 => ?_⟩
    refine ⟨_, rfl, p, cs, rfl, s1 _ _ hC, S.cl, S.cc, fun H2 s2 => ?_⟩
    have s12 := s1.trans s2
    refine ⟨_, rfl, a, E, _, rfl, s12 _ _ hE, S.g, (by have := S.rl; omega), ?_⟩
    -- isinstance(split, list), its length
    refine ⟨_, rfl, .ref r, .ty "list", .type "list", .type "list", true, rfl, .ty _, .base (.lst (s12 _ _ hl)), kit_ty (by decide +kernel), true, rfl, iteF ?_⟩
    refine ⟨_, rfl, r, as.map V.ref, rfl, .inl (SqL.of (s12 _ _ hl)), _, rfl, a, E.map V.int, 0, _, rfl, rfl, li_seq (s12 _ _ hE), at_of (j := 0) rfl (at_int S.g), rfl, _, rfl, ?_⟩
    have e1 : (!decide (V.int ((as.map V.ref).length : Nat) = V.int (rows.length : Nat))) = false := by
      rw [List.length_map, hlr]
      simp
    rw [e1]
    refine iteF ?_
    -- each group
    refine ⟨_, rfl, r, as.map V.ref, rfl, SqL.of (s12 _ _ hl), for_it walk_enumX (fun i σ H3 => Same H H3 ∧ ∃ y3 y4, σ = [some (.ref a), some (.ref p), some (.ref r), y3, y4]) ⟨s12, none, none, rfl⟩ (fun i σ H3 _ hp => SqL.of (hp.1 _ _ hl)) ?_ ?_⟩
    · rintro i x σ H3 H4 hi ⟨sm, y3, y4, rfl⟩ ⟨T, u, v, rfl, hTn, rfl, k1, k2⟩
      obtain ⟨b, hb, rfl⟩ := of_ref k2
      have hir : i < rows.length := by
        have := (List.getElem?_eq_some_iff.mp hb).1
        omega
      have hrow := hTr i b _ hb (List.getElem?_eq_getElem hir)
      have hm : rows[i] ∈ rows := List.getElem_mem hir
      have sT := sm.trans (same_new (o := .tup [u, .ref b]) hTn)
      refine ⟨T, [u, .ref b], rfl, SqT.of upd_same, rfl, u, [.ref b], rfl, .ref b, [], rfl, rfl, ?_⟩
      refine ⟨_, rfl, _, rfl, p, cs.map V.int, rfl, .inr (ti_seq (sT _ _ hC)), b, rows[i], _, rfl, hrow.same sT, ?_, ?_, fun x hx => (S.cnt _ hm x hx).1, fun H5 s5 => ?_⟩
      · rw [List.length_map, S.rlen _ hm]
      · rw [S.rlen _ hm]
        have := S.cl
        omega
      · exact ⟨true, rfl, iteF ⟨sT.trans s5, _, _, rfl⟩⟩
    · rintro σ H3 ⟨s3, y3, y4, rfl⟩
      -- the columns
      refine ⟨_, rfl, p, cs.map V.int, rfl, .inr (ti_seq (s3 _ _ hC)), _, rfl, ?_, ?_, fun D hD => ?_⟩
      · rw [List.length_map]
        omega
      · rw [List.length_map]
        have := S.cl
        omega
      refine lc_range (fun k H4 => Same H3 H4 ∧ LI H4 D ((List.range k).map (csum rows))) ⟨same_new hD, upd_same⟩ ?_ ?_
      · rintro k H4 hk ⟨s4, e4⟩
        rw [List.length_map] at hk
        have hkm : k < cs.length := by omega
        have hs34 := s3.trans s4
        refine ⟨rfl, _, rfl, r, rfl, ⟨_, SqL.of (hs34 _ _ hl)⟩, fun D2 hD2 => ?_⟩
        refine lc_list (K := K) (a := r) (xs := as.map V.ref) (fun i H5 => Same H4 H5 ∧ LI H5 D2 ((rows.take i).map fun r => gd r k)) ⟨same_new hD2, upd_same⟩ (fun i H5 _ hp => SqL.of (hp.1 _ _ (hs34 _ _ hl))) ?_ ?_
        · rintro i x H5 hx ⟨s5, e5⟩
          obtain ⟨b, hb, rfl⟩ := of_ref hx
          have hir : i < rows.length := by
            have := (List.getElem?_eq_some_iff.mp hb).1
            omega
          have hg := List.getElem?_eq_getElem hir
          have hrow := hTr i b _ hb hg
          have hm : rows[i] ∈ rows := List.getElem_mem hir
          refine ⟨rfl, _, rfl, _, rfl, b, rows[i].map V.int, _, .int (gd rows[i] k), rfl, rfl, ((hrow.same hs34).same s5).seq, at_of (j := k) (by omega) (at_int (get_gd (by rw [S.rlen _ hm]; exact hkm))), _, e5, ?_, ?_, ?_⟩
          · rw [List.length_map, List.length_map, List.length_take]
            have := S.rl
            exact small_line' (by omega)
          · intro b u hb
            rw [upd_ne (ne_of_none hb hD2)]
            exact s5 b u hb
          · show upd _ D2 _ D2 = _
            rw [upd_same, take_snoc hg, List.map_append, List.map_append]
            rfl
        · rintro H5 ⟨s5, e5⟩
          rw [List.length_map, hlr, List.take_length] at e5
          refine ⟨D2, _, rfl, li_seq e5, _, s5 _ _ e4, ?_, ?_, ?_⟩
          · rw [List.length_map, List.length_map, List.length_range]
            have := S.cl
            exact small_line' (by omega)
          · intro b u hb
            rw [upd_ne (ne_of_none hb hD)]
            exact s5 _ _ (s4 b u hb)
          · show upd _ D _ D = _
            rw [upd_same, List.range_succ, List.map_append, List.map_append]
            rfl
      · rintro H4 ⟨s4, e4⟩
        have em : ((cs.map V.int).length : Int).toNat = cs.length := by
          rw [List.length_map]
          omega
        rw [em] at e4
        have e4' : LI H4 D cs := by
          have := S.col
          unfold cols at this
          rw [this] at e4
          exact e4
        refine ⟨_, rfl, p, cs.map V.int, rfl, .inr (ti_seq (s4 _ _ (s3 _ _ hC))), fun l hln => ?_⟩
        have s5 := same_new (o := .lst (cs.map V.int)) hln
        refine ⟨.list (iD cs), .list (iD cs), dp_LI (s5 _ _ e4'), dp_LI upd_same, sh_L cs, sh_L cs, _, rfl, ?_⟩
        rw [eqv_self (sh_L cs)]
        exact iteF (q _ ((s3.trans s4).trans s5))
end
end Sc

/-! splits.py -/
namespace Sc
open L2 PyProof.Rows PySem PySem.Spec
theorem tl_push {H : Hp} {D t : Addr} {ts : List Addr} {rows : List (List Int)} {r : List Int} (hD : H D = some (.lst (ts.map V.ref))) (hT : TA H ts rows) (ht : TR H t r) : TL (upd H D (.lst (ts.map V.ref ++ [.ref t]))) D (rows ++ [r]) := by
  refine ⟨ts ++ [t], by rw [upd_same, List.map_append]; rfl, ?_⟩
  have nt : ∀ b (q : List Int), TR H b q → b ≠ D := fun b q e z => (z ▸ e).nl _ hD
  refine TA.snoc ⟨hT.1, fun j b q e1 e2 => ?_⟩ ?_
  · obtain ⟨o, k, e⟩ := hT.2 j b q e1 e2
    exact ⟨o, k, by rw [upd_ne (nt b q ⟨o, k, e⟩)]; exact e⟩
  · obtain ⟨o, k, e⟩ := ht
    exact ⟨o, k, by rw [upd_ne (nt t r ⟨o, k, e⟩)]; exact e⟩
theorem first_ix : ∀ {ns : List Int} {m : Int}, m ∈ ns → ∃ j : Nat, ns[j]? = some m ∧ ∀ k : Nat, k < j → ns[k]? ≠ some m
  | [], _, h => (nomatch h)
  | n :: ns, m, h => by
    by_cases e : n = m
    · exact ⟨0, by rw [e]; rfl, fun k hk => absurd hk (Nat.not_lt_zero k)⟩
    · have h' : m ∈ ns := by
        rcases (List.mem_cons.mp h) with z | z
        · exact absurd z.symm e
        · exact z
      obtain ⟨j, h1, h2⟩ := first_ix h'
      refine ⟨j + 1, h1, fun k hk => ?_⟩
      cases k with
      | zero => exact fun z => e (Option.some.inj z)
      | succ k => exact h2 k (by omega)
theorem eqV_int {a b : Int} : eqV (.int a) (.int b) = decide (a = b) := by
  first
    | rfl
    | (show (a == b) = _; exact Bool.beq_eq_decide_eq a b)
section
variable {base : Heap} {mg : Str → Option Value} {K : PySem.W.Frag} {w : World} {P : Program}
def spGWeights (K : PySem.W.Frag) : Sp := fun vs H Q _ => ∃ (a r : Addr) (E : List Int) (rows : List (List Int)), vs = [.ref a, .ref r] ∧ LI H a E ∧ TL H r rows ∧ Ent E ∧ E.length ≤ 20 ∧ rows.length ≤ 1000 ∧ (∀ r ∈ rows, Cnt r ∧ r.length ≤ 1000) ∧
  ∀ (p : Addr) (H' : Hp), Same H H' → H p = none → LI H' p (rows.map (WW E)) → Q (.ref p) H'
theorem scGWeights : FnScope ["schedule", "split", "group"] ["schedule", "split"] (defScope sGWeights) := ⟨rfl, rfl, rfl, by decide +kernel, rfl, by decide +kernel, by decide +kernel⟩
theorem ok_gWeights {f f1 : Addr} {fd fd1 : FuncData} (F : Fun K "group_weights" "group_weights" sGWeights f fd) (G1 : Cal P w K mg base 2 "scaled_weight" f1 fd1 ["schedule", "counts"] spScaled) : FnOk P w K mg base CX0 3 f fd ["schedule", "split"] (spGWeights K) := by
  refine F.ok scGWeights (fun vs H Q E h => ?_) (fun cdv A outer s H vs Q E hr h => ?_)
  · obtain ⟨a, r, E, rows, rfl, _⟩ := h
    rfl
  · obtain ⟨a, r, E, rows, rfl, hE, ⟨as, hl, hT⟩, he, hlen, hrl, hc, q⟩ := h
    obtain ⟨hlr, hTr⟩ := id hT
    refine ⟨_, pss_one (ps_ret (pe_lc (own := [("group", 2)]) (g := gName 2) rfl scGWeights.nd (pi_list (pv 1)) (blkOk_by (own := [("group", 2)]) (N := ["schedule", "split", "group"]) (sc := defScope sGWeights) (by decide +kernel))
      (fun _ _ _ _ _ => pg_name (i := 2) scGWeights.nd rfl (.inl rfl)) (fun _ _ _ _ _ => pts_nil) (fun _ _ _ _ _ => pc G1 hr (p2 (pv 0) (pv 2))))), ?_⟩
    refine ⟨_, rfl, r, rfl, ⟨_, SqL.of hl⟩, fun D hD => ?_⟩
    refine lc_list (K := K) (a := r) (xs := as.map V.ref) (fun i H1 => Same H H1 ∧ LI H1 D ((rows.take i).map (WW E))) ⟨same_new hD, upd_same⟩ (fun i H1 _ hp => SqL.of (hp.1 _ _ hl)) ?_ ?_
    · rintro i x H1 hx ⟨s1, e1⟩
      obtain ⟨b, hb, rfl⟩ := of_ref hx
      have hir : i < rows.length := by
        have := (List.getElem?_eq_some_iff.mp hb).1
        omega
      have hg := List.getElem?_eq_getElem hir
      have hm : rows[i] ∈ rows := List.getElem_mem hir
      refine ⟨rfl, _, rfl, _, rfl, a, b, E, rows[i], rfl, s1 _ _ hE, (hTr i b _ hb hg).same s1, he, hlen, (hc _ hm).1, (hc _ hm).2, fun H2 s2 => ?_⟩
      refine ⟨_, s2 _ _ e1, ?_, ?_, ?_⟩
      · rw [List.length_map, List.length_map, List.length_take]
        exact small_line' (by omega)
      · intro b u hb
        rw [upd_ne (ne_of_none hb hD)]
        exact s2 _ _ (s1 b u hb)
      · show upd _ D _ D = _
        rw [upd_same, take_snoc hg, List.map_append, List.map_append]
        rfl
    · rintro H1 ⟨s1, e1⟩
      rw [List.length_map, hlr, List.take_length] at e1
      exact q D H1 s1 hD e1
def spGValues (K : PySem.W.Frag) : Sp := fun vs H Q _ => ∃ (E cs : List Int) (rows : List (List Int)), Args3 K vs H E cs rows ∧ ∀ (p : Addr) (H' : Hp), Same H H' → H p = none → TL H' p (rows.map (val E)) → Q (.ref p) H'
theorem scGValues : FnScope ["schedule", "counts", "split", "rest", "part"] ["schedule", "counts", "split"] (defScope sGValues) := ⟨rfl, rfl, rfl, by decide +kernel, rfl, by decide +kernel, by decide +kernel⟩
theorem ok_gValues {f f1 f2 f3 f4 : Addr} {fd fd1 fd2 fd3 fd4 : FuncData} (F : Fun K "group_values" "group_values" sGValues f fd) (G1 : Cal P w K mg base 5 "require_split" f1 fd1 ["schedule", "counts", "split"] (spReqSplit K)) (G2 : Cal P w K mg base 1 "products" f2 fd2 ["schedule"] spProducts)
    (G3 : Cal P w K mg base 3 "group_weights" f3 fd3 ["schedule", "split"] (spGWeights K)) (G4 : Cal P w K mg base 1 "rounded_up" f4 fd4 ["numerator", "denominator"] spRup) : FnOk P w K mg base CX0 6 f fd ["schedule", "counts", "split"] (spGValues K) := by
  refine F.ok scGValues (fun vs H Q E h => ?_) (fun cdv A outer s H vs Q E hr h => ?_)
  · obtain ⟨E, cs, rows, ⟨a, p, r, rfl, _⟩, _⟩ := h
    rfl
  · obtain ⟨E, cs, rows, ⟨a, p, r, rfl, hE, hC, hR, S⟩, q⟩ := h
    refine ⟨_, pss_cons (ps_expr (pc G1 hr (p3 (pv 0) (pv 1) (pv 2))))
      (pss_cons (ps_set (i := 3) scGValues.nd rfl (.inr rfl) (pe_op op_fdivW (pe_ix ix_list (pc G2 (hr.mono (by decide)) (p1 (pv 0))) (pe_un un_neg pe_int) (fun _ _ => rfl)) (pe_ix ix_list (pv 0) pe_int (fun _ _ => rfl))))
      (pss_one (ps_ret (pe_lc (own := [("part", 4)]) (g := gName 4) rfl scGValues.nd (pi_list (pc G3 (hr.mono (by decide)) (p2 (pv 0) (pv 2)))) (blkOk_by (own := [("part", 4)]) (N := ["schedule", "counts", "split", "rest", "part"]) (sc := defScope sGValues) (by decide +kernel))
        (fun _ _ _ _ _ => pg_name (i := 4) scGValues.nd rfl (.inl rfl)) (fun _ _ _ _ _ => pts_nil) (fun _ _ _ _ _ => pe_tup (p2 (pe_op op_fdivW (pv 4) (pv 3)) (pc G4 (hr.mono (by decide)) (p2 (pv 4) (pv 3))))))))), ?_⟩
    have hg0 : 0 < (rows.length : Int) := by
      have := (S.ent _ (List.mem_of_getElem? S.g)).1
      omega
    refine ⟨_, rfl, _, rfl, _, rfl, E, cs, rows, ⟨a, p, r, rfl, hE, hC, hR, S⟩, fun H1 s1 => ?_⟩
    refine ⟨_, rfl, a, E, rfl, s1 _ _ hE, S.ent, S.len, fun o H2 s2 ho e2 => ?_⟩
    have s12 := s1.trans s2
    refine ⟨1, rfl, o, _, -1, _, rfl, rfl, li_seq e2, prods_end E, _, rfl, a, E.map V.int, 0, _, rfl, rfl, li_seq (s12 _ _ hE), at_of (j := 0) rfl (at_int S.g), _, _, rfl, rfl, cdiv hg0 (S.ent.lt2 (List.mem_of_getElem? S.g)), ?_⟩
    have ed : pr E / (rows.length : Int) = pr (E.drop 1) := by
      have h := pr_drop (i := 0) S.g
      rw [List.drop_zero] at h
      rw [h]
      exact Int.mul_ediv_cancel_left _ (Int.ne_of_gt hg0)
    have hp0 : 0 < pr (E.drop 1) := pr_pos (S.ent.drop 1)
    have hpl : Lt2 2000 (pr (E.drop 1)) := (drop_lt2 S.ent S.len 1).mono (by decide)
    dsimp only
    rw [ed]
    refine ⟨_, rfl, _, rfl, a, r, E, rows, rfl, s12 _ _ hE, hR.same s12, S.ent, S.len, S.rl, fun x hx => ⟨S.cnt x hx, by rw [S.rlen x hx]; have := S.cl; omega⟩, fun wv H3 s3 hw e3 => ?_⟩
    have s13 := s12.trans s3
    refine ⟨wv, rfl, ⟨_, li_seq e3⟩, fun D hD => ?_⟩
    have hDw : ∀ xs, (upd H3 D (.lst [])) D = some (.lst xs) → xs = [] := fun xs e => by
      rw [upd_same] at e
      cases e
      rfl
    refine lc_list (K := K) (a := wv) (xs := (rows.map (WW E)).map V.int) (fun i H4 => Same H3 H4 ∧ TL H4 D ((rows.take i).map (val E))) ⟨same_new hD, ⟨[], upd_same, TA.nil⟩⟩ (fun i H4 _ hp => li_seq (hp.1 _ _ e3)) ?_ ?_
    · rintro i x H4 hx ⟨s4, ts, e4, t4⟩
      obtain ⟨z, hz, rfl⟩ := of_int hx
      rw [List.getElem?_map] at hz
      have hir : i < rows.length := by
        cases e : rows[i]? with
        | none =>
          rw [e] at hz
          cases hz
        | some _ => exact (List.getElem?_eq_some_iff.mp e).1
      have hg := List.getElem?_eq_getElem hir
      rw [hg] at hz
      have ez : WW E rows[i] = z := Option.some.inj hz
      subst ez
      refine ⟨rfl, _, rfl, _, rfl, _, _, rfl, rfl, cdiv hp0 hpl, _, rfl, _, rfl, _, _, rfl, hp0, hpl, (by show 2 ≤ sizeLine; decide), fun t ht => ?_⟩
      have s5 := same_new (o := .tup [.int (WW E rows[i] / pr (E.drop 1)), .int (-((-WW E rows[i]) / pr (E.drop 1)))]) ht
      refine ⟨_, s5 _ _ e4, ?_, ?_, ?_⟩
      · rw [List.length_map, t4.1, List.length_map, List.length_take]
        have := S.rl
        exact small_line' (by omega)
      · intro b u hb
        rw [upd_ne (ne_of_none hb hD)]
        exact s5 _ _ (s4 b u hb)
      · rw [take_snoc hg, List.map_append]
        exact tl_push (s5 _ _ e4) (t4.same s5) (r := val E rows[i]) (.of upd_same)
    · rintro H4 ⟨s4, e4⟩
      rw [List.length_map, List.length_map, List.take_length] at e4
      have hDn : H D = none := (s13.free hD)
      exact q D H4 (s13.trans s4) hDn e4
/-- the place of the least (of the greatest) weight -/
def spPick (K : PySem.W.Frag) (le : Int → Int → Prop) : Sp := fun vs H Q _ => ∃ (E cs : List Int) (rows : List (List Int)), Args3 K vs H E cs rows ∧ ∀ (j : Nat) (x : Int) (H' : Hp), Same H H' → (rows.map (WW E))[j]? = some x → (∀ y ∈ rows.map (WW E), le x y) → Q (.int (j : Nat)) H'
theorem pick_ix {K : PySem.W.Frag} {H : Hp} {o : Addr} {ns : List Int} {m : Int} {Q : VK} (e : LI H o ns) (hm : m ∈ ns) (q : ∀ j : Nat, ns[j]? = some m → Q (.int (j : Nat)) H) : rIndex K (.ref o) [.int m] H Q := by
  obtain ⟨j, h1, h2⟩ := first_ix hm
  refine ⟨o, ns.map V.int, .int m, j, .int m, rfl, rfl, li_seq e, rfl, flat_ints ns, at_int h1, by rw [eqV_int]; exact decide_eq_true rfl, fun k z' hk hz => ?_, q j h1⟩
  obtain ⟨z, hz1, rfl⟩ := of_int hz
  rw [eqV_int]
  exact decide_eq_false fun ez => h2 k hk (by rw [← ez]; exact hz1)
theorem scLightest : FnScope ["schedule", "counts", "split", "weights"] ["schedule", "counts", "split"] (defScope sLightest) := ⟨rfl, rfl, rfl, by decide +kernel, rfl, by decide +kernel, by decide +kernel⟩
theorem scHeaviest : FnScope ["schedule", "counts", "split", "weights"] ["schedule", "counts", "split"] (defScope sHeaviest) := ⟨rfl, rfl, rfl, by decide +kernel, rfl, by decide +kernel, by decide +kernel⟩
theorem Spl.pos {E cs : List Int} {rows : List (List Int)} (S : Spl E cs rows) : 2 ≤ rows.length := by
  have := (S.ent _ (List.mem_of_getElem? S.g)).1
  omega
theorem ok_lightest {f f1 f3 : Addr} {fd fd1 fd3 : FuncData} (F : Fun K "lightest_group" "lightest_group" sLightest f fd) (B : Blt mg) (G1 : Cal P w K mg base 5 "require_split" f1 fd1 ["schedule", "counts", "split"] (spReqSplit K))
    (G3 : Cal P w K mg base 3 "group_weights" f3 fd3 ["schedule", "split"] (spGWeights K)) : FnOk P w K mg base CX0 6 f fd ["schedule", "counts", "split"] (spPick K (· ≤ ·)) := by
  refine F.ok scLightest (fun vs H Q E h => ?_) (fun cdv A outer s H vs Q E hr h => ?_)
  · obtain ⟨E, cs, rows, ⟨a, p, r, rfl, _⟩, _⟩ := h
    rfl
  · obtain ⟨E, cs, rows, ⟨a, p, r, rfl, hE, hC, hR, S⟩, q⟩ := h
    refine ⟨_, pss_cons (ps_expr (pc G1 hr (p3 (pv 0) (pv 1) (pv 2)))) (pss_cons (ps_set (i := 3) scLightest.nd rfl (.inl rfl) (pc G3 (hr.mono (by decide)) (p2 (pv 0) (pv 2))))
      (pss_one (ps_ret (pe_bm PySem.F.plainAttrs_list PySem.F.slot_list_index PySem.F.type_list_index mt_index (pv 3) (p1 (pb (cr_min rfl) B.min (p1 (pv 3)))))))), ?_⟩
    refine ⟨_, rfl, _, rfl, _, rfl, E, cs, rows, ⟨a, p, r, rfl, hE, hC, hR, S⟩, fun H1 s1 => ?_⟩
    refine ⟨_, rfl, _, rfl, a, r, E, rows, rfl, s1 _ _ hE, hR.same s1, S.ent, S.len, S.rl, fun x hx => ⟨S.cnt x hx, by rw [S.rlen x hx]; have := S.cl; omega⟩, fun o H2 s2 ho e2 => ?_⟩
    refine ⟨_, rfl, .inl ⟨rfl, _, li_seq e2⟩, _, rfl, o, rows.map (WW E), rfl, li_seq e2, (by rw [List.length_map]; have := S.pos; omega), fun m hm hle => ?_⟩
    exact pick_ix e2 hm fun j hj => q j m H2 (s1.trans s2) hj hle
theorem ok_heaviest {f f1 f3 : Addr} {fd fd1 fd3 : FuncData} (F : Fun K "heaviest_group" "heaviest_group" sHeaviest f fd) (B : Blt mg) (G1 : Cal P w K mg base 5 "require_split" f1 fd1 ["schedule", "counts", "split"] (spReqSplit K))
    (G3 : Cal P w K mg base 3 "group_weights" f3 fd3 ["schedule", "split"] (spGWeights K)) : FnOk P w K mg base CX0 6 f fd ["schedule", "counts", "split"] (spPick K (· ≥ ·)) := by
  refine F.ok scHeaviest (fun vs H Q E h => ?_) (fun cdv A outer s H vs Q E hr h => ?_)
  · obtain ⟨E, cs, rows, ⟨a, p, r, rfl, _⟩, _⟩ := h
    rfl
  · obtain ⟨E, cs, rows, ⟨a, p, r, rfl, hE, hC, hR, S⟩, q⟩ := h
    refine ⟨_, pss_cons (ps_expr (pc G1 hr (p3 (pv 0) (pv 1) (pv 2)))) (pss_cons (ps_set (i := 3) scHeaviest.nd rfl (.inl rfl) (pc G3 (hr.mono (by decide)) (p2 (pv 0) (pv 2))))
      (pss_one (ps_ret (pe_bm PySem.F.plainAttrs_list PySem.F.slot_list_index PySem.F.type_list_index mt_index (pv 3) (p1 (pb (cr_max rfl) B.max (p1 (pv 3)))))))), ?_⟩
    refine ⟨_, rfl, _, rfl, _, rfl, E, cs, rows, ⟨a, p, r, rfl, hE, hC, hR, S⟩, fun H1 s1 => ?_⟩
    refine ⟨_, rfl, _, rfl, a, r, E, rows, rfl, s1 _ _ hE, hR.same s1, S.ent, S.len, S.rl, fun x hx => ⟨S.cnt x hx, by rw [S.rlen x hx]; have := S.cl; omega⟩, fun o H2 s2 ho e2 => ?_⟩
    refine ⟨_, rfl, .inl ⟨rfl, _, li_seq e2⟩, _, rfl, o, rows.map (WW E), rfl, li_seq e2, (by rw [List.length_map]; have := S.pos; omega), fun m hm hle => ?_⟩
    exact pick_ix e2 hm fun j hj => q j m H2 (s1.trans s2) hj hle
end
end Sc

/-! the law's draws -/
namespace Sc
open L2 PyProof.Rows PySem PySem.Spec
theorem But.mut {a o : Addr} {H H1 : Hp} {x : HO} (h : But a H H1) (ho : H o = none) : But a H (upd H1 o x) := fun b u e n => by
  rw [upd_ne (ne_of_none e ho)]
  exact h b u e n
theorem But.new {a o : Addr} {H H1 : Hp} {x : HO} (h : But a H H1) (ho : H1 o = none) : But a H (upd H1 o x) := h.trans (.of (same_new ho))
theorem But.thn {a : Addr} {H H1 H2 : Hp} (h : But a H H1) (s : Same H1 H2) : But a H H2 := h.trans (.of s)
theorem src_some {H : Hp} {a : Addr} (h : Src H a) : ∃ o, H a = some o := by
  obtain ⟨c, c0, d, e⟩ := h
  exact ⟨_, e⟩
theorem Src.ne {H : Hp} {a p : Addr} (h : Src H a) (hp : H p = none) : p ≠ a := fun e => by
  obtain ⟨o, ho⟩ := src_some h
  rw [← e, hp] at ho
  cases ho
theorem Src.set {H : Hp} {a p : Addr} {x : HO} (h : Src H a) (n : p ≠ a) : Src (upd H p x) a := by
  obtain ⟨c, c0, d, e⟩ := h
  exact ⟨c, c0, d, by rw [upd_ne n.symm]; exact e⟩
theorem Src.nt {H : Hp} {a : Addr} (h : Src H a) (xs : List V) : H a ≠ some (.tup xs) := fun e => by
  obtain ⟨c, c0, d, e'⟩ := h
  rw [e'] at e
  cases e
theorem But.at_ {a b : Addr} {H H1 : Hp} {u : HO} (h : But a H H1) (e : H b = some u) (n : b ≠ a) : H1 b = some u := h b u e n
section
variable {base : Heap} {mg : Str → Option Value} {K : PySem.W.Frag} {w : World} {P : Program}
def spMixed : Sp := fun vs H Q _ => ∃ c d : Int, vs = [.int c, .int d] ∧ ∀ r : Int, Q (.int r) H
theorem scMixed : FnScope ["_law_cell", "_law_draw", "_law_number"] ["_law_cell", "_law_draw"] (defScope sMixed) := ⟨rfl, rfl, rfl, by decide +kernel, rfl, by decide +kernel, by decide +kernel⟩
theorem ok_mixed {f : Addr} {fd : FuncData} (F : Fun K "_law_mixed" "_law_mixed" sMixed f fd) : FnOk P w K mg base CX0 1 f fd ["_law_cell", "_law_draw"] spMixed := by
  refine F.ok scMixed (fun vs H Q E h => ?_) (fun cdv A outer s H vs Q E hr h => ?_)
  · obtain ⟨c, d, rfl, _⟩ := h
    rfl
  · obtain ⟨c, d, rfl, q⟩ := h
    refine ⟨_, pss_cons (ps_set (i := 2) scMixed.nd rfl (.inl rfl) (pe_op op_mod (pe_op op_mul (pe_op op_add (pe_op op_mod (pv 0) pe_int) pe_int) (pe_op op_add (pe_op op_mul (pv 1) pe_int) pe_int)) pe_int))
      (pss_cons (ps_set (i := 2) scMixed.nd rfl (.inl rfl) (pe_op op_mod (pe_op op_mul (pe_op op_add (pv 2) (pe_op op_mul (pe_op op_mod (pe_op op_fdivW (pv 0) pe_int) pe_int) (pe_op op_add (pv 1) pe_int))) pe_int) pe_int))
      (pss_cons (ps_set (i := 2) scMixed.nd rfl (.inl rfl) (pe_op op_mod (pe_op op_mul (pv 2) (pe_op op_add (pe_op op_add (pe_op op_fdiv (pv 2) pe_int) pe_int) (pv 1))) pe_int))
      (pss_one (ps_ret (pe_op op_mod (pe_op op_mul (pv 2) (pe_op op_add (pe_op op_fdiv (pv 2) pe_int) pe_int)) pe_int))))), ?_⟩
    refine ⟨_, rfl, _, _, rfl, rfl, (by show (0 : Int) < 2147483646; decide), _, _, rfl, rfl, _, rfl, _, _, rfl, rfl, .inr (by decide), _, _, rfl, rfl, _, _, rfl, rfl, .inl ?_, _, _, rfl, rfl, (by show (0 : Int) < 2147483647; decide), ?_⟩
    · have h1 := Int.emod_nonneg c (show (2147483646 : Int) ≠ 0 by decide)
      have h2 := Int.emod_lt_of_pos c (show (0 : Int) < 2147483646 by decide)
      constructor
      · show -(2 ^ 64) < c % 2147483646 + 1
        omega
      · show c % 2147483646 + 1 < 2 ^ 64
        omega
    dsimp only
    generalize (c % 2147483646 + 1) * (d * 7919 + 104729) % 2147483647 = n1
    refine ⟨_, rfl, _, rfl, _, _, rfl, rfl, cdiv (b := 32) (by decide) (by unfold Lt2; decide), _, _, rfl, rfl, (by show (0 : Int) < 1000003; decide), _, rfl, _, _, rfl, rfl, _, _, rfl, rfl, .inl ?_, _, _, rfl, rfl, _, _, rfl, rfl, .inr (by decide), _, _, rfl, rfl, (by show (0 : Int) < 2147483629; decide), ?_⟩
    · have h1 := Int.emod_nonneg (c / 2147483646) (show (1000003 : Int) ≠ 0 by decide)
      have h2 := Int.emod_lt_of_pos (c / 2147483646) (show (0 : Int) < 1000003 by decide)
      constructor
      · show -(2 ^ 64) < c / 2147483646 % 1000003
        omega
      · show c / 2147483646 % 1000003 < 2 ^ 64
        omega
    dsimp only
    have h3 := Int.emod_nonneg ((n1 + c / 2147483646 % 1000003 * (d + 31)) * 48271) (show (2147483629 : Int) ≠ 0 by decide)
    have h4 := Int.emod_lt_of_pos ((n1 + c / 2147483646 % 1000003 * (d + 31)) * 48271) (show (0 : Int) < 2147483629 by decide)
    generalize (n1 + c / 2147483646 % 1000003 * (d + 31)) * 48271 % 2147483629 = n2 at h3 h4 ⊢
    refine ⟨_, rfl, _, rfl, _, _, rfl, rfl, ⟨by decide, by decide⟩, _, _, rfl, rfl, _, rfl, _, _, rfl, rfl, _, _, rfl, rfl, .inl ⟨(by omega), (by omega)⟩, _, _, rfl, rfl, (by show (0 : Int) < 2147483587; decide), ?_⟩
    dsimp only
    have h5 := Int.emod_nonneg (n2 * (n2 / 1013 + 69621 + d)) (show (2147483587 : Int) ≠ 0 by decide)
    have h6 := Int.emod_lt_of_pos (n2 * (n2 / 1013 + 69621 + d)) (show (0 : Int) < 2147483587 by decide)
    generalize n2 * (n2 / 1013 + 69621 + d) % 2147483587 = n3 at h5 h6 ⊢
    refine ⟨_, rfl, _, rfl, _, _, rfl, rfl, ⟨by decide, by decide⟩, _, _, rfl, rfl, _, _, rfl, rfl, .inl ⟨(by omega), (by omega)⟩, _, _, rfl, rfl, (by show (0 : Int) < 2147483563; decide), ?_⟩
    exact q _
def spSource : Sp := fun vs H Q _ => ∃ c : Int, vs = [.int c] ∧ ∀ p, H p = none → Q (.ref p) (upd H p (.lst [.int c, .int c, .int 0]))
theorem scSource : FnScope ["_law_cell"] ["_law_cell"] (defScope sSource) := ⟨rfl, rfl, rfl, by decide +kernel, rfl, by decide +kernel, by decide +kernel⟩
theorem ok_source {f : Addr} {fd : FuncData} (F : Fun K "_law_source" "_law_source" sSource f fd) : FnOk P w K mg base CX0 1 f fd ["_law_cell"] spSource := by
  refine F.ok scSource (fun vs H Q E h => ?_) (fun cdv A outer s H vs Q E hr h => ?_)
  · obtain ⟨c, rfl, _⟩ := h
    rfl
  · obtain ⟨c, rfl, q⟩ := h
    refine ⟨_, pss_one (ps_ret (pe_lst (p3 (pv 0) (pv 0) pe_int))), ?_⟩
    exact ⟨_, rfl, _, rfl, (by show 3 ≤ sizeLine; decide), fun p hp => q p hp⟩
def spTake : Sp := fun vs H Q _ => ∃ (a : Addr) (n : Int), vs = [.ref a, .int n] ∧ Src H a ∧ 1 ≤ n ∧ Lt2 2000 n ∧ ∀ (r : Int) (H' : Hp), 0 ≤ r → r < n → But a H H' → Src H' a → Q (.int r) H'
theorem scTake : FnScope ["_law_source_here", "_law_count", "_law_drawn"] ["_law_source_here", "_law_count"] (defScope sTake) := ⟨rfl, rfl, rfl, by decide +kernel, rfl, by decide +kernel, by decide +kernel⟩
theorem ok_take {f f1 : Addr} {fd fd1 : FuncData} (F : Fun K "_law_take" "_law_take" sTake f fd) (G1 : Cal P w K mg base 1 "_law_mixed" f1 fd1 ["_law_cell", "_law_draw"] spMixed) : FnOk P w K mg base CX0 2 f fd ["_law_source_here", "_law_count"] spTake := by
  refine F.ok scTake (fun vs H Q E h => ?_) (fun cdv A outer s H vs Q E hr h => ?_)
  · obtain ⟨a, n, rfl, _⟩ := h
    rfl
  · obtain ⟨a, n, rfl, ⟨c, c0, d, ha⟩, hn, hl, q⟩ := h
    refine ⟨_, pss_cons (ps_if (pt_cmpR op_ge (pe_ix ix_list (pv 0) pe_int (fun _ _ => rfl)) (pe_op op_pow pe_int pe_int) (nomark _))
        (pss_cons (ps_set (i := 2) scTake.nd rfl (.inl rfl) (pe_op op_mod (pe_ix ix_list (pv 0) pe_int (fun _ _ => rfl)) (pv 1)))
          (pss_cons (ps_asg (pe_op op_fdivW (pe_ix ix_list (pv 0) pe_int (fun _ _ => rfl)) (pv 1)) (pg_sub (pv 0) pe_int set_list)) (pss_one (ps_ret (pv 2))))) pss_nil)
      (pss_cons (ps_asg (pe_op op_add (pe_ix ix_list (pv 0) pe_int (fun _ _ => rfl)) pe_int) (pg_sub (pv 0) pe_int set_list))
      (pss_one (ps_ret (pe_op op_mod (pc G1 hr (p2 (pe_ix ix_list (pv 0) pe_int (fun _ _ => rfl)) (pe_ix ix_list (pv 0) pe_int (fun _ _ => rfl)))) (pv 1))))), ?_⟩
    have hs : SqL K H a [.int c, .int c0, .int d] := SqL.of ha
    refine ⟨_, rfl, a, _, 0, _, rfl, rfl, hs, at_of (j := 0) rfl rfl, 10, 18, rfl, rfl, ⟨by decide, by decide, by decide⟩, _, _, rfl, rfl, _, rfl, ite2 (fun _ => ?_) (fun _ => ?_)⟩
    · refine ⟨_, rfl, a, _, 0, _, rfl, rfl, hs, at_of (j := 0) rfl rfl, _, rfl, _, _, rfl, rfl, (by show 0 < n; omega), ?_⟩
      refine ⟨_, rfl, a, _, 0, _, rfl, rfl, hs, at_of (j := 0) rfl rfl, _, rfl, _, _, rfl, rfl, cdiv (by omega) hl, _, rfl, a, _, 0, 0, rfl, rfl, ha, rfl, ?_⟩
      refine ⟨_, rfl, q (c % n) _ (Int.emod_nonneg _ (by omega)) (Int.emod_lt_of_pos _ (by omega)) but_upd ⟨c / n, c0, d, upd_same⟩⟩
    · refine ⟨_, rfl, a, _, 2, _, rfl, rfl, hs, at_of (j := 2) rfl rfl, _, _, rfl, rfl, _, rfl, a, _, 2, 2, rfl, rfl, ha, rfl, ?_⟩
      have h2 : SqL K (upd H a (.lst [.int c, .int c0, .int (d + 1)])) a [.int c, .int c0, .int (d + 1)] := SqL.of upd_same
      refine ⟨_, rfl, a, _, 1, _, rfl, rfl, h2, at_of (j := 1) rfl rfl, _, rfl, a, _, 2, _, rfl, rfl, h2, at_of (j := 2) rfl rfl, c0, d + 1, rfl, fun r => ?_⟩
      exact ⟨_, rfl, _, _, rfl, rfl, (by show 0 < n; omega), q (r % n) _ (Int.emod_nonneg _ (by omega)) (Int.emod_lt_of_pos _ (by omega)) but_upd ⟨c, c0, d + 1, upd_same⟩⟩
def spBig : Sp := fun vs H Q _ => ∃ a : Addr, vs = [.ref a] ∧ Src H a ∧ ∀ (r : Int) (H' : Hp), 0 ≤ r → r < 2 ^ 120 → But a H H' → Src H' a → Q (.int r) H'
theorem scBig : FnScope ["_law_source_here", "_law_found", "_law_k"] ["_law_source_here"] (defScope sBig) := ⟨rfl, rfl, rfl, by decide +kernel, rfl, by decide +kernel, by decide +kernel⟩
theorem ok_big {f f1 : Addr} {fd fd1 : FuncData} (F : Fun K "_law_big" "_law_big" sBig f fd) (B : Blt mg) (G1 : Cal P w K mg base 2 "_law_take" f1 fd1 ["_law_source_here", "_law_count"] spTake) : FnOk P w K mg base CX0 3 f fd ["_law_source_here"] spBig := by
  refine F.ok scBig (fun vs H Q E h => ?_) (fun cdv A outer s H vs Q E hr h => ?_)
  · obtain ⟨a, rfl, _⟩ := h
    rfl
  · obtain ⟨a, rfl, ha, q⟩ := h
    refine ⟨_, pss_cons (ps_set (i := 1) scBig.nd rfl (.inl rfl) pe_int)
      (pss_cons (ps_for PassesOwn.never rfl (pi_range1 (by rfl) B.range (p1 pe_int)) (pg_name (i := 2) scBig.nd rfl (.inl rfl))
        (pss_one (ps_set (i := 1) scBig.nd rfl (.inl rfl) (pe_op op_add (pe_op op_mul (pv 1) (pe_op op_pow pe_int pe_int)) (pc G1 hr (p2 (pv 0) (pe_op op_pow pe_int pe_int))))))) (pss_one (ps_ret (pv 1)))), ?_⟩
    have e9 : (10 : Int) ^ (9 : Int).toNat = 1000000000 := by decide
    refine ⟨4, rfl, by decide, by decide, for_range (n := 4) (fun i σ H1 => But a H H1 ∧ Src H1 a ∧ ∃ (x : Int) (y : Option V), σ = [some (.ref a), some (.int x), y] ∧ 0 ≤ x ∧ x + 1 ≤ (2 : Int) ^ (30 * i)) ⟨But.refl a H, ha, 0, none, rfl, by decide, by decide⟩ ?_ ?_⟩
    · rintro i σ H1 hi ⟨b1, h1, x, y, rfl, hx0, hx⟩
      refine ⟨_, rfl, 10, 9, rfl, rfl, ⟨by decide, by decide, by decide⟩, _, _, rfl, rfl, .inr (by rw [e9]; decide), _, rfl, 10, 9, rfl, rfl, ⟨by decide, by decide, by decide⟩, a, _, rfl, h1, (by rw [e9]; decide), (by unfold Lt2; rw [e9]; decide), fun r H2 hr0 hr1 b2 h2 => ?_⟩
      refine ⟨_, _, rfl, rfl, b1.trans b2, h2, _, _, rfl, ?_, ?_⟩
      · rw [e9]
        omega
      · rw [e9] at hr1 ⊢
        have e30 : (2 : Int) ^ (30 * (i + 1)) = (2 : Int) ^ (30 * i) * 1073741824 := by
          rw [Nat.mul_add, Int.pow_add]
          rfl
        rw [e30]
        omega
    · rintro σ H1 ⟨b1, h1, x, y, rfl, hx0, hx⟩
      have hx' : x + 1 ≤ (2 : Int) ^ 120 := hx
      exact ⟨_, rfl, q x H1 hx0 (by omega) b1 h1⟩
theorem far_at (r : Int) (h0 : 0 ≤ r) (h5 : r < 5) : ∃ x : Int, atI [V.int 2, .int 3, .int 4, .int 7, .int ((10 : Int) ^ (12 : Int).toNat)] r = some (.int x) ∧ 2 ≤ x ∧ x ≤ 1000000000000 := by
  have : r = 0 ∨ r = 1 ∨ r = 2 ∨ r = 3 ∨ r = 4 := by omega
  rcases this with rfl | rfl | rfl | rfl | rfl
  · exact ⟨2, rfl, by decide, by decide⟩
  · exact ⟨3, rfl, by decide, by decide⟩
  · exact ⟨4, rfl, by decide, by decide⟩
  · exact ⟨7, rfl, by decide, by decide⟩
  · exact ⟨(10 : Int) ^ (12 : Int).toNat, rfl, by decide, by decide⟩
def spRounds : Sp := fun vs H Q _ => ∃ (a : Addr) (hi : Int), vs = [.ref a, .int hi] ∧ Src H a ∧ 0 ≤ hi ∧ hi ≤ 100 ∧ ∀ (E : List Int) (p : Addr) (H' : Hp), (E.length : Int) ≤ hi → Ent E → But a H H' → H p = none → LI H' p E → Src H' a → Q (.ref p) H'
theorem scRounds : FnScope ["_law_source_here", "_law_high", "_law_found", "_law_far", "_law_k"] ["_law_source_here", "_law_high"] (defScope sRounds) := ⟨rfl, rfl, rfl, by decide +kernel, rfl, by decide +kernel, by decide +kernel⟩
theorem lt2_small {n : Int} (h0 : 0 ≤ n) (h : n < 2 ^ 64) : Lt2 2000 n := Lt2.mono (a := 64) (by unfold Lt2; omega) (by decide)
theorem ok_rounds {f f1 : Addr} {fd fd1 : FuncData} (F : Fun K "_law_rounds" "_law_rounds" sRounds f fd) (B : Blt mg) (G1 : Cal P w K mg base 2 "_law_take" f1 fd1 ["_law_source_here", "_law_count"] spTake) : FnOk P w K mg base CX0 3 f fd ["_law_source_here", "_law_high"] spRounds := by
  refine F.ok scRounds (fun vs H Q E h => ?_) (fun cdv A outer s H vs Q E hr h => ?_)
  · obtain ⟨a, hi, rfl, _⟩ := h
    rfl
  · obtain ⟨a, hi, rfl, ha, h0, h100, q⟩ := h
    refine ⟨_, pss_cons (ps_set (i := 2) scRounds.nd rfl (.inl rfl) (pe_lst pa_nil))
      (pss_cons (ps_set (i := 3) scRounds.nd rfl (.inl rfl) (pe_ix ix_list (pe_lst (pa_cons pe_int (p4 pe_int pe_int pe_int (pe_op op_pow pe_int pe_int)))) (pc G1 hr (p2 (pv 0) pe_int)) (fun _ _ => rfl)))
      (pss_cons (ps_for PassesOwn.never rfl (pi_range1 (by rfl) B.range (p1 (pc G1 hr (p2 (pv 0) (pe_op op_add (pv 1) pe_int))))) (pg_name (i := 4) scRounds.nd rfl (.inl rfl))
        (pss_one (ps_expr (pe_bm PySem.F.plainAttrs_list PySem.F.slot_list_append PySem.F.type_list_append mt_append (pv 2) (p1 (pe_op op_add pe_int (pc G1 hr (p2 (pv 0) (pv 3)))))))))
      (pss_one (ps_ret (pv 2))))), ?_⟩
    refine ⟨(by show 0 ≤ sizeLine; decide), fun o ho => ?_⟩
    have oa := ha.ne ho
    have h1 : Src (upd H o (.lst [])) a := ha.set oa
    refine ⟨10, 12, rfl, rfl, ⟨by decide, by decide, by decide⟩, (by show 5 ≤ sizeLine; decide), fun l hl => ?_⟩
    have la := h1.ne hl
    have b1 : But a H (upd (upd H o (.lst [])) l (.lst [V.int 2, .int 3, .int 4, .int 7, .int ((10 : Int) ^ (12 : Int).toNat)])) := ((But.refl a H).new ho).new hl
    have h2 : Src (upd (upd H o (.lst [])) l (.lst [V.int 2, .int 3, .int 4, .int 7, .int ((10 : Int) ^ (12 : Int).toNat)])) a := h1.set la
    have lo : l ≠ o := fun z => by
      rw [z, upd_same] at hl
      cases hl
    have eo : (upd (upd H o (.lst [])) l (.lst [V.int 2, .int 3, .int 4, .int 7, .int ((10 : Int) ^ (12 : Int).toNat)])) o = some (.lst []) := by
      rw [upd_ne lo.symm, upd_same]
    have el : (upd (upd H o (.lst [])) l (.lst [V.int 2, .int 3, .int 4, .int 7, .int ((10 : Int) ^ (12 : Int).toNat)])) l = some (.lst [V.int 2, .int 3, .int 4, .int 7, .int ((10 : Int) ^ (12 : Int).toNat)]) := upd_same
    generalize upd (upd H o (.lst [])) l (.lst [V.int 2, .int 3, .int 4, .int 7, .int ((10 : Int) ^ (12 : Int).toNat)]) = H2 at b1 h2 eo el ⊢
    refine ⟨_, rfl, a, 5, rfl, h2, by decide, lt2_small (by decide) (by decide), fun r H3 r0 r5 b3 h3 => ?_⟩
    obtain ⟨far, hfar, f2, f12⟩ := far_at r r0 r5
    refine ⟨l, _, r, .int far, rfl, rfl, SqL.of (b3 _ _ el la), hfar, ?_⟩
    refine ⟨_, rfl, _, rfl, _, _, rfl, rfl, a, hi + 1, rfl, h3, by omega, lt2_small (by omega) (by omega), fun n H4 n0 n1 b4 h4 => ?_⟩
    refine ⟨n, rfl, by omega, by omega, for_range (n := n.toNat) (fun i σ H5 => But a H H5 ∧ Src H5 a ∧ ∃ (E : List Int) (y : Option V), σ = [some (.ref a), some (.int hi), some (.ref o), some (.int far), y] ∧ LI H5 o E ∧ Ent E ∧ E.length = i)
      ⟨(b1.trans b3).trans b4, h4, [], none, rfl, b4 _ _ (b3 _ _ eo oa) oa, (fun _ h => nomatch h), rfl⟩ ?_ ?_⟩
    · rintro i σ H5 hi5 ⟨b5, h5, E, y, rfl, eE, hE, hlE⟩
      refine ⟨_, rfl, .inl ⟨rfl, _, li_seq eE⟩, _, rfl, _, rfl, a, far, rfl, h5, by omega, lt2_small (by omega) (by omega), fun x H6 x0 x1 b6 h6 => ?_⟩
      refine ⟨2, x, rfl, rfl, o, _, _, rfl, rfl, b6 _ _ eE oa, ?_, ?_⟩
      · rw [List.length_map]
        exact small_line' (by omega)
      · refine ⟨(b5.trans b6).mut ho, h6.set oa, E ++ [2 + x], _, rfl, ?_, ?_, ?_⟩
        · show upd _ o _ o = _
          rw [upd_same, List.map_append]
          rfl
        · intro e he
          rcases List.mem_append.mp he with z | z
          · exact hE e z
          · rw [(List.mem_singleton.mp z)]
            omega
        · rw [List.length_append, hlE]
          rfl
    · rintro σ H5 ⟨b5, h5, E, y, rfl, eE, hE, hlE⟩
      exact ⟨_, rfl, q E o H5 (by omega) hE b5 ho eE h5⟩
end
end Sc

/-! the law's draws: counts, tops, orders -/
namespace Sc
open L2 PyProof.Rows PySem PySem.Spec
section
variable {base : Heap} {mg : Str → Option Value} {K : PySem.W.Frag} {w : World} {P : Program}
theorem some_at {a b c d : Int} (r : Int) (h0 : 0 ≤ r) (h4 : r < 4) (ha : 0 ≤ a ∧ a < 2 ^ 120) (hb : 0 ≤ b ∧ b < 2 ^ 120) (hc : 0 ≤ c ∧ c < 2 ^ 120) (hd : 0 ≤ d ∧ d < 2 ^ 120) : ∃ x : Int, atI [V.int a, .int b, .int c, .int d] r = some (.int x) ∧ 0 ≤ x ∧ x < 2 ^ 120 := by
  have : r = 0 ∨ r = 1 ∨ r = 2 ∨ r = 3 := by omega
  rcases this with rfl | rfl | rfl | rfl
  · exact ⟨a, rfl, ha⟩
  · exact ⟨b, rfl, hb⟩
  · exact ⟨c, rfl, hc⟩
  · exact ⟨d, rfl, hd⟩
def spPeople : Sp := fun vs H Q _ => ∃ (a : Addr) (hi : Int), vs = [.ref a, .int hi] ∧ Src H a ∧ 0 ≤ hi ∧ hi ≤ 100 ∧ ∀ (cs : List Int) (p : Addr) (H' : Hp), (cs.length : Int) ≤ hi → (∀ x ∈ cs, 0 ≤ x ∧ x < 2 ^ 120) → But a H H' → H p = none → TI H' p cs → Src H' a → Q (.ref p) H'
theorem scPeople : FnScope ["_law_source_here", "_law_high", "_law_way", "_law_found", "_law_k", "_law_some"] ["_law_source_here", "_law_high"] (defScope sPeople) := ⟨rfl, rfl, rfl, by decide +kernel, rfl, by decide +kernel, by decide +kernel⟩
theorem ok_people {f f1 f2 : Addr} {fd fd1 fd2 : FuncData} (F : Fun K "_law_people" "_law_people" sPeople f fd) (B : Blt mg) (G1 : Cal P w K mg base 2 "_law_take" f1 fd1 ["_law_source_here", "_law_count"] spTake) (G2 : Cal P w K mg base 3 "_law_big" f2 fd2 ["_law_source_here"] spBig) : FnOk P w K mg base CX0 4 f fd ["_law_source_here", "_law_high"] spPeople := by
  refine F.ok scPeople (fun vs H Q E h => ?_) (fun cdv A outer s H vs Q E hr h => ?_)
  · obtain ⟨a, hi, rfl, _⟩ := h
    rfl
  · obtain ⟨a, hi, rfl, ha, h0, h100, q⟩ := h
    have hr2 : Room 2 _ := Room.mono hr (by decide)
    refine ⟨_, pss_cons (ps_set (i := 2) scPeople.nd rfl (.inl rfl) (pc G1 hr2 (p2 (pv 0) pe_int)))
      (pss_cons (ps_set (i := 3) scPeople.nd rfl (.inl rfl) (pe_lst pa_nil))
      (pss_cons (ps_for PassesOwn.never rfl (pi_range1 (by rfl) B.range (p1 (pc G1 hr2 (p2 (pv 0) (pe_op op_add (pv 1) pe_int))))) (pg_name (i := 4) scPeople.nd rfl (.inl rfl))
        (pss_cons (ps_set (i := 5) scPeople.nd rfl (.inl rfl) (pe_lst (p4 (pc G1 hr2 (p2 (pv 0) pe_int)) (pc G1 hr2 (p2 (pv 0) pe_int)) (pc G2 hr (p1 (pv 0))) (pt' call_int1 B.int (p1 (pe_cmpR op_eq (pc G1 hr2 (p2 (pv 0) pe_int)) pe_int (nomark _)))))))
        (pss_one (ps_expr (pe_bm PySem.F.plainAttrs_list PySem.F.slot_list_append PySem.F.type_list_append mt_append (pv 3) (p1 (pe_ix ix_list (pv 5) (pv 2) (fun _ _ => rfl))))))))
      (pss_one (ps_ret (pt' call_tuple_of B.tuple (p1 (pv 3))))))), ?_⟩
    refine ⟨_, rfl, a, 4, rfl, ha, by decide, lt2_small (by decide) (by decide), fun way H1 w0 w4 b1 h1 => ?_⟩
    refine ⟨(by show 0 ≤ sizeLine; decide), fun o ho => ?_⟩
    have ho0 : H o = none := b1.free (.inr (h1.ne ho)) ho
    have oa := h1.ne ho
    refine ⟨_, rfl, _, rfl, _, _, rfl, rfl, a, hi + 1, rfl, h1.set oa, by omega, lt2_small (by omega) (by omega), fun n H4 n0 n1 b4 h4 => ?_⟩
    refine ⟨n, rfl, by omega, by omega, for_range (n := n.toNat) (fun i σ H5 => But a H H5 ∧ Src H5 a ∧ ∃ (cs : List Int) (y z : Option V), σ = [some (.ref a), some (.int hi), some (.int way), some (.ref o), y, z] ∧ LI H5 o cs ∧ (∀ x ∈ cs, 0 ≤ x ∧ x < 2 ^ 120) ∧ cs.length = i)
      ⟨(b1.new ho).trans b4, h4, [], none, none, rfl, b4 _ _ upd_same oa, (fun _ h => nomatch h), rfl⟩ ?_ ?_⟩
    · rintro i σ H5 hi5 ⟨b5, h5, cs, y, z, rfl, eC, hC, hlC⟩
      refine ⟨_, rfl, a, 4, rfl, h5, by decide, lt2_small (by decide) (by decide), fun x1 H6 x10 x11 b6 h6 => ?_⟩
      refine ⟨_, rfl, a, 40, rfl, h6, by decide, lt2_small (by decide) (by decide), fun x2 H7 x20 x21 b7 h7 => ?_⟩
      refine ⟨_, rfl, a, rfl, h7, fun x3 H8 x30 x31 b8 h8 => ?_⟩
      refine ⟨_, rfl, a, 5, rfl, h8, by decide, lt2_small (by decide) (by decide), fun x4 H9 x40 x41 b9 h9 => ?_⟩
      refine ⟨rfl, .inr ⟨_, rfl, (by show 4 ≤ sizeLine; decide), fun l hl => ?_⟩⟩
      have b59 : But a H5 H9 := ((b6.trans b7).trans b8).trans b9
      obtain ⟨x, hx, hx0, hx1⟩ := some_at (a := x1) (b := x2) (c := x3) (d := if decide (V.int x4 = V.int 0) then 1 else 0) way w0 w4 (by omega) (by omega) ⟨x30, x31⟩ (by split <;> omega)
      have s9 := same_new (o := .lst [V.int x1, .int x2, .int x3, .int (if decide (V.int x4 = V.int 0) then 1 else 0)]) hl
      refine ⟨_, rfl, .inl ⟨rfl, _, li_seq (s9 _ _ (b59 _ _ eC oa))⟩, _, rfl, _, rfl, l, _, way, _, rfl, rfl, SqL.of upd_same, hx, o, _, _, rfl, rfl, s9 _ _ (b59 _ _ eC oa), ?_, ?_⟩
      · rw [List.length_map]
        exact small_line' (by omega)
      · refine ⟨((b5.trans b59).new hl).mut ho0, (h9.same s9).set oa, cs ++ [x], _, _, rfl, ?_, ?_, ?_⟩
        · show upd _ o _ o = _
          rw [upd_same, List.map_append]
          rfl
        · intro e he
          rcases List.mem_append.mp he with z | z
          · exact hC e z
          · rw [(List.mem_singleton.mp z)]
            exact ⟨hx0, hx1⟩
        · rw [List.length_append, hlC]
          rfl
    · rintro σ H5 ⟨b5, h5, cs, y, z, rfl, eC, hC, hlC⟩
      refine ⟨_, rfl, o, _, rfl, .inl ⟨li_seq eC, fun l hl => ?_⟩⟩
      exact q cs l _ (by omega) hC (b5.new hl) (b5.free (.inr (h5.ne hl)) hl) upd_same (h5.same (same_new hl))
def spWeighed : Sp := fun vs H Q _ => ∃ (a p : Addr) (E cs : List Int), vs = [.ref a, .ref p] ∧ LI H a E ∧ TR H p cs ∧ Ent E ∧ ∀ (t : Addr) (b : Int) (H' : Hp), Same H H' → TI H' t [horn 0 E cs, b] → Q (.ref t) H'
theorem scWeighed : FnScope ["_law_entries", "_law_people_here", "_law_top", "_law_bottom", "_law_entry", "_law_count"] ["_law_entries", "_law_people_here"] (defScope sWeighed) := ⟨rfl, rfl, rfl, by decide +kernel, rfl, by decide +kernel, by decide +kernel⟩
theorem horn_nil (t : Int) : ∀ E c : List Int, E = [] ∨ c = [] → horn t E c = t
  | [], c, _ => by cases c <;> rfl
  | e :: E, [], _ => rfl
  | e :: E, c :: cs, h => by
    rcases h with h | h
    · cases h
    · cases h
theorem ok_weighed {f : Addr} {fd : FuncData} (F : Fun K "_law_weighed" "_law_weighed" sWeighed f fd) (B : Blt mg) : FnOk P w K mg base CX0 1 f fd ["_law_entries", "_law_people_here"] spWeighed := by
  refine F.ok scWeighed (fun vs H Q E h => ?_) (fun cdv A outer s H vs Q E hr h => ?_)
  · obtain ⟨a, p, E, cs, rfl, _⟩ := h
    rfl
  · obtain ⟨a, p, E, cs, rfl, hE, ⟨oC, kC, hC⟩, he, q⟩ := h
    refine ⟨_, pss_cons (ps_asg (pe_tup (p2 pe_int pe_int)) (pg_tup rfl (pgs_cons (pg_name (i := 2) scWeighed.nd rfl (.inl rfl)) (pgs_cons (pg_name (i := 3) scWeighed.nd rfl (.inl rfl)) pgs_nil))))
      (pss_cons (ps_for PassesOwn.never rfl (pi_zipX true false (by rfl) B.zip (p2 (pv 0) (pv 1))) (pg_tup rfl (pgs_cons (pg_name (i := 4) scWeighed.nd rfl (.inl rfl)) (pgs_cons (pg_name (i := 5) scWeighed.nd rfl (.inl rfl)) pgs_nil)))
        (pss_cons (ps_set (i := 3) scWeighed.nd rfl (.inl rfl) (pe_op op_mul (pv 3) (pv 4)))
        (pss_one (ps_set (i := 2) scWeighed.nd rfl (.inl rfl) (pe_op op_add (pe_op op_mul (pv 2) (pv 4)) (pv 5))))))
      (pss_one (ps_ret (pe_tup (p2 (pv 2) (pv 3)))))), ?_⟩
    refine ⟨(by show 2 ≤ sizeLine; decide), fun t ht => ?_⟩
    have s1 := same_new (o := .tup [.int 0, .int 1]) ht
    refine ⟨t, [.int 0, .int 1], rfl, SqT.of upd_same, rfl, _, _, rfl, _, _, rfl, rfl, ?_⟩
    refine ⟨_, rfl, _, rfl, a, p, _, _, rfl, li_seq (s1 _ _ hE), kC.seq (s1 _ _ hC), for_it (walk_zipX rfl) (fun i σ H1 => Same H H1 ∧ ∃ (x y : Int) (u v : Option V), σ = [some (.ref a), some (.ref p), some (.int x), some (.int y), u, v] ∧ horn x (E.drop i) (cs.drop i) = horn 0 E cs)
      ⟨s1, 0, 1, none, none, rfl, by rw [List.drop_zero, List.drop_zero]⟩ (fun i σ H1 _ hp => ⟨li_seq (hp.1 _ _ hE), kC.seq (hp.1 _ _ hC)⟩) ?_ ?_⟩
    · rintro i z σ H1 H2 hi ⟨sm, x, y, u, v, rfl, hh⟩ ⟨T, z1, z2, rfl, hT, rfl, k1, k2⟩
      obtain ⟨e, hez, rfl⟩ := of_int k1
      obtain ⟨c, hcz, rfl⟩ := of_int k2
      obtain ⟨hi1, hi1'⟩ := List.getElem?_eq_some_iff.mp hez
      obtain ⟨hi2, hi2'⟩ := List.getElem?_eq_some_iff.mp hcz
      have hb := he e (List.mem_of_getElem? hez)
      refine ⟨T, [.int e, .int c], rfl, SqT.of upd_same, rfl, _, _, rfl, _, _, rfl, rfl, ?_⟩
      refine ⟨_, rfl, _, rfl, _, _, rfl, rfl, .inr ⟨by omega, by omega⟩, _, rfl, _, rfl, _, _, rfl, rfl, .inr ⟨by omega, by omega⟩, _, rfl, _, _, rfl, rfl, ?_⟩
      refine ⟨sm.trans (same_new hT), x * e + c, y * e, _, _, rfl, ?_⟩
      rw [← hh, List.drop_eq_getElem_cons hi1, List.drop_eq_getElem_cons hi2, hi1', hi2']
      rfl
    · rintro σ H1 ⟨sm, x, y, u, v, rfl, hh⟩
      rw [List.length_map, List.length_map, horn_nil x _ _ (by
        by_cases hm : E.length ≤ cs.length
        · exact .inl (List.drop_eq_nil_of_le (by omega))
        · exact .inr (List.drop_eq_nil_of_le (by omega)))] at hh
      refine ⟨_, rfl, _, rfl, (by show 2 ≤ sizeLine; decide), fun t2 ht2 => ?_⟩
      subst hh
      exact q t2 y _ (sm.trans (same_new ht2)) upd_same
/-! ### orders -/
theorem perm_erase : ∀ {l : List Int} {k : Nat} {y : Int}, l[k]? = some y → (y :: l.eraseIdx k).Perm l
  | [], _, _, h => by simp at h
  | x :: l, 0, y, h => by
    have e : x = y := Option.some.inj h
    subst e
    exact List.Perm.refl _
  | x :: l, k + 1, y, h => by
    have ih := perm_erase (l := l) (k := k) (y := y) h
    show (y :: x :: l.eraseIdx k).Perm (x :: l)
    exact (List.Perm.swap x y _).trans (ih.cons x)
theorem er_map : ∀ (l : List Int) (k : Nat), (l.map V.int).eraseIdx k = (l.eraseIdx k).map V.int
  | [], _ => rfl
  | _ :: _, 0 => rfl
  | x :: l, k + 1 => by
    show V.int x :: (l.map V.int).eraseIdx k = V.int x :: (l.eraseIdx k).map V.int
    rw [er_map l k]
theorem perm_move {ps ds ns : List Int} {k : Nat} {y : Int} (h : ps[k]? = some y) (hp : (ps ++ ds).Perm ns) : (ps.eraseIdx k ++ (ds ++ [y])).Perm ns := by
  refine List.Perm.trans ?_ hp
  have h1 : (ps.eraseIdx k ++ (ds ++ [y])).Perm ((ds ++ [y]) ++ ps.eraseIdx k) := List.perm_append_comm
  refine h1.trans ?_
  have h2 : ((ds ++ [y]) ++ ps.eraseIdx k) = ds ++ (y :: ps.eraseIdx k) := by
    rw [List.append_assoc]
    rfl
  rw [h2]
  exact ((perm_erase h).append_left ds).trans List.perm_append_comm
theorem erase_len : ∀ {l : List Int} {k : Nat}, k < l.length → (l.eraseIdx k).length + 1 = l.length
  | _ :: _, 0, _ => rfl
  | x :: l, k + 1, h => by
    have := erase_len (l := l) (k := k) (by rw [List.length_cons] at h; omega)
    show (l.eraseIdx k).length + 1 + 1 = l.length + 1
    omega
def spShuffled : Sp := fun vs H Q _ => ∃ (a l : Addr) (ns : List Int), vs = [.ref a, .ref l] ∧ Src H a ∧ LI H l ns ∧ ns.length ≤ 1000 ∧ ∀ (ms : List Int) (p : Addr) (H' : Hp), ms.Perm ns → But a H H' → H p = none → LI H' p ms → Src H' a → Q (.ref p) H'
theorem scShuffled : FnScope ["_law_source_here", "_law_items", "_law_pool", "_law_drawn"] ["_law_source_here", "_law_items"] (defScope sShuffled) := ⟨rfl, rfl, rfl, by decide +kernel, rfl, by decide +kernel, by decide +kernel⟩
theorem ok_shuffled {f f1 : Addr} {fd fd1 : FuncData} (F : Fun K "_law_shuffled" "_law_shuffled" sShuffled f fd) (B : Blt mg) (G1 : Cal P w K mg base 2 "_law_take" f1 fd1 ["_law_source_here", "_law_count"] spTake) : FnOk P w K mg base CX0 3 f fd ["_law_source_here", "_law_items"] spShuffled := by
  refine F.ok scShuffled (fun vs H Q E h => ?_) (fun cdv A outer s H vs Q E hr h => ?_)
  · obtain ⟨a, l, ns, rfl, _⟩ := h
    rfl
  · obtain ⟨a, l, ns, rfl, ha, hL, hlen, q⟩ := h
    refine ⟨_, pss_cons (ps_par (i := 2) (j := 3) (by rfl) scShuffled.nd rfl rfl (by decide) rfl rfl (p2 (pt' call_list_of B.list (p1 (pv 1))) (pe_lst pa_nil)) (by rfl))
      (pss_cons (ps_while PassesOwn.never (pt_cmpR (op_neD hr.units) (pv 2) (pe_lst pa_nil) (nomark _))
        (pss_one (ps_expr (pe_bm PySem.F.plainAttrs_list PySem.F.slot_list_append PySem.F.type_list_append mt_append (pv 3)
          (p1 (pe_bm PySem.F.plainAttrs_list PySem.F.slot_list_pop PySem.F.type_list_pop mt_popAt (pv 2) (p1 (pc G1 hr (p2 (pv 0) (pb call_len_seq B.len (p1 (pv 2))))))))))))
      (pss_one (ps_ret (pv 3)))), ?_⟩
    refine ⟨_, rfl, l, ns.map V.int, rfl, .inl (li_seq hL), fun o1 ho1 => ⟨(by show 0 ≤ sizeLine; decide), fun o2 ho2 => ⟨_, _, rfl, ?_⟩⟩⟩
    have s1 := same_new (o := .lst (ns.map V.int)) ho1
    have s2 := same_new (o := .lst []) ho2
    have n12 : o1 ≠ o2 := fun z => by
      rw [← z, upd_same] at ho2
      cases ho2
    have h1a := ha.ne ho1
    have h2a := (ha.same s1).ne ho2
    have ho20 : H o2 = none := s1.free ho2
    refine ⟨fun m σ H1 => σ = [some (.ref a), some (.ref l), some (.ref o1), some (.ref o2)] ∧ But a H H1 ∧ Src H1 a ∧ ∃ ps ds : List Int, LI H1 o1 ps ∧ LI H1 o2 ds ∧ (ps ++ ds).Perm ns ∧ ps.length = m,
      ⟨ns.length, rfl, .of (s1.trans s2), ha.same (s1.trans s2), ns, [], s2 _ _ upd_same, upd_same, (List.append_nil ns).symm ▸ List.Perm.refl _, rfl⟩, fun m σ H1 hW => ?_⟩
    obtain ⟨rfl, b1, h1, ps, ds, e1, e2, hp, hm⟩ := hW
    refine ⟨_, rfl, (by show 0 ≤ sizeLine; decide), fun t ht => ?_⟩
    have s3 := same_new (o := .lst []) ht
    refine ⟨.list (iD ps), .list (iD []), dp_LI (s3 _ _ e1), dp_LI upd_same, sh_L ps, sh_L [], _, rfl, ?_⟩
    have hlt : ps.length + ds.length = ns.length := by
      rw [← List.length_append]
      exact hp.length_eq
    cases ps with
    | nil =>
      rw [eqv_self (sh_L [])]
      refine iteF ⟨_, rfl, q ds o2 _ (by simpa using hp) (b1.new ht) ho20 (s3 _ _ e2) (h1.same s3)⟩
    | cons p0 pr0 =>
      rw [ne_nil_eqv]
      refine iteT ⟨fun σ' H' => ∃ m', m' < m ∧ (σ' = [some (.ref a), some (.ref l), some (.ref o1), some (.ref o2)] ∧ But a H H' ∧ Src H' a ∧ ∃ ps ds : List Int, LI H' o1 ps ∧ LI H' o2 ds ∧ (ps ++ ds).Perm ns ∧ ps.length = m'), fun σ' H' hN => hN, ?_⟩
      refine ⟨_, rfl, .inl ⟨rfl, _, li_seq (s3 _ _ e2)⟩, _, rfl, .inl ⟨rfl, _, li_seq (s3 _ _ e1)⟩, _, rfl, _, rfl, o1, _, rfl, .inl (li_seq (s3 _ _ e1)), a, _, rfl, h1.same s3, ?_, lt2_small ?_ ?_, fun r H2 r0 r1 b2 h2 => ?_⟩
      · rw [List.length_map, List.length_cons]
        omega
      · omega
      · rw [List.length_map]
        omega
      rw [List.length_map] at r1
      have hk : r.toNat < (p0 :: pr0).length := by omega
      have hy := List.getElem?_eq_getElem hk
      have f1 := b2 _ _ (s3 _ _ e1) h1a
      have f2 := b2 _ _ (s3 _ _ e2) h2a
      refine ⟨o1, _, r, r.toNat, _, rfl, rfl, f1, by omega, by omega, ?_, at_int hy, ?_⟩
      · rw [List.length_map]
        exact PySem.StrLaws.seqIndex_nonneg r0 (by omega)
      · rw [er_map]
        refine ⟨o2, _, _, rfl, rfl, (by rw [upd_ne n12.symm]; exact f2), ?_, ?_⟩
        · rw [List.length_map]
          exact small_line' (by omega)
        · refine ⟨((p0 :: pr0).eraseIdx r.toNat).length, ?_, rfl, ?_, ?_, _, _, ?_, ?_, perm_move hy hp, rfl⟩
          · have := erase_len hk
            omega
          · exact (((b1.new ht).trans b2).mut ho1).mut ho20
          · exact (h2.set h1a).set h2a
          · show upd _ o2 _ o1 = _
            rw [upd_ne n12, upd_same]
          · show upd _ o2 _ o2 = _
            rw [upd_same, List.map_append]
            rfl
end
end Sc

/-! columns: the mathematics of a split that is drawn; a list of lists that is written -/
namespace Sc
open L2 PyProof.Rows PySem PySem.Spec
theorem gd_set {r : List Int} {i k : Nat} {v : Int} (h : i < r.length) : gd (r.set i v) k = if k = i then v else gd r k := by
  show (r.set i v).getD k 0 = if k = i then v else r.getD k 0
  rw [List.getD_eq_getElem?_getD, List.getD_eq_getElem?_getD]
  by_cases e : k = i
  · subst e
    rw [List.getElem?_set_self h, if_pos rfl]
    rfl
  · rw [List.getElem?_set_ne (Ne.symm e), if_neg e]
theorem csum_set {rows : List (List Int)} {j : Nat} {r r' : List Int} (h : rows[j]? = some r) (k : Nat) : csum (rows.set j r') k = csum rows k - gd r k + gd r' k := by
  unfold csum
  rw [List.map_set]
  exact sum_set (by rw [List.getElem?_map, h]; rfl)
theorem csum_zero {k : Nat} : ∀ {rows : List (List Int)}, (∀ r ∈ rows, gd r k = 0) → csum rows k = 0
  | [], _ => rfl
  | r :: rows, h => by
    show (gd r k :: rows.map fun r => gd r k).sum = 0
    have h1 : (rows.map fun r => gd r k).sum = 0 := csum_zero (rows := rows) fun x hx => h x (List.mem_cons_of_mem _ hx)
    rw [List.sum_cons, h1, h r List.mem_cons_self]
    rfl
theorem mem_set {α : Type} {l : List α} {j : Nat} {x y : α} (h : y ∈ l.set j x) : y = x ∨ y ∈ l := (List.mem_or_eq_of_mem_set h).symm
theorem le_csum {k : Nat} : ∀ {rows : List (List Int)}, (∀ r ∈ rows, 0 ≤ gd r k) → ∀ r ∈ rows, gd r k ≤ csum rows k ∧ 0 ≤ csum rows k
  | [], _, _, h => (nomatch h)
  | x :: rows, h, r, hr => by
    have h0 : 0 ≤ csum rows k := by
      cases rows with
      | nil => exact Int.le_refl 0
      | cons y ys => exact (le_csum (rows := y :: ys) (fun z hz => h z (List.mem_cons_of_mem _ hz)) y List.mem_cons_self).2
    have e : csum (x :: rows) k = gd x k + csum rows k := by
      show (gd x k :: rows.map fun r => gd r k).sum = _
      rw [List.sum_cons]
      rfl
    have hx := h x List.mem_cons_self
    rw [e]
    rcases (List.mem_cons.mp hr) with z | z
    · rw [z]
      omega
    · have := (le_csum (rows := rows) (fun z hz => h z (List.mem_cons_of_mem _ hz)) r z).1
      omega
/-- the first i columns are dealt out -/
structure Dn (cs : List Int) (g i : Nat) (rows : List (List Int)) : Prop where
  len : rows.length = g
  rlen : ∀ r ∈ rows, r.length = cs.length
  nn : ∀ r ∈ rows, ∀ k, 0 ≤ gd r k
  done : ∀ k, k < i → csum rows k = gd cs k
  zero : ∀ k, i ≤ k → ∀ r ∈ rows, gd r k = 0
/-- .. and of column i all but rest -/
structure Col (cs : List Int) (g i : Nat) (rest : Int) (rows : List (List Int)) : Prop where
  len : rows.length = g
  rlen : ∀ r ∈ rows, r.length = cs.length
  nn : ∀ r ∈ rows, ∀ k, 0 ≤ gd r k
  done : ∀ k, k < i → csum rows k = gd cs k
  zero : ∀ k, i < k → ∀ r ∈ rows, gd r k = 0
  here : csum rows i + rest = gd cs i
theorem Dn.col {cs : List Int} {g i : Nat} {rows : List (List Int)} (h : Dn cs g i rows) : Col cs g i (gd cs i) rows :=
  ⟨h.len, h.rlen, h.nn, h.done, fun k hk => h.zero k (by omega), by rw [csum_zero (h.zero i (Nat.le_refl i))]; omega⟩
theorem Col.dn {cs : List Int} {g i : Nat} {rows : List (List Int)} (h : Col cs g i 0 rows) : Dn cs g (i + 1) rows :=
  ⟨h.len, h.rlen, h.nn, fun k hk => by
    by_cases e : k = i
    · have := h.here
      rw [e]
      omega
    · exact h.done k (by omega), fun k hk => h.zero k (by omega)⟩
theorem Col.add {cs : List Int} {g i j : Nat} {rest v : Int} {rows : List (List Int)} {r : List Int} (h : Col cs g i rest rows) (hi : i < cs.length) (hr : rows[j]? = some r) (hv : 0 ≤ v) : Col cs g i (rest - (v - gd r i)) (rows.set j (r.set i v)) := by
  have hm := List.mem_of_getElem? hr
  have hl : i < r.length := by
    rw [h.rlen r hm]
    exact hi
  refine ⟨by rw [List.length_set]; exact h.len, fun x hx => ?_, fun x hx k => ?_, fun k hk => ?_, fun k hk x hx => ?_, ?_⟩
  · rcases mem_set hx with z | z
    · rw [z, List.length_set]
      exact h.rlen r hm
    · exact h.rlen x z
  · rcases mem_set hx with z | z
    · rw [z, gd_set hl]
      split
      · exact hv
      · exact h.nn r hm k
    · exact h.nn x z k
  · rw [csum_set hr, gd_set hl, if_neg (by omega), h.done k hk]
    omega
  · rcases mem_set hx with z | z
    · rw [z, gd_set hl, if_neg (by omega)]
      exact h.zero k hk r hm
    · exact h.zero k hk x z
  · have := h.here
    rw [csum_set hr, gd_set hl, if_pos rfl]
    omega
theorem Col.cast {cs : List Int} {g i : Nat} {a b : Int} {rows : List (List Int)} (h : Col cs g i a rows) (e : a = b) : Col cs g i b rows := e ▸ h
theorem Dn.cols {cs : List Int} {g : Nat} {rows : List (List Int)} (h : Dn cs g cs.length rows) : cols rows cs.length = cs := by
  apply List.ext_getElem?
  intro k
  unfold Sc.cols
  rw [List.getElem?_map]
  by_cases hk : k < cs.length
  · rw [List.getElem?_range hk, get_gd hk]
    show some (csum rows k) = _
    rw [h.done k hk]
  · rw [List.getElem?_eq_none (by rw [List.length_range]; omega), List.getElem?_eq_none (by omega)]
    rfl
theorem Dn.cnt {cs : List Int} {g : Nat} {rows : List (List Int)} (h : Dn cs g cs.length rows) (hc : ∀ x ∈ cs, 0 ≤ x ∧ x < 2 ^ 120) : ∀ r ∈ rows, ∀ x ∈ r, 0 ≤ x ∧ x < 2 ^ 120 := by
  intro r hr x hx
  obtain ⟨k, hk, e⟩ := List.getElem_of_mem hx
  have hkl : k < cs.length := by
    rw [← h.rlen r hr]
    exact hk
  have eg : gd r k = x := gd_some (by rw [List.getElem?_eq_getElem hk, e])
  have h1 := h.nn r hr k
  have h2 := (le_csum (fun y hy => h.nn y hy k) r hr).1
  have h3 := h.done k hkl
  have h4 := hc (gd cs k) (List.mem_of_getElem? (get_gd hkl))
  omega
theorem Dn.start (cs : List Int) (g : Nat) : Dn cs g 0 (List.replicate g (List.replicate cs.length 0)) := by
  have z : ∀ k, gd (List.replicate cs.length 0) k = 0 := fun k => by
    show (List.replicate cs.length (0 : Int)).getD k 0 = 0
    rw [List.getD_eq_getElem?_getD, List.getElem?_replicate]
    split <;> rfl
  refine ⟨List.length_replicate, fun r hr => ?_, fun r hr k => ?_, fun k hk => absurd hk (Nat.not_lt_zero k), fun k _ r hr => ?_⟩
  · rw [(List.mem_replicate.mp hr).2, List.length_replicate]
  · rw [(List.mem_replicate.mp hr).2, z]
    exact Int.le_refl 0
  · rw [(List.mem_replicate.mp hr).2, z]
/-! ### a list of lists -/
structure Mat (H : Hp) (o : Addr) (as : List Addr) (rows : List (List Int)) : Prop where
  lst : H o = some (.lst (as.map V.ref))
  nd : as.Nodup
  no : o ∉ as
  len : as.length = rows.length
  at_ : ∀ (j : Nat) (b : Addr) (r : List Int), as[j]? = some b → rows[j]? = some r → LI H b r
theorem Mat.but {H H1 : Hp} {o a : Addr} {as : List Addr} {rows : List (List Int)} (h : Mat H o as rows) (s : But a H H1) (n : o ≠ a) (n' : a ∉ as) : Mat H1 o as rows :=
  ⟨s _ _ h.lst n, h.nd, h.no, h.len, fun j b r e1 e2 => s _ _ (h.at_ j b r e1 e2) fun z => n' (z ▸ List.mem_of_getElem? e1)⟩
theorem Mat.same {H H1 : Hp} {o : Addr} {as : List Addr} {rows : List (List Int)} (h : Mat H o as rows) (s : Same H H1) : Mat H1 o as rows :=
  ⟨s _ _ h.lst, h.nd, h.no, h.len, fun j b r e1 e2 => s _ _ (h.at_ j b r e1 e2)⟩
theorem Mat.get {H : Hp} {o : Addr} {as : List Addr} {rows : List (List Int)} (h : Mat H o as rows) {j : Nat} (hj : j < rows.length) : ∃ b r, as[j]? = some b ∧ rows[j]? = some r ∧ LI H b r ∧ b ∈ as := by
  have hj' : j < as.length := by
    rw [h.len]
    exact hj
  have e1 := List.getElem?_eq_getElem hj'
  have e2 := List.getElem?_eq_getElem hj
  exact ⟨_, _, e1, e2, h.at_ j _ _ e1 e2, List.mem_of_getElem? e1⟩
/-- an item of a row is written -/
theorem Mat.set {H : Hp} {o b : Addr} {as : List Addr} {rows : List (List Int)} {j i : Nat} {r : List Int} {v : Int} (h : Mat H o as rows) (e1 : as[j]? = some b) (e2 : rows[j]? = some r) : Mat (upd H b (.lst ((r.map V.int).set i (.int v)))) o as (rows.set j (r.set i v)) := by
  have hb := List.mem_of_getElem? e1
  have nob : o ≠ b := fun z => h.no (z ▸ hb)
  refine ⟨by rw [upd_ne nob]; exact h.lst, h.nd, h.no, by rw [List.length_set]; exact h.len, fun j' b' r' x1 x2 => ?_⟩
  by_cases ej : j' = j
  · subst ej
    have eb : b = b' := Option.some.inj (e1.symm.trans x1)
    subst eb
    rw [List.getElem?_set_self (List.getElem?_eq_some_iff.mp e2).1] at x2
    have er : r.set i v = r' := Option.some.inj x2
    subst er
    show upd H b _ b = _
    rw [upd_same, List.map_set]
  · rw [List.getElem?_set_ne (Ne.symm ej)] at x2
    have nb : b' ≠ b := fun z => ej (nd_ix h.nd x1 (z ▸ e1))
    show upd H b _ b' = _
    rw [upd_ne nb]
    exact h.at_ j' b' r' x1 x2
/-- all the rows are new since H0 -/
def Fresh (H0 : Hp) (o : Addr) (as : List Addr) : Prop := H0 o = none ∧ ∀ b ∈ as, H0 b = none
/-- a tuple whose object is known, and that it has no dict -/
def Nd (H : Hp) (b : Addr) : Prop := ∃ (ob : Obj) (u : HO), H b = some (.frz ob u) ∧ ob.cls = .type "tuple" ∧ ob.dict = none
theorem Nd.same {H H' : Hp} {b : Addr} (h : Nd H b) (s : Same H H') : Nd H' b := by
  obtain ⟨ob, u, e, k⟩ := h
  exact ⟨ob, u, s _ _ e, k⟩
theorem Nd.but {a : Addr} {H H' : Hp} {b : Addr} (h : Nd H b) (s : But a H H') (n : b ≠ a) : Nd H' b := by
  obtain ⟨ob, u, e, k⟩ := h
  exact ⟨ob, u, s _ _ e n, k⟩
/-- a list of such tuples of ints -/
def TF (H : Hp) (p : Addr) (rows : List (List Int)) : Prop := ∃ as : List Addr, H p = some (.lst (as.map V.ref)) ∧ TA H as rows ∧ ∀ b ∈ as, Nd H b
theorem TF.same {H H' : Hp} {p : Addr} {rows : List (List Int)} (h : TF H p rows) (s : Same H H') : TF H' p rows := by
  obtain ⟨as, e, t, n⟩ := h
  exact ⟨as, s _ _ e, t.same s, fun b hb => (n b hb).same s⟩
/-- tuple(a list), its object known -/
def rTupF (K : PySem.W.Frag) : List V → Hp → VK → Prop := fun xs H Q => ∃ p ys, xs = [.ref p] ∧ SqL K H p ys ∧ ∀ (l : Addr) (ob : Obj), H l = none → ob.cls = .type "tuple" → ob.dict = none → Q (.ref l) (upd H l (.frz ob (.tup ys)))
theorem call_tuple_frz {X : Cx} : CallR X (.type "tuple") (rTupF X.K) := by
  intro pn s σ H xs us Q J r h
  obtain ⟨p, ys, rfl, hs0, q⟩ := h
  obtain ⟨u, rfl, rx⟩ := (vals1 r)
  cases rx
  obtain ⟨its, rv, pl, hz⟩ := J.list hs0
  have hlen := rv.length
  refine call_tuple_list pl.isList (fun h' k0 => ?_) (by simp only [List.size_toArray] <;> omega)
  have J1 : Inv X pn σ H { s with heap := h' } := J.kept (t' := s.toks) k0
  refine ⟨.ref h'.objs.size, _, J1.laid (t' := s.toks) (o := .frz { cls := .type "tuple", data := .seq its.toArray } (.tup ys)) (fun b o e => Heap.get?_push_of_some _ e) (Nat.le_refl _) ?_, rfl, q _ _ (J1.hok.fresh (Nat.le_refl _)) rfl rfl⟩
  exact ⟨Heap.get?_push_size _ rfl, hz, its, rv, IsTup.new _ _⟩
end Sc

/-! the law's draws: a split -/
namespace Sc
open L2 PyProof.Rows PySem PySem.Spec
theorem Mat.snoc {H : Hp} {o q : Addr} {as : List Addr} {rows : List (List Int)} {r : List Int} (h : Mat H o as rows) (hq : LI H q r) (nq : q ∉ as) (no : q ≠ o) : Mat (upd H o (.lst (as.map V.ref ++ [.ref q]))) o (as ++ [q]) (rows ++ [r]) := by
  refine ⟨by rw [upd_same, List.map_append]; rfl, ?_, ?_, by rw [List.length_append, List.length_append, h.len]; rfl, fun j b x e1 e2 => ?_⟩
  · rw [List.nodup_append]
    refine ⟨h.nd, by simp, fun x hx y hy e => ?_⟩
    rw [List.mem_singleton.mp hy] at e
    exact nq (e ▸ hx)
  · intro hm
    rcases List.mem_append.mp hm with z | z
    · exact h.no z
    · exact no (List.mem_singleton.mp z).symm
  · by_cases hj : j < as.length
    · rw [List.getElem?_append_left hj] at e1
      rw [List.getElem?_append_left (by rw [← h.len]; exact hj)] at e2
      have nb : b ≠ o := fun z => h.no (z ▸ List.mem_of_getElem? e1)
      show upd H o _ b = _
      rw [upd_ne nb]
      exact h.at_ j b x e1 e2
    · have hl := h.len
      rw [List.getElem?_append_right (by omega)] at e1
      rw [List.getElem?_append_right (by omega)] at e2
      have e3 : j - as.length = 0 := by
        obtain ⟨z, _⟩ := List.getElem?_eq_some_iff.mp e1
        rw [List.length_singleton] at z
        omega
      rw [e3] at e1
      rw [← hl, e3] at e2
      have x1 : q = b := Option.some.inj e1
      have x2 : r = x := Option.some.inj e2
      rw [← x1, ← x2]
      show upd H o _ q = _
      rw [upd_ne no]
      exact hq
theorem tf_push {H : Hp} {D t : Addr} {ts : List Addr} {rows : List (List Int)} {r : List Int} (hD : H D = some (.lst (ts.map V.ref))) (hT : TA H ts rows) (hN : ∀ b ∈ ts, Nd H b) (ht : TR H t r) (nt : Nd H t) : TF (upd H D (.lst (ts.map V.ref ++ [.ref t]))) D (rows ++ [r]) := by
  obtain ⟨as, e, x⟩ := tl_push hD hT ht
  have ea : as = ts ++ [t] := by
    rw [upd_same] at e
    have e1 := Option.some.inj e
    injection e1 with e2
    have e3 : (ts ++ [t]).map V.ref = as.map V.ref := by
      rw [← e2, List.map_append]
      rfl
    exact ((List.map_inj_right fun _ _ z => by injection z).mp e3).symm
  refine ⟨as, e, x, fun b hb => ?_⟩
  have hn : Nd H b := by
    rw [ea] at hb
    rcases List.mem_append.mp hb with z | z
    · exact hN b z
    · rw [(List.mem_singleton.mp z)]
      exact nt
  obtain ⟨ob, u, y, k⟩ := hn
  exact ⟨ob, u, by rw [upd_ne (fun z => by rw [z, hD] at y; cases y)]; exact y, k⟩
theorem ixN_nat' {n j : Nat} (hj : j < n) : ixN n (j : Int) = some j := by
  unfold ixN
  rw [if_pos (by omega), (if_pos (by omega))]
  simp
theorem rep_flat (m : Nat) : (List.replicate m [V.int 0]).flatten = (List.replicate m (0 : Int)).map V.int := by
  induction m with
  | zero => rfl
  | succ m ih =>
    rw [List.replicate_succ, List.replicate_succ, List.flatten_cons, ih]
    rfl
def rLen (K : PySem.W.Frag) : List V → Hp → VK → Prop := fun xs H Q => ∃ p ys, xs = [.ref p] ∧ (SqL K H p ys ∨ SqT K H p ys) ∧ Q (.int ys.length) H
def rTup (K : PySem.W.Frag) : List V → Hp → VK → Prop := fun xs H Q => ∃ p ys, xs = [.ref p] ∧ ((SqL K H p ys ∧ ∀ l, H l = none → Q (.ref l) (upd H l (.tup ys))) ∨ (SqT K H p ys ∧ Q (.ref p) H))
def rLst (K : PySem.W.Frag) : List V → Hp → VK → Prop := fun xs H Q => ∃ p ys, xs = [.ref p] ∧ (SqL K H p ys ∨ SqT K H p ys) ∧ ∀ l, H l = none → Q (.ref l) (upd H l (.lst ys))
theorem half_at {x y : Int} (way : Int) (h : way = 2 ∨ way = 3) (hx : 0 ≤ x) (hy : 0 ≤ y) : ∃ z : Int, atI [V.int x, .int y] (way - 2) = some (.int z) ∧ 0 ≤ z := by
  rcases h with rfl | rfl
  · exact ⟨x, rfl, hx⟩
  · exact ⟨y, rfl, hy⟩
section
variable {base : Heap} {mg : Str → Option Value} {K : PySem.W.Frag} {w : World} {P : Program}
def spDivided : Sp := fun vs H Q _ => ∃ (a p : Addr) (cs : List Int) (g : Nat), vs = [.ref a, .ref p, .int (g : Int)] ∧ Src H a ∧ TI H p cs ∧ cs.length ≤ 100 ∧ (∀ x ∈ cs, 0 ≤ x ∧ x < 2 ^ 120) ∧ 2 ≤ g ∧ g ≤ 1000 ∧
  ∀ (rows : List (List Int)) (q : Addr) (H' : Hp), rows.length = g → (∀ r ∈ rows, r.length = cs.length ∧ ∀ x ∈ r, 0 ≤ x ∧ x < 2 ^ 120) → cols rows cs.length = cs → But a H H' → H q = none → TF H' q rows → Src H' a → Q (.ref q) H'
abbrev nDivided : List Str := ["_law_source_here", "_law_people_here", "_law_groups", "_law_k", "_law_found", "_law_at", "_law_count", "_law_way", "_law_rest", "_law_part", "_law_row"]
theorem scDivided : FnScope nDivided ["_law_source_here", "_law_people_here", "_law_groups"] (defScope sDivided) := ⟨rfl, rfl, rfl, by decide +kernel, rfl, by decide +kernel, by decide +kernel⟩
theorem ok_divided {f f1 : Addr} {fd fd1 : FuncData} (F : Fun K "_law_divided" "_law_divided" sDivided f fd) (B : Blt mg) (G1 : Cal P w K mg base 2 "_law_take" f1 fd1 ["_law_source_here", "_law_count"] spTake) : FnOk P w K mg base CX0 3 f fd ["_law_source_here", "_law_people_here", "_law_groups"] spDivided := by
  refine F.ok scDivided (fun vs H Q E h => ?_) (fun cdv A outer s H vs Q E hr h => ?_)
  · obtain ⟨a, p, cs, g, rfl, _⟩ := h
    rfl
  · obtain ⟨a, p, cs, g, rfl, ha, hC, hcl, hc, hg2, hg1, q⟩ := h
    refine ⟨_, pss_cons (ps_setLc (i := 4) (own := [("_law_k", 3)]) (g := gName 3) (by rfl) scDivided.nd rfl rfl (sw_true rfl rfl rfl (by decide +kernel)) (pi_range1 (by rfl) B.range (p1 (pv 2)))
        (blkOk_by (own := [("_law_k", 3)]) (N := nDivided) (sc := defScope sDivided) (by decide +kernel)) (fun _ _ _ _ _ => pg_name (i := 3) scDivided.nd rfl (.inl rfl)) (fun _ _ _ _ _ => pts_nil)
        (fun _ _ _ _ _ => pe_op op_rep (pe_lst (p1 pe_int)) (pb (r := rLen K) call_len_seq B.len (p1 (pv 1)))))
      (pss_cons (ps_for PassesOwn.never rfl (pi_enumX false (by rfl) B.enum (p1 (pv 1))) (pg_tup rfl (pgs_cons (pg_name (i := 5) scDivided.nd rfl (.inl rfl)) (pgs_cons (pg_name (i := 6) scDivided.nd rfl (.inl rfl)) pgs_nil)))
        (pss_cons (ps_par (i := 7) (j := 8) (by rfl) scDivided.nd rfl rfl (by decide) rfl rfl (p2 (pc G1 hr (p2 (pv 0) pe_int)) (pv 6)) (by rfl))
        (pss_one (ps_if (pt_cmpR op_eq (pv 7) pe_int (nomark _))
          (pss_one (ps_asg (pv 6) (pg_sub (pe_ix ix_list (pv 4) (pc G1 hr (p2 (pv 0) (pv 2))) (fun _ _ => rfl)) (pv 5) set_list)))
          (pss_one (ps_if (pt_cmpR op_eq (pv 7) pe_int (nomark _))
            (pss_one (ps_for PassesOwn.never rfl (pi_range1 (by rfl) B.range (p1 (pv 2))) (pg_name (i := 3) scDivided.nd rfl (.inl rfl))
              (pss_one (ps_asg (pe_op op_add (pe_op op_fdivW (pv 6) (pv 2)) (pt' call_int1 B.int (p1 (pe_cmpR op_lt (pv 3) (pe_op op_mod (pv 6) (pv 2)) (nomark _))))) (pg_sub (pe_ix ix_list (pv 4) (pv 3) (fun _ _ => rfl)) (pv 5) set_list)))))
            (pss_cons (ps_for PassesOwn.never rfl (pi_range1 (by rfl) B.range (p1 (pb (call_min2 rfl) B.min (p2 (pv 2) pe_int)))) (pg_name (i := 3) scDivided.nd rfl (.inl rfl))
              (pss_cons (ps_set (i := 9) scDivided.nd rfl (.inl rfl) (pe_ix ix_list (pe_lst (p2 (pc G1 hr (p2 (pv 0) pe_int)) (pe_op op_fdiv (pv 8) pe_int))) (pe_op op_sub (pv 7) pe_int) (fun _ _ => rfl)))
              (pss_cons (ps_set (i := 9) scDivided.nd rfl (.inl rfl) (pb (call_min2 rfl) B.min (p2 (pv 9) (pv 8))))
              (pss_cons (ps_augS (pe_ix ix_list (pv 4) (pe_op op_mod (pe_op op_add (pe_op op_mul (pv 3) pe_int) (pv 7)) (pv 2)) (fun _ _ => rfl)) (pv 5) get_list (pv 9) ip_add set_list)
              (pss_one (ps_set (i := 8) scDivided.nd rfl (.inl rfl) (pe_op op_sub (pv 8) (pv 9))))))))
            (pss_one (ps_augS (pe_ix ix_list (pv 4) (pc G1 hr (p2 (pv 0) (pv 2))) (fun _ _ => rfl)) (pv 5) get_list (pv 8) ip_add set_list)))))))))
      (pss_one (ps_ret (pe_lc (own := [("_law_row", 10)]) (g := gName 10) rfl scDivided.nd (pi_list (pv 4)) (blkOk_by (own := [("_law_row", 10)]) (N := nDivided) (sc := defScope sDivided) (by decide +kernel))
        (fun _ _ _ _ _ => pg_name (i := 10) scDivided.nd rfl (.inl rfl)) (fun _ _ _ _ _ => pts_nil) (fun _ _ _ _ _ => pt' (r := rTupF K) call_tuple_frz B.tuple (p1 (pv 10))))))), ?_⟩
    -- the list of lists
    refine ⟨_, rfl, (g : Int), rfl, by omega, by omega, fun o ho => ?_⟩
    refine lc_range (fun i H1 => Same H H1 ∧ ∃ as, Mat H1 o as (List.replicate i (List.replicate cs.length 0)) ∧ ∀ b ∈ as, H b = none) ⟨same_new ho, [], ⟨upd_same, List.nodup_nil, (fun h => nomatch h), rfl, fun _ _ _ h _ => by simp at h⟩, fun _ h => nomatch h⟩ ?_ ?_
    · rintro i H1 hi ⟨s1, as, M, hf⟩
      refine ⟨rfl, (by show 1 ≤ sizeLine; decide), fun t ht => ?_⟩
      have s2 := same_new (o := .lst [.int 0]) ht
      refine ⟨_, rfl, p, cs.map V.int, rfl, .inr (ti_seq (s2 _ _ (s1 _ _ hC))), t, _, [.int 0], rfl, rfl, upd_same, by omega, ?_, ?_, fun z hz => ?_⟩
      · rw [List.length_map]
        omega
      · show 1 * ((cs.map V.int).length : Int).toNat ≤ sizeLine
        rw [List.length_map]
        exact small_line (by omega)
      · have s3 := same_new (o := .lst (List.replicate ((cs.map V.int).length : Int).toNat [V.int 0]).flatten) hz
        have s13 := (s2.trans s3)
        have M3 := M.same s13
        refine ⟨_, M3.lst, ?_, ?_, as ++ [z], ?_, ?_⟩
        · rw [List.length_map, M.len, List.length_replicate]
          exact small_line' (by omega)
        · intro b u hb
          rw [upd_ne (ne_of_none hb ho)]
          exact s13 _ _ (s1 b u hb)
        · rw [List.replicate_succ']
          refine M3.snoc ?_ ?_ ?_
          · show upd _ z _ z = _
            rw [upd_same, rep_flat, List.length_map]
            rfl
          · intro hm
            obtain ⟨j, hj⟩ := (List.getElem?_of_mem hm)
            have hjl := (List.getElem?_eq_some_iff.mp hj).1
            obtain ⟨b, r, x1, x2, x3, _⟩ := (M.same s2).get (j := j) (by rw [← M.len]; exact hjl)
            rw [hj] at x1
            cases x1
            have x5 := hz.symm.trans x3
            cases x5
          · intro e
            have := (M.same s2).lst
            rw [← e, hz] at this
            cases this
        · intro b hb
          rcases List.mem_append.mp hb with y | y
          · exact hf b y
          · rw [List.mem_singleton.mp y]
            exact (s1.trans s2).free hz
    · rintro H1 ⟨s1, as, M, hf⟩
      rw [show ((g : Int) : Int).toNat = g by omega] at M
      have oa : o ≠ a := ha.ne ho
      have na : a ∉ as := fun hm => by
        obtain ⟨u, hu⟩ := src_some ha
        rw [hf a hm] at hu
        cases hu
      have pa : p ≠ a := fun z => by
        rw [z] at hC
        exact ha.nt _ hC
      have gl2 : Lt2 2000 (g : Int) := lt2_small (by omega) (by omega)
      have al : as.length = g := by
        rw [M.len, List.length_replicate]
      -- the columns
      refine ⟨_, rfl, p, cs.map V.int, rfl, ti_seq (s1 _ _ hC), for_it walk_enumX (fun i σ H2 => But a H H2 ∧ Src H2 a ∧ ∃ (rows : List (List Int)) (y3 y5 y6 y7 y8 y9 y10 : Option V), σ = [some (.ref a), some (.ref p), some (.int (g : Int)), y3, some (.ref o), y5, y6, y7, y8, y9, y10] ∧ Mat H2 o as rows ∧ Dn cs g i rows)
        ⟨.of s1, ha.same s1, _, none, none, none, none, none, none, none, rfl, M, Dn.start cs g⟩ (fun i σ H2 _ hp => ti_seq (hp.1 _ _ hC pa)) ?_ ?_⟩
      · rintro i x σ H2 H3 hi ⟨b2, h2, rows, y3, y5, y6, y7, y8, y9, y10, rfl, M2, D2⟩ ⟨T, u, v, rfl, hT, rfl, k1, k2⟩
        have eu : V.int (i : Nat) = u := Option.some.inj k1
        subst eu
        obtain ⟨count, hcount, rfl⟩ := of_int k2
        have hil := (List.getElem?_eq_some_iff.mp hcount).1
        have hcg : gd cs i = count := gd_some hcount
        have hcb := hc count (List.mem_of_getElem? hcount)
        refine ⟨T, [.int (i : Nat), .int count], rfl, SqT.of upd_same, rfl, _, _, rfl, _, _, rfl, rfl, ?_⟩
        have sT := same_new (o := .tup [.int (i : Nat), .int count]) hT
        refine ⟨_, rfl, a, 4, rfl, h2.same sT, by decide, lt2_small (by decide) (by decide), fun way H4 w0 w4 b4 h4 => ?_⟩
        have b24 : But a H2 H4 := (But.of sT).trans b4
        have M4 := M2.but b24 oa na
        have b04 : But a H H4 := b2.trans b24
        refine ⟨_, rfl, _, _, rfl, ?_⟩
        refine ⟨_, rfl, rfl, _, rfl, ite2 (fun ew => ?_) (fun ew => ?_)⟩
        · -- all into one group
          refine ⟨_, rfl, _, rfl, _, rfl, _, rfl, a, (g : Int), rfl, h4, by omega, gl2, fun r H5 r0 r1 b5 h5 => ?_⟩
          have M5 := M4.but b5 oa na
          obtain ⟨b, row, x1, x2, x3, x4⟩ := M5.get (j := r.toNat) (by rw [D2.len]; omega)
          have hrow := List.mem_of_getElem? x2
          refine ⟨o, as.map V.ref, r, .ref b, rfl, rfl, SqL.of M5.lst, at_of (j := r.toNat) (by omega) (at_ref x1), _, rfl, b, _, _, i, rfl, rfl, x3, ixN_nat' (by rw [List.length_map, D2.rlen row hrow]; exact hil), ?_⟩
          refine ⟨(b04.trans b5).mut (hf b x4), h5.set (fun z => na (z ▸ x4)), _, _, _, _, _, _, _, _, rfl, M5.set x1 x2, Col.dn (Col.cast (D2.col.add hil x2 hcb.1) ?_)⟩
          rw [D2.zero i (Nat.le_refl i) row hrow, hcg]
          omega
        · refine ⟨_, rfl, rfl, _, rfl, ite2 (fun ew1 => ?_) (fun ew1 => ?_)⟩
          · -- evenly
            have hm0 := Int.emod_nonneg count (show (g : Int) ≠ 0 by omega)
            have hm1 := Int.emod_lt_of_pos count (show (0 : Int) < g by omega)
            have hdm := Int.mul_ediv_add_emod count (g : Int)
            have hq0 : 0 ≤ count / (g : Int) := Int.ediv_nonneg hcb.1 (by omega)
            refine ⟨_, rfl, (g : Int), rfl, by omega, by omega, for_range (n := (g : Int).toNat) (fun k σ H5 => But a H H5 ∧ Src H5 a ∧ ∃ (rows : List (List Int)) (y3 : Option V), σ = [some (.ref a), some (.ref p), some (.int (g : Int)), y3, some (.ref o), some (.int (i : Nat)), some (.int count), some (.int way), some (.int count), y9, y10] ∧ Mat H5 o as rows ∧
                Col cs g i (count - ((k : Int) * (count / (g : Int)) + (if (k : Int) ≤ count % (g : Int) then (k : Int) else count % (g : Int)))) rows ∧ ∀ (j : Nat) (r : List Int), k ≤ j → rows[j]? = some r → gd r i = 0)
              ⟨b04, h4, rows, y3, rfl, M4, Col.cast D2.col (by rw [hcg]; simp [hm0]), fun j r _ e => D2.zero i (Nat.le_refl i) r (List.mem_of_getElem? e)⟩ ?_ ?_⟩
            · rintro k σ H5 hk ⟨b5, h5, rows5, z3, rfl, M5, C5, Z5⟩
              have hkg : k < g := by omega
              obtain ⟨b, row, x1, x2, x3, x4⟩ := M5.get (j := k) (by rw [C5.len]; exact hkg)
              have hrow := List.mem_of_getElem? x2
              refine ⟨_, rfl, _, rfl, _, _, rfl, rfl, cdiv (by omega) gl2, _, rfl, _, rfl, _, rfl, _, _, rfl, rfl, (by show (0 : Int) < g; omega), _, _, rfl, rfl, .inr ⟨_, rfl, _, _, rfl, rfl, ?_⟩⟩
              refine ⟨_, rfl, _, rfl, o, as.map V.ref, _, .ref b, rfl, rfl, SqL.of M5.lst, at_of (j := k) (by omega) (at_ref x1), _, rfl, b, _, _, i, rfl, rfl, x3, ixN_nat' (by rw [List.length_map, C5.rlen row hrow]; exact hil), ?_⟩
              have hv : 0 ≤ count / (g : Int) + (if decide ((0 : Int) + (k : Nat) < count % (g : Int)) = true then 1 else 0) := by
                split <;> omega
              refine ⟨b5.mut (hf b x4), h5.set (fun z => na (z ▸ x4)), _, _, rfl, M5.set x1 x2, Col.cast (C5.add hil x2 hv) ?_, fun j r hj e => ?_⟩
              · rw [Z5 k row (Nat.le_refl k) x2]
                have e1 : ((k + 1 : Nat) : Int) * (count / (g : Int)) = (k : Int) * (count / (g : Int)) + count / (g : Int) := by
                  rw [Int.natCast_add, Int.add_mul]
                  simp
                have e2 : ((k + 1 : Nat) : Int) = (k : Int) + 1 := by omega
                rw [e1, e2]
                simp only [decide_eq_true_eq]
                split <;> split <;> split <;> omega
              · rw [List.getElem?_set_ne (by omega)] at e
                exact Z5 j r (by omega) e
            · rintro σ H5 ⟨b5, h5, rows5, z3, rfl, M5, C5, Z5⟩
              refine ⟨b5, h5, rows5, _, _, _, _, _, _, _, rfl, M5, Col.dn (Col.cast C5 ?_)⟩
              have eg : (((g : Int).toNat : Nat) : Int) = (g : Int) := by omega
              rw [eg, if_neg (by omega)]
              omega
          · -- bit by bit
            have hway : way = 2 ∨ way = 3 := by
              have n0 : way ≠ 0 := fun z => ew (by rw [z]; rfl)
              have n1 : way ≠ 1 := fun z => ew1 (by rw [z]; rfl)
              omega
            refine ⟨_, rfl, _, _, rfl, _, rfl, (by split <;> omega), (by split <;> omega), for_range (n := (if (12 : Int) < (g : Int) then (12 : Int) else (g : Int)).toNat) (fun k σ H5 => But a H H5 ∧ Src H5 a ∧ ∃ (rows : List (List Int)) (rest : Int) (y3 y9 : Option V), σ = [some (.ref a), some (.ref p), some (.int (g : Int)), y3, some (.ref o), some (.int (i : Nat)), some (.int count), some (.int way), some (.int rest), y9, y10] ∧ Mat H5 o as rows ∧ 0 ≤ rest ∧ Col cs g i rest rows)
              ⟨b04, h4, rows, count, y3, y9, rfl, M4, hcb.1, Col.cast D2.col hcg⟩ ?_ ?_⟩
            · rintro k σ H5 hk ⟨b5, h5, rows5, rest, z3, z9, rfl, M5, hr0, C5⟩
              refine ⟨_, rfl, a, 3, rfl, h5, by decide, lt2_small (by decide) (by decide), fun x1 H6 x10 x11 b6 h6 => ?_⟩
              refine ⟨_, rfl, _, _, rfl, rfl, ⟨by decide, by decide⟩, (by show 2 ≤ sizeLine; decide), fun l hl => ?_⟩
              have s7 := same_new (o := .lst [V.int x1, .int (rest / 2)]) hl
              have b57 : But a H5 (upd H6 l (.lst [V.int x1, .int (rest / 2)])) := b6.thn s7
              have M7 := M5.but b57 oa na
              obtain ⟨part, hpart, hp0⟩ := half_at (x := x1) (y := rest / 2) way hway x10 (by omega)
              refine ⟨_, rfl, _, _, rfl, rfl, l, _, _, _, rfl, rfl, SqL.of upd_same, hpart, ?_⟩
              refine ⟨_, rfl, _, rfl, _, _, rfl, ?_⟩
              dsimp only
              have hm0 : 0 ≤ (if rest < part then rest else part) := by split <;> omega
              have hm1 : (if rest < part then rest else part) ≤ rest := by split <;> omega
              generalize (if rest < part then rest else part) = pt at hm0 hm1
              have hj0 := Int.emod_nonneg (((0 : Int) + (k : Nat)) * 5 + way) (show (g : Int) ≠ 0 by omega)
              have hj1 := Int.emod_lt_of_pos (((0 : Int) + (k : Nat)) * 5 + way) (show (0 : Int) < g by omega)
              obtain ⟨b, row, x1', x2', x3', x4'⟩ := M7.get (j := ((((0 : Int) + (k : Nat)) * 5 + way) % (g : Int)).toNat) (by rw [C5.len]; omega)
              have hrow := List.mem_of_getElem? x2'
              refine ⟨_, rfl, _, rfl, _, _, rfl, rfl, .inr (by decide), _, rfl, _, _, rfl, rfl, _, rfl, _, _, rfl, rfl, (by show (0 : Int) < g; omega), o, as.map V.ref, _, .ref b, rfl, rfl, SqL.of M7.lst, at_of (j := ((((0 : Int) + (k : Nat)) * 5 + way) % (g : Int)).toNat) (by omega) (at_ref x1'), ?_⟩
              refine ⟨_, rfl, b, row.map V.int, i, .int (gd row i), rfl, rfl, li_seq x3', at_int (get_gd (by rw [C5.rlen row hrow]; exact hil)), _, rfl, _, _, rfl, rfl, b, _, _, i, rfl, rfl, x3', ixN_nat' (by rw [List.length_map, C5.rlen row hrow]; exact hil), ?_⟩
              refine ⟨_, rfl, _, rfl, _, _, rfl, rfl, (b5.trans b57).mut (hf b x4'), (h6.same s7).set (fun z => na (z ▸ x4')), _, _, _, _, rfl, M7.set x1' x2', ?_, Col.cast (C5.add (v := gd row i + pt) hil x2' ?_) ?_⟩
              · show 0 ≤ rest - pt
                omega
              · have := C5.nn row hrow i
                omega
              · show rest - (gd row i + pt - gd row i) = rest - pt
                omega
            · rintro σ H5 ⟨b5, h5, rows5, rest, z3, z9, rfl, M5, hr0, C5⟩
              refine ⟨_, rfl, _, rfl, _, rfl, a, (g : Int), rfl, h5, by omega, gl2, fun r H6 r0 r1 b6 h6 => ?_⟩
              have M6 := M5.but b6 oa na
              obtain ⟨b, row, x1, x2, x3, x4⟩ := M6.get (j := r.toNat) (by rw [C5.len]; omega)
              have hrow := List.mem_of_getElem? x2
              refine ⟨o, as.map V.ref, r, .ref b, rfl, rfl, SqL.of M6.lst, at_of (j := r.toNat) (by omega) (at_ref x1), ?_⟩
              refine ⟨_, rfl, b, row.map V.int, i, .int (gd row i), rfl, rfl, li_seq x3, at_int (get_gd (by rw [C5.rlen row hrow]; exact hil)), _, rfl, _, _, rfl, rfl, b, _, _, i, rfl, rfl, x3, ixN_nat' (by rw [List.length_map, C5.rlen row hrow]; exact hil), ?_⟩
              refine ⟨(b5.trans b6).mut (hf b x4), h6.set (fun z => na (z ▸ x4)), _, _, _, _, _, _, _, _, rfl, M6.set x1 x2, Col.dn (Col.cast (C5.add (v := gd row i + rest) hil x2 ?_) ?_)⟩
              · have := C5.nn row hrow i
                omega
              · omega
      · rintro σ H2 ⟨b2, h2, rows, y3, y5, y6, y7, y8, y9, y10, rfl, M2, D2⟩
        rw [List.length_map] at D2
        -- the rows as tuples
        refine ⟨_, rfl, o, rfl, ⟨_, SqL.of M2.lst⟩, fun Dr hDr => ?_⟩
        refine lc_list (K := K) (a := o) (xs := as.map V.ref) (fun j H3 => Same H2 H3 ∧ TF H3 Dr (rows.take j)) ⟨same_new hDr, ⟨[], upd_same, TA.nil, fun _ h => nomatch h⟩⟩ (fun j H3 _ hp => SqL.of (hp.1 _ _ M2.lst)) ?_ ?_
        · rintro j x H3 hx ⟨s3, ts, e3, t3, n3⟩
          obtain ⟨b, hb, rfl⟩ := of_ref hx
          have hj := (List.getElem?_eq_some_iff.mp hb).1
          have hjr : j < rows.length := by
            rw [← M2.len]
            exact hj
          have hg := List.getElem?_eq_getElem hjr
          refine ⟨rfl, _, rfl, b, _, rfl, li_seq (s3 _ _ (M2.at_ j b _ hb hg)), fun t ob ht ob1 ob2 => ?_⟩
          have s4 := same_new (o := .frz ob (.tup (rows[j].map V.int))) ht
          refine ⟨_, s4 _ _ e3, ?_, ?_, ?_⟩
          · rw [List.length_map, t3.1, List.length_take, D2.len]
            exact small_line' (by omega)
          · intro c u hc
            rw [upd_ne (ne_of_none hc hDr)]
            exact s4 _ _ (s3 c u hc)
          · rw [take_snoc hg]
            exact tf_push (s4 _ _ e3) (t3.same s4) (fun b hb => (n3 b hb).same s4) ⟨_, .inr ⟨ob, rfl⟩, upd_same⟩ ⟨ob, _, upd_same, ob1, ob2⟩
        · rintro H3 ⟨s3, e3⟩
          rw [List.length_map, M2.len, List.take_length] at e3
          exact q rows Dr H3 D2.len (fun r hr => ⟨D2.rlen r hr, D2.cnt hc r hr⟩) D2.cols (b2.thn s3) (b2.free (.inr (h2.ne hDr)) hDr) e3 (h2.same s3)
end
end Sc

/-! the law's scene -/
namespace Sc
open L2 PyProof.Rows PySem PySem.Spec
structure Scn (E cs : List Int) (rows : List (List Int)) : Prop where
  S : Spl E cs rows
  el : E.length ≤ 13
  cl : cs.length ≤ 14
  cb : ∀ x ∈ cs, 0 ≤ x ∧ x < 2 ^ 120
  rb : ∀ r ∈ rows, ∀ x ∈ r, 0 ≤ x ∧ x < 2 ^ 120
  rl : rows.length ≤ 31
theorem three_at (r : Int) (h0 : 0 ≤ r) (h3 : r < 3) : ∃ x : Int, atI [V.int 3, .int 3, .int 30] r = some (.int x) ∧ 3 ≤ x ∧ x ≤ 30 := by
  have : r = 0 ∨ r = 1 ∨ r = 2 := by omega
  rcases this with rfl | rfl | rfl
  · exact ⟨3, rfl, by decide, by decide⟩
  · exact ⟨3, rfl, by decide, by decide⟩
  · exact ⟨30, rfl, by decide, by decide⟩
theorem lt2_120 {x : Int} (h : 0 ≤ x ∧ x < 2 ^ 120) : 0 ≤ x ∧ Lt2 200 x := ⟨h.1, Lt2.mono (a := 120) (by unfold Lt2; omega) (by decide)⟩
section
variable {base : Heap} {mg : Str → Option Value} {K : PySem.W.Frag} {w : World} {P : Program}
def spScene : Sp := fun vs H Q _ => ∃ a : Addr, vs = [.ref a] ∧ Src H a ∧ ∀ (E cs : List Int) (rows : List (List Int)) (t e p r : Addr) (H' : Hp), Scn E cs rows → But a H H' → H' t = some (.tup [.ref e, .ref p, .ref r]) → LI H' e E → TI H' p cs → TF H' r rows → e ≠ a → r ≠ a → Src H' a → Q (.ref t) H'
theorem scScene : FnScope ["_law_source_here", "_law_entries", "_law_people_here"] ["_law_source_here"] (defScope sScene) := ⟨rfl, rfl, rfl, by decide +kernel, rfl, by decide +kernel, by decide +kernel⟩
theorem ok_scene {f f1 f2 f3 f4 : Addr} {fd fd1 fd2 fd3 fd4 : FuncData} (F : Fun K "_law_scene" "_law_scene" sScene f fd) (G1 : Cal P w K mg base 2 "_law_take" f1 fd1 ["_law_source_here", "_law_count"] spTake) (G2 : Cal P w K mg base 3 "_law_rounds" f2 fd2 ["_law_source_here", "_law_high"] spRounds)
    (G3 : Cal P w K mg base 4 "_law_people" f3 fd3 ["_law_source_here", "_law_high"] spPeople) (G4 : Cal P w K mg base 3 "_law_divided" f4 fd4 ["_law_source_here", "_law_people_here", "_law_groups"] spDivided) : FnOk P w K mg base CX0 5 f fd ["_law_source_here"] spScene := by
  refine F.ok scScene (fun vs H Q E h => ?_) (fun cdv A outer s H vs Q E hr h => ?_)
  · obtain ⟨a, rfl, _⟩ := h
    rfl
  · obtain ⟨a, rfl, ha, q⟩ := h
    have hr2 : Room 2 _ := Room.mono hr (by decide)
    have hr3 : Room 3 _ := Room.mono hr (by decide)
    refine ⟨_, pss_cons (ps_set (i := 1) scScene.nd rfl (.inl rfl) (pe_op op_catR (pe_lst (p1 (pe_op op_add pe_int (pc G1 hr2 (p2 (pv 0) (pe_ix ix_list (pe_lst (p3 pe_int pe_int pe_int)) (pc G1 hr2 (p2 (pv 0) pe_int)) (fun _ _ => rfl))))))) (pc G2 hr3 (p2 (pv 0) pe_int))))
      (pss_cons (ps_set (i := 2) scScene.nd rfl (.inl rfl) (pc G3 hr (p2 (pv 0) pe_int)))
      (pss_one (ps_ret (pe_tup (p3 (pv 1) (pv 2) (pc G4 hr3 (p3 (pv 0) (pv 2) (pe_ix ix_list (pv 1) pe_int (fun _ _ => rfl))))))))), ?_⟩
    refine ⟨_, rfl, (by show 3 ≤ sizeLine; decide), fun l1 hl1 => ?_⟩
    have n1 := ha.ne hl1
    have b1 : But a H (upd H l1 (.lst [.int 3, .int 3, .int 30])) := .of (same_new hl1)
    have h1 : Src (upd H l1 (.lst [.int 3, .int 3, .int 30])) a := ha.set n1
    refine ⟨_, rfl, a, 3, rfl, h1, by decide, lt2_small (by decide) (by decide), fun x1 H2 x10 x11 b2 h2 => ?_⟩
    obtain ⟨v, hv, v3, v30⟩ := three_at x1 x10 x11
    refine ⟨l1, _, x1, _, rfl, rfl, SqL.of (b2 _ _ upd_same n1), hv, a, v, rfl, h2, by omega, lt2_small (by omega) (by omega), fun x2 H3 x20 x21 b3 h3 => ?_⟩
    refine ⟨2, x2, rfl, rfl, (by show 1 ≤ sizeLine; decide), fun l2 hl2 => ?_⟩
    have n2 := h3.ne hl2
    have s4 := same_new (o := .lst [.int (2 + x2)]) hl2
    have b13 := (b1.trans b2).trans b3
    refine ⟨_, rfl, a, 12, rfl, h3.same s4, by decide, by decide, fun E' l3 H5 hl5 hE' b5 hl3 e5 h5 => ?_⟩
    have b15 := (b13.thn s4).trans b5
    have e2 := b5 _ _ (upd_same (H := H3) (a := l2)) n2
    refine ⟨l2, l3, [.int (2 + x2)], E'.map V.int, rfl, rfl, SqL.of e2, li_seq e5, ?_, fun l4 hl4 => ?_⟩
    · rw [List.length_map]
      show 1 + E'.length ≤ sizeLine
      exact small_line (by omega)
    have n4 := h5.ne hl4
    have e4 : LI (upd H5 l4 (.lst ([.int (2 + x2)] ++ E'.map V.int))) l4 ((2 + x2) :: E') := upd_same
    have s6 := same_new (o := .lst ([.int (2 + x2)] ++ E'.map V.int)) hl4
    have hEnt : Ent ((2 + x2) :: E') := by
      intro y hy
      rcases (List.mem_cons.mp hy) with z | z
      · rw [z]
        omega
      · exact hE' y z
    generalize upd H5 l4 (.lst ([.int (2 + x2)] ++ E'.map V.int)) = H6 at e4 s6 ⊢
    have b16 := b15.thn s6
    have h6 := h5.same s6
    refine ⟨_, rfl, a, 14, rfl, h6, by decide, by decide, fun cs p H7 hcl hcb b7 hp e7 h7 => ?_⟩
    have b17 := b16.trans b7
    have e47 := b7 _ _ e4 n4
    refine ⟨_, rfl, _, rfl, _, rfl, _, rfl, _, rfl, l4, _, 0, _, rfl, rfl, li_seq e47, at_of (j := 0) rfl (at_int (j := 0) rfl), a, p, cs, (2 + x2).toNat, ?_, h7, e7, by omega, hcb, by omega, by omega, fun rows r H8 hrl hrows hcol b8 hrn hT h8 => ?_⟩
    · rw [show (((2 + x2).toNat : Nat) : Int) = 2 + x2 by omega]
      rfl
    refine ⟨(by show 3 ≤ sizeLine; decide), fun t ht => ?_⟩
    have s9 := same_new (o := .tup [.ref l4, .ref p, .ref r]) ht
    have pa : p ≠ a := fun z => h7.nt _ (z ▸ e7)
    have ra : r ≠ a := h7.ne hrn
    refine q ((2 + x2) :: E') cs rows t l4 p r _ ⟨⟨hEnt, List.cons_ne_nil _ _, ?_, ?_, by omega, by omega, fun x hx => (hrows x hx).1, fun x hx y hy => lt2_120 ((hrows x hx).2 y hy), fun x hx => (hcb x hx).1, hcol⟩, ?_, by omega, hcb, fun x hx => (hrows x hx).2, by omega⟩ ((b17.trans b8).thn s9) upd_same (s9 _ _ (b8 _ _ e47 n4)) (s9 _ _ (b8 _ _ e7 pa)) (hT.same s9) n4 ra (h8.same s9)
    · rw [List.length_cons]
      omega
    · show some (2 + x2) = some (rows.length : Int)
      rw [hrl, show (((2 + x2).toNat : Nat) : Int) = 2 + x2 by omega]
    · rw [List.length_cons]
      omega
end
end Sc

/-! orders: the mathematics; tuples picked in an order -/
namespace Sc
open L2 PyProof.Rows PySem PySem.Spec
def pick {α : Type} (l : List α) (d : α) (ord : List Nat) : List α := ord.map fun k => l.getD k d
theorem pick_range {α : Type} (l : List α) (d : α) : pick l d (List.range l.length) = l := by
  apply List.ext_getElem?
  intro k
  unfold pick
  rw [List.getElem?_map]
  by_cases hk : k < l.length
  · rw [List.getElem?_range hk, List.getElem?_eq_getElem hk]
    show some (l.getD k d) = some l[k]
    rw [List.getD_eq_getElem?_getD, List.getElem?_eq_getElem hk]
    rfl
  · rw [List.getElem?_eq_none (by rw [List.length_range]; omega), List.getElem?_eq_none (by omega)]
    rfl
theorem pick_perm {α : Type} {l : List α} {d : α} {ord : List Nat} (h : ord.Perm (List.range l.length)) : (pick l d ord).Perm l := by
  have := h.map fun k => l.getD k d
  exact this.trans (List.Perm.of_eq (pick_range l d))
theorem pick_map {α β : Type} (f : α → β) {l : List α} {d : α} {d' : β} {ord : List Nat} (h : ∀ k ∈ ord, k < l.length) : pick (l.map f) d' ord = (pick l d ord).map f := by
  unfold pick
  rw [List.map_map]
  refine List.map_congr_left fun k hk => ?_
  have hkl := h k hk
  show (l.map f).getD k d' = f (l.getD k d)
  rw [List.getD_eq_getElem?_getD, List.getD_eq_getElem?_getD, List.getElem?_map, List.getElem?_eq_getElem hkl]
  rfl
/-- an order of 0 .. n - 1, as numbers -/
theorem ord_of {ms : List Int} {n : Nat} (h : ms.Perm ((List.range n).map fun i => (0 : Int) + (i : Nat))) : ∃ ord : List Nat, ord.Perm (List.range n) ∧ ms = ord.map (fun k : Nat => (k : Int)) := by
  refine ⟨ms.map Int.toNat, ?_, ?_⟩
  · have h1 := h.map Int.toNat
    rw [List.map_map] at h1
    refine h1.trans (List.Perm.of_eq ?_)
    have : (Int.toNat ∘ fun i : Nat => (0 : Int) + (i : Nat)) = id := by
      funext i
      show ((0 : Int) + (i : Nat)).toNat = i
      omega
    rw [this, List.map_id]
  · rw [List.map_map]
    have : ∀ x ∈ ms, ((fun k : Nat => (k : Int)) ∘ Int.toNat) x = x := fun x hx => by
      have hm := h.mem_iff.mp hx
      obtain ⟨i, _, e⟩ := List.mem_map.mp hm
      show ((x.toNat : Nat) : Int) = x
      omega
    have e := List.map_congr_left this
    rw [e]
    simp
theorem TA.pick {H : Hp} {as : List Addr} {rows : List (List Int)} (h : TA H as rows) {ord : List Nat} (ho : ∀ k ∈ ord, k < rows.length) : TA H (pick as 0 ord) (pick rows [] ord) := by
  refine ⟨by unfold Sc.pick; rw [List.length_map, List.length_map], fun j a r e1 e2 => ?_⟩
  unfold Sc.pick at e1 e2
  rw [List.getElem?_map] at e1 e2
  cases ek : ord[j]? with
  | none =>
    rw [ek] at e1
    cases e1
  | some k =>
    rw [ek] at e1 e2
    have x1 : as.getD k 0 = a := Option.some.inj e1
    have x2 : rows.getD k [] = r := Option.some.inj e2
    have hk := ho k (List.mem_of_getElem? ek)
    have hk' : k < as.length := by rw [h.1]; exact hk
    rw [List.getD_eq_getElem?_getD, List.getElem?_eq_getElem hk'] at x1
    rw [List.getD_eq_getElem?_getD, List.getElem?_eq_getElem hk] at x2
    exact h.2 k a r (by rw [List.getElem?_eq_getElem hk']; exact congrArg some x1) (by rw [List.getElem?_eq_getElem hk]; exact congrArg some x2)
theorem Spl.perm {E cs : List Int} {rows rows' : List (List Int)} (S : Spl E cs rows) (h : rows'.Perm rows) : Spl E cs rows' :=
  ⟨S.ent, S.ne, S.len, by rw [h.length_eq]; exact S.g, by rw [h.length_eq]; exact S.rl, S.cl, fun r hr => S.rlen r (h.mem_iff.mp hr), fun r hr => S.cnt r (h.mem_iff.mp hr), S.cc, by rw [cols_perm h]; exact S.col⟩
/-- the least (greatest) of the same numbers is the same -/
theorem ext_eq {le : Int → Int → Prop} (anti : ∀ a b, le a b → le b a → a = b) {xs ys : List Int} (h : xs.Perm ys) {i j : Nat} {a b : Int} (h1 : xs[i]? = some a) (h2 : ∀ y ∈ xs, le a y) (h3 : ys[j]? = some b) (h4 : ∀ y ∈ ys, le b y) : a = b :=
  anti a b (h2 b (h.mem_iff.mpr (List.mem_of_getElem? h3))) (h4 a (h.mem_iff.mp (List.mem_of_getElem? h1)))
/-! ### sizes of the sums -/
theorem sum_lt2 {a : Nat} : ∀ {xs : List Int}, (∀ x ∈ xs, Lt2 a x) → Lt2 (a + xs.length) xs.sum
  | [], _ => Lt2.zero
  | x :: xs, h => by
    have h1 := sum_lt2 (xs := xs) fun y hy => h y (List.mem_cons_of_mem _ hy)
    have h2 := (h x List.mem_cons_self).mono (b := a + xs.length) (by omega)
    rw [List.sum_cons]
    exact (h2.add h1).mono (by rw [List.length_cons]; omega)
theorem floor_lt2 {a : Nat} {x p : Int} (h0 : 0 ≤ x) (hp : 0 < p) (h : Lt2 a x) : Lt2 a (x / p) := Lt2.of_le (Int.ediv_nonneg h0 (Int.le_of_lt hp)) (Int.ediv_le_self p h0) h
theorem ceil_lt2 {a : Nat} {x p : Int} (h0 : 0 ≤ x) (hp : 0 < p) (h : Lt2 a x) : Lt2 a (-((-x) / p)) := by
  have h1 : -x ≤ (-x) / p := by
    refine Int.le_ediv_of_mul_le hp ?_
    have : x * 1 ≤ x * p := Int.mul_le_mul_of_nonneg_left (by omega) h0
    rw [Int.neg_mul]
    omega
  have h2 : (-x) / p ≤ 0 := by
    have := Int.ediv_le_ediv hp (show -x ≤ 0 by omega)
    rw [Int.zero_ediv] at this
    exact this
  exact Lt2.of_le (by omega) (show -((-x) / p) ≤ x by omega) h
theorem W_lt2 {E cs : List Int} {rows : List (List Int)} (S : Spl E cs rows) {r : List Int} (hr : r ∈ rows) : Lt2 1502 (WW E r) :=
  (Wf_lt2 (f := gd r) S.ent fun k => ((S.cnt r hr).gd k).2).mono (by have := S.len; omega)
theorem W_nn {E cs : List Int} {rows : List (List Int)} (S : Spl E cs rows) {r : List Int} (hr : r ∈ rows) : 0 ≤ WW E r := Wf_nonneg S.ent fun k => ((S.cnt r hr).gd k).1
theorem low_lt2 {E cs : List Int} {rows : List (List Int)} (S : Spl E cs rows) : Lt2 2502 (lowS E rows) := by
  refine (sum_lt2 (a := 1502) fun x hx => ?_).mono ?_
  · obtain ⟨r, hr, rfl⟩ := List.mem_map.mp hx
    exact floor_lt2 (W_nn S hr) (pr_pos (S.ent.drop 1)) (W_lt2 S hr)
  · rw [List.length_map]
    have := S.rl
    omega
theorem high_lt2 {E cs : List Int} {rows : List (List Int)} (S : Spl E cs rows) : Lt2 2502 (highS E rows) := by
  refine (sum_lt2 (a := 1502) fun x hx => ?_).mono ?_
  · obtain ⟨r, hr, rfl⟩ := List.mem_map.mp hx
    exact ceil_lt2 (W_nn S hr) (pr_pos (S.ent.drop 1)) (W_lt2 S hr)
  · rw [List.length_map]
    have := S.rl
    omega
theorem W_tot {E cs : List Int} {rows : List (List Int)} (S : Spl E cs rows) : WW E cs = (rows.map (WW E)).sum := by
  have h := W_cols (E := E) (rows := rows) (m := cs.length) S.rlen
  rw [S.col] at h
  exact h
theorem tot_lt2 {E cs : List Int} {rows : List (List Int)} (S : Spl E cs rows) : 0 ≤ WW E cs ∧ Lt2 2502 (WW E cs) := by
  refine ⟨Wf_nonneg S.ent fun k => ?_, ?_⟩
  · show 0 ≤ cs.getD k 0
    rw [@List.getD_eq_getElem?_getD]
    cases e : cs[k]? with
    | none => exact Int.le_refl 0
    | some x => exact S.cc x (List.mem_of_getElem? e)
  · rw [W_tot S]
    refine (sum_lt2 (a := 1502) fun x hx => ?_).mono ?_
    · obtain ⟨r, hr, rfl⟩ := List.mem_map.mp hx
      exact W_lt2 S hr
    · rw [List.length_map]
      have := S.rl
      omega
theorem div_lt2 {a : Nat} {x g : Int} (h0 : 0 ≤ x) (hg : 0 < g) (h : Lt2 a x) : Lt2 a (x / g) := floor_lt2 h0 hg h
end Sc

/-! what the law's three parts take; rows that are moved; slices and sums of tuples -/
namespace Sc
open L2 PyProof.Rows PySem PySem.Spec
/-- what the law's parts take -/
structure ArgsL (vs : List V) (H : Hp) (a e p r : Addr) (E cs : List Int) (rows : List (List Int)) : Prop where
  vs : vs = [.ref a, .ref e, .ref p, .ref r]
  src : Src H a
  hE : LI H e E
  hC : TI H p cs
  hR : TF H r rows
  C : Scn E cs rows
  ea : e ≠ a
  ra : r ≠ a
def spPart : Sp := fun vs H Q _ => ∃ (a e p r : Addr) (E cs : List Int) (rows : List (List Int)), ArgsL vs H a e p r E cs rows ∧ ∀ H', But a H H' → Src H' a → Q (.bl true) H'
theorem same_refl (H : Hp) : Same H H := fun _ _ e => e
/-! ### slices and sums of tuples of ints -/
theorem slA_to {K : PySem.W.Frag} {H : Hp} {a : Addr} {xs : List Int} {n : Nat} {Q : VK} (h : TR H a xs) (q : ∀ b H', Same H H' → TR H' b (xs.take n) → Q (.ref b) H') : rSlA K (.ref a) none (some (n : Int)) H Q := by
  refine ⟨a, xs.map V.int, rfl, h.seq, fun ⟨_, e⟩ => ?_, fun _ p hp => ?_⟩
  · rw [HT.sIx_nat, List.length_map] at e
    refine q a H (same_refl H) ?_
    rw [List.take_of_length_le (by omega)]
    exact h
  · refine q p _ (same_new hp) (.of ?_)
    show upd _ p _ p = _
    rw [upd_same, cut_to, List.map_take]
theorem slA_from {K : PySem.W.Frag} {H : Hp} {a : Addr} {xs : List Int} {n : Nat} {Q : VK} (h : TR H a xs) (q : ∀ b H', Same H H' → TR H' b (xs.drop n) → Q (.ref b) H') : rSlA K (.ref a) (some (n : Int)) none H Q := by
  refine ⟨a, xs.map V.int, rfl, h.seq, fun ⟨e, _⟩ => ?_, fun _ p hp => ?_⟩
  · rw [HT.sIx_nat, List.length_map] at e
    refine q a H (same_refl H) ?_
    by_cases hn : n = 0
    · rw [hn]
      exact h
    · have : xs.length = 0 := by omega
      rw [List.eq_nil_of_length_eq_zero this, List.drop_nil]
      rw [List.eq_nil_of_length_eq_zero this] at h
      exact h
  · refine q p _ (same_new hp) (.of ?_)
    show upd _ p _ p = _
    rw [upd_same, cut_from, List.map_drop]
theorem catA_ti {K : PySem.W.Frag} {H : Hp} {a b : Addr} {xs ys : List Int} {Q : VK} (ha : TR H a xs) (hb : TR H b ys) (hz : xs.length + ys.length ≤ 100000) (q : ∀ p H', Same H H' → TR H' p (xs ++ ys) → Q (.ref p) H') : rCatA K (.ref a) (.ref b) H Q := by
  refine ⟨a, b, xs.map V.int, ys.map V.int, rfl, rfl, ha.seq, hb.seq, by rw [List.length_map, List.length_map]; exact small_line hz, fun e => ?_, fun _ e => ?_, fun _ _ p hp => ?_⟩
  · refine q b H (same_refl H) ?_
    rw [List.map_eq_nil_iff.mp e]
    exact hb
  · refine q a H (same_refl H) ?_
    rw [List.map_eq_nil_iff.mp e, List.append_nil]
    exact ha
  · refine q p _ (same_new hp) (.of ?_)
    show upd _ p _ p = _
    rw [upd_same, List.map_append]
/-! ### wide rows -/
def wd (n : Nat) (r : List Int) : List Int := r.take n ++ List.replicate (n - r.length) 0
theorem wd_len (n : Nat) (r : List Int) : (wd n r).length = n := by
  unfold wd
  rw [List.length_append, List.length_take, List.length_replicate]
  omega
theorem wd_mem {n : Nat} {r : List Int} {x : Int} (h : x ∈ wd n r) : x ∈ r ∨ x = 0 := by
  rcases List.mem_append.mp h with z | z
  · exact .inl (List.mem_of_mem_take z)
  · exact .inr (List.mem_replicate.mp z).2
theorem gd_wd {n k : Nat} {r : List Int} (hk : k < n) : gd (wd n r) k = gd r k := by
  show (wd n r).getD k 0 = r.getD k 0
  rw [List.getD_eq_getElem?_getD, List.getD_eq_getElem?_getD]
  unfold wd
  by_cases hr : k < r.length
  · rw [List.getElem?_append_left (by rw [List.length_take]; omega), List.getElem?_take_of_lt hk]
  · rw [List.getElem?_append_right (by rw [List.length_take]; omega), List.getElem?_replicate, List.getElem?_eq_none (by omega : r.length ≤ k)]
    split <;> rfl
theorem W_wd {E r : List Int} : WW E (wd E.length r) = WW E r := Wf_congr fun _ hk => gd_wd hk
theorem gd_app {r : List Int} {x : Int} {k : Nat} (hk : k < r.length) : gd (r ++ [x]) k = gd r k := by
  show (r ++ [x]).getD k 0 = r.getD k 0
  rw [List.getD_eq_getElem?_getD, List.getD_eq_getElem?_getD, List.getElem?_append_left hk]
theorem W_app {E r : List Int} {x : Int} (h : r.length = E.length) : WW E (r ++ [x]) = WW E r := Wf_congr fun _ hk => gd_app (by rw [h]; exact hk)
theorem W_set {E r : List Int} {k : Nat} {d : Int} (hk : k < r.length) : WW E (r.set k (gd r k + d)) = WW E r + d * co E k :=
  Wf_at E (gd r) (gd (r.set k (gd r k + d))) k d (fun j hj => by rw [gd_set hk, if_neg hj]) (by rw [gd_set hk, if_pos rfl])
theorem W_move {E r : List Int} {k : Nat} {e m : Int} (hr : r.length = E.length) (he : E[k + 1]? = some e) : WW E ((r.set k (gd r k - m)).set (k + 1) (gd (r.set k (gd r k - m)) (k + 1) + m * e)) = WW E r := by
  have hk : k + 1 < E.length := (List.getElem?_eq_some_iff.mp he).1
  have h1 : WW E (r.set k (gd r k - m)) = WW E r + -m * co E k := W_set (d := -m) (by omega)
  rw [W_set (d := m * e) (by rw [List.length_set]; omega), h1, co_step he, Int.neg_mul, Int.mul_assoc]
  omega
structure Wd (E ws : List Int) (k : Nat) (rows : List (List Int)) : Prop where
  rlen : ∀ r ∈ rows, r.length = E.length
  bd : ∀ r ∈ rows, ∀ x ∈ r, 0 ≤ x ∧ x < 2 ^ 120 + (k : Int) * 2 ^ 100
  W : rows.map (WW E) = ws
theorem gd_mem {r : List Int} {k : Nat} (h : k < r.length) : gd r k ∈ r := List.mem_of_getElem? (get_gd h)
theorem Wd.move {E ws : List Int} {k j : Nat} {rows : List (List Int)} {r : List Int} {e m : Int} (h : Wd E ws k rows) (hr : rows[j]? = some r) (he : E[k + 1]? = some e) (he2 : 0 ≤ e ∧ e < 2 ^ 64) (m0 : 0 ≤ m) (m1 : m ≤ gd r k) (m2 : m ≤ 1000000000) :
    Wd E ws (k + 1) (rows.set j ((r.set k (gd r k - m)).set (k + 1) (gd (r.set k (gd r k - m)) (k + 1) + m * e))) := by
  have hm := List.mem_of_getElem? hr
  have hl := h.rlen r hm
  have hk : k + 1 < E.length := (List.getElem?_eq_some_iff.mp he).1
  have hb : ∀ x : Int, 0 ≤ x ∧ x < 2 ^ 120 + (k : Int) * 2 ^ 100 → 0 ≤ x ∧ x < 2 ^ 120 + ((k + 1 : Nat) : Int) * 2 ^ 100 := fun x hx => by
    refine ⟨hx.1, ?_⟩
    have : ((k + 1 : Nat) : Int) = (k : Int) + 1 := by omega
    rw [this]
    omega
  have hme0 : 0 ≤ m * e := Int.mul_nonneg m0 he2.1
  have hme : m * e < 2 ^ 100 := by
    have x1 : m * e ≤ 1000000000 * e := Int.mul_le_mul_of_nonneg_right m2 he2.1
    omega
  refine ⟨fun x hx => ?_, fun x hx y hy => ?_, ?_⟩
  · rcases mem_set hx with z | z
    · rw [z, List.length_set, List.length_set]
      exact hl
    · exact h.rlen x z
  · rcases mem_set hx with z | z
    · rw [z] at hy
      rcases mem_set hy with y1 | y1
      · have hg := h.bd r hm _ (gd_mem (k := k + 1) (by omega))
        rw [y1, gd_set (by omega), if_neg (by omega)]
        have : ((k + 1 : Nat) : Int) = (k : Int) + 1 := by omega
        rw [this]
        omega
      · rcases mem_set y1 with y2 | y2
        · have hg := h.bd r hm _ (gd_mem (k := k) (by omega))
          rw [y2]
          refine hb _ ⟨by omega, by omega⟩
        · exact hb y (h.bd r hm y y2)
    · exact hb y (h.bd x z y hy)
  · rw [List.map_set, W_move hl he, ← h.W]
    apply List.ext_getElem?
    intro i
    by_cases hi : i = j
    · subst hi
      rw [List.getElem?_set_self (by rw [List.length_map]; exact (List.getElem?_eq_some_iff.mp hr).1), List.getElem?_map, hr]
      rfl
    · rw [List.getElem?_set_ne (Ne.symm hi)]
theorem Wd.start {E cs : List Int} {rows : List (List Int)} (h : ∀ r ∈ rows, ∀ x ∈ r, 0 ≤ x ∧ x < 2 ^ 120) : Wd E (rows.map (WW E)) 0 (rows.map (wd E.length)) := by
  refine ⟨fun r hr => ?_, fun r hr x hx => ?_, ?_⟩
  · obtain ⟨q, _, rfl⟩ := List.mem_map.mp hr
    exact wd_len _ _
  · obtain ⟨q, hq, rfl⟩ := List.mem_map.mp hr
    rcases wd_mem hx with z | z
    · have := h q hq x z
      omega
    · omega
  · rw [List.map_map]
    exact List.map_congr_left fun r _ => W_wd
/-- .. and one place more in every row -/
structure Sm (E ws : List Int) (rows : List (List Int)) : Prop where
  rlen : ∀ r ∈ rows, r.length = E.length + 1
  bd : ∀ r ∈ rows, ∀ x ∈ r, 0 ≤ x ∧ x < 2 ^ 121
  W : rows.map (WW E) = ws
theorem Sm.snoc {E ws : List Int} {rows : List (List Int)} {r : List Int} {x : Int} (h : Sm E ws rows) (hl : r.length = E.length) (hb : ∀ y ∈ r, 0 ≤ y ∧ y < 2 ^ 121) (hx : 0 ≤ x ∧ x < 5) : Sm E (ws ++ [WW E r]) (rows ++ [r ++ [x]]) := by
  refine ⟨fun q hq => ?_, fun q hq y hy => ?_, ?_⟩
  · rcases List.mem_append.mp hq with z | z
    · exact h.rlen q z
    · rw [List.mem_singleton.mp z, List.length_append, hl]
      rfl
  · rcases List.mem_append.mp hq with z | z
    · exact h.bd q z y hy
    · rw [List.mem_singleton.mp z] at hy
      rcases List.mem_append.mp hy with z2 | z2
      · exact hb y z2
      · rw [List.mem_singleton.mp z2]
        omega
  · rw [List.map_append, h.W]
    show ws ++ [WW E (r ++ [x])] = _
    rw [W_app hl]
theorem csum_nn {k : Nat} : ∀ {rows : List (List Int)}, (∀ r ∈ rows, 0 ≤ gd r k) → 0 ≤ csum rows k
  | [], _ => Int.le_refl 0
  | y :: ys, h => (le_csum (rows := y :: ys) h y List.mem_cons_self).2
theorem gd_nn {r : List Int} (h : ∀ x ∈ r, 0 ≤ x) (k : Nat) : 0 ≤ gd r k := by
  by_cases hk : k < r.length
  · exact h _ (gd_mem hk)
  · rw [gd_out (by omega)]
    exact Int.le_refl 0
theorem Sm.spl {E cs : List Int} {rows rows' : List (List Int)} (S : Spl E cs rows) (el : E.length ≤ 13) (h : Sm E (rows.map (WW E)) rows') : Spl E (cols rows' (E.length + 1)) rows' := by
  have hn : rows'.length = rows.length := by
    have := congrArg List.length h.W
    rw [List.length_map, List.length_map] at this
    exact this
  have hc : (cols rows' (E.length + 1)).length = E.length + 1 := by
    unfold cols
    rw [@List.length_map, List.length_range]
  refine ⟨S.ent, S.ne, S.len, by rw [hn]; exact S.g, by rw [hn]; exact S.rl, by omega, fun r hr => by rw [hc]; exact h.rlen r hr, fun r hr x hx => ⟨(h.bd r hr x hx).1, Lt2.mono (a := 121) (by have := h.bd r hr x hx; unfold Lt2; omega) (by decide)⟩, fun x hx => ?_, by rw [hc]⟩
  unfold cols at hx
  obtain ⟨k, _, rfl⟩ := List.mem_map.mp hx
  exact csum_nn fun r hr => gd_nn (fun y hy => (h.bd r hr y hy).1) k
/-- the values are the weights', no more -/
theorem val_eq {E : List Int} {rows rows' : List (List Int)} (h : rows'.map (WW E) = rows.map (WW E)) : rows'.map (val E) = rows.map (val E) := by
  have e : ∀ rs : List (List Int), rs.map (val E) = (rs.map (WW E)).map fun x => [x / pr (E.drop 1), -((-x) / pr (E.drop 1))] := fun rs => by
    rw [List.map_map]
    rfl
  rw [e, e, h]
end Sc

/-! the law's first part: sums and orders -/
namespace Sc
open L2 PyProof.Rows PySem PySem.Spec
theorem rg_li (n : Nat) : rgV 0 (n : Int) = ((List.range n).map fun i => (0 : Int) + (i : Nat)).map V.int := by
  unfold rgV
  rw [List.map_map, show ((n : Int) - 0).toNat = n by omega]
  rfl
theorem row_at {H : Hp} {as : List Addr} {rows : List (List Int)} {E : List Int} (h : TA H as rows) {j : Nat} {x : Int} (hj : (rows.map (WW E))[j]? = some x) : ∃ b row, as[j]? = some b ∧ row ∈ rows ∧ TR H b row ∧ WW E row = x := by
  rw [List.getElem?_map] at hj
  cases e : rows[j]? with
  | none =>
    rw [e] at hj
    cases hj
  | some row =>
    rw [e] at hj
    obtain ⟨b, hb, ht⟩ := h.get e
    exact ⟨b, row, hb, List.mem_of_getElem? e, ht, Option.some.inj hj⟩
section
variable {base : Heap} {mg : Str → Option Value} {K : PySem.W.Frag} {w : World} {P : Program}
abbrev nOrder : List Str := ["_law_source_here", "_law_entries", "_law_people_here", "_law_rows", "_law_values_here", "_law_top", "_law_bottom", "_law_low", "_law_high", "_law_order", "_law_turned", "_law_least", "_law_far", "_law_tops", "_law_many", "_law_few", "_law_at", "_law_row", "_law_pair"]
theorem scOrder : FnScope nOrder ["_law_source_here", "_law_entries", "_law_people_here", "_law_rows"] (defScope sOrder) := ⟨rfl, rfl, rfl, by decide +kernel, rfl, by decide +kernel, by decide +kernel⟩
theorem ok_order {f f1 f2 f3 f4 f5 f6 : Addr} {fd fd1 fd2 fd3 fd4 fd5 fd6 : FuncData} (F : Fun K "_law_order_right" "_law_order_right" sOrder f fd) (B : Blt mg) (G1 : Cal P w K mg base 6 "group_values" f1 fd1 ["schedule", "counts", "split"] (spGValues K)) (G2 : Cal P w K mg base 5 "weight" f2 fd2 ["schedule", "counts"] spWeight)
    (G3 : Cal P w K mg base 3 "_law_shuffled" f3 fd3 ["_law_source_here", "_law_items"] spShuffled) (G4 : Cal P w K mg base 6 "lightest_group" f4 fd4 ["schedule", "counts", "split"] (spPick K (· ≤ ·))) (G5 : Cal P w K mg base 6 "heaviest_group" f5 fd5 ["schedule", "counts", "split"] (spPick K (· ≥ ·)))
    (G6 : Cal P w K mg base 1 "_law_weighed" f6 fd6 ["_law_entries", "_law_people_here"] spWeighed) : FnOk P w K mg base CX0 7 f fd ["_law_source_here", "_law_entries", "_law_people_here", "_law_rows"] spPart := by
  refine F.ok scOrder (fun vs H Q E h => ?_) (fun cdv A outer s H vs Q E hr h => ?_)
  · obtain ⟨a, e, p, r, E, cs, rows, hA, _⟩ := h
    rw [hA.vs]
    rfl
  · obtain ⟨a, e, p, r, E, cs, rows, ⟨rfl, ha, hE, hC, ⟨as, hl, hT, _⟩, C, ea, ra⟩, q⟩ := h
    have S := C.S
    have hr5 : Room 5 _ := Room.mono hr (by decide)
    have hr3 : Room 3 _ := Room.mono hr (by decide)
    have hr1 : Room 1 _ := Room.mono hr (by decide)
    refine ⟨_, pss_cons (ps_set (i := 4) scOrder.nd rfl (.inr rfl) (pc G1 hr (p3 (pv 1) (pv 2) (pv 3))))
      (pss_cons (ps_asg (pc G2 hr5 (p2 (pv 1) (pv 2))) (pg_tup rfl (pgs_cons (pg_name (i := 5) scOrder.nd rfl (.inl rfl)) (pgs_cons (pg_name (i := 6) scOrder.nd rfl (.inl rfl)) pgs_nil))))
      (pss_cons (ps_par (i := 7) (j := 8) (by rfl) scOrder.nd rfl rfl (by decide) rfl rfl (p2
          (pb (cr_sum rfl) B.sum (p1 (pe_lc (own := [("_law_many", 14), ("_law_few", 15)]) (g := gTup K 2 (gCons (gName 14) (gCons (gName 15) gNil))) rfl scOrder.nd (pi_list (pv 4)) (blkOk_by (own := [("_law_many", 14), ("_law_few", 15)]) (N := nOrder) (sc := defScope sOrder) (by decide +kernel))
            (fun _ _ _ _ _ => pg_tup rfl (pgs_cons (pg_name (i := 14) scOrder.nd rfl (.inl rfl)) (pgs_cons (pg_name (i := 15) scOrder.nd rfl (.inl rfl)) pgs_nil))) (fun _ _ _ _ _ => pts_nil) (fun _ _ _ _ _ => pv 14))))
          (pb (cr_sum rfl) B.sum (p1 (pe_lc (own := [("_law_many", 14), ("_law_few", 15)]) (g := gTup K 2 (gCons (gName 14) (gCons (gName 15) gNil))) rfl scOrder.nd (pi_list (pv 4)) (blkOk_by (own := [("_law_many", 14), ("_law_few", 15)]) (N := nOrder) (sc := defScope sOrder) (by decide +kernel))
            (fun _ _ _ _ _ => pg_tup rfl (pgs_cons (pg_name (i := 14) scOrder.nd rfl (.inl rfl)) (pgs_cons (pg_name (i := 15) scOrder.nd rfl (.inl rfl)) pgs_nil))) (fun _ _ _ _ _ => pts_nil) (fun _ _ _ _ _ => pv 15))))) (by rfl))
      (pss_cons (ps_if (pt_not (pt_chain op_le op_le (pe_op op_mulW (pv 7) (pv 6)) (pe_op op_mulW (pe_ix ix_list (pv 1) pe_int (fun _ _ => rfl)) (pv 5)) (pe_op op_mulW (pv 8) (pv 6)))) (pss_one ps_never) pss_nil)
      (pss_cons (ps_set (i := 9) scOrder.nd rfl (.inl rfl) (pc G3 hr3 (p2 (pv 0) (pe_listRg rfl (by rfl) B.list (prg_1 (by rfl) B.range (pe_ix ix_list (pv 1) pe_int (fun _ _ => rfl)))))))
      (pss_cons (ps_setLc (i := 10) (own := [("_law_at", 16)]) (g := gName 16) (by rfl) scOrder.nd rfl rfl (sw_true rfl rfl rfl (by decide +kernel)) (pi_list (pv 9)) (blkOk_by (own := [("_law_at", 16)]) (N := nOrder) (sc := defScope sOrder) (by decide +kernel))
        (fun _ _ _ _ _ => pg_name (i := 16) scOrder.nd rfl (.inl rfl)) (fun _ _ _ _ _ => pts_nil) (fun _ _ _ _ _ => pe_ix (r := rIxL K) ix_list (pv 3) (pv 16) (fun _ _ => rfl)))
      (pss_cons (ps_if (pt_cmpR (op_neD hr.units) (pc G1 hr (p3 (pv 1) (pv 2) (pv 10))) (pe_lc (own := [("_law_at", 16)]) (g := gName 16) rfl scOrder.nd (pi_list (pv 9)) (blkOk_by (own := [("_law_at", 16)]) (N := nOrder) (sc := defScope sOrder) (by decide +kernel))
        (fun _ _ _ _ _ => pg_name (i := 16) scOrder.nd rfl (.inl rfl)) (fun _ _ _ _ _ => pts_nil) (fun _ _ _ _ _ => pe_ix (r := rIxL K) ix_list (pv 4) (pv 16) (fun _ _ => rfl))) (nomark _)) (pss_one ps_never) pss_nil)
      (pss_cons (ps_set (i := 11) scOrder.nd rfl (.inl rfl) (pe_tup (p2 (pe_ix ix_list (pv 10) (pc G4 hr (p3 (pv 1) (pv 2) (pv 10))) (fun _ _ => rfl)) (pe_ix ix_list (pv 3) (pc G4 hr (p3 (pv 1) (pv 2) (pv 3))) (fun _ _ => rfl)))))
      (pss_cons (ps_set (i := 12) scOrder.nd rfl (.inl rfl) (pe_tup (p2 (pe_ix ix_list (pv 10) (pc G5 hr (p3 (pv 1) (pv 2) (pv 10))) (fun _ _ => rfl)) (pe_ix ix_list (pv 3) (pc G5 hr (p3 (pv 1) (pv 2) (pv 3))) (fun _ _ => rfl)))))
      (pss_cons (ps_setLc (i := 13) (own := [("_law_pair", 18)]) (g := gName 18) (by rfl) scOrder.nd rfl rfl (sw_true rfl rfl rfl (by decide +kernel)) (pi_tup (pe_tup (p2 (pv 11) (pv 12)))) (blkOk_by (own := [("_law_pair", 18)]) (N := nOrder) (sc := defScope sOrder) (by decide +kernel))
        (fun _ _ _ _ _ => pg_name (i := 18) scOrder.nd rfl (.inl rfl)) (fun _ _ _ _ _ => pts_nil)
        (fun _ _ _ _ _ => pe_lc (own := [("_law_row", 17)]) (g := gName 17) (wi := iTup K (tVar 18)) rfl scOrder.nd (pi_tup (pv 18)) (show BlkOk nOrder (relS (lcS (asgVal (stAt sOrder 9))) (defScope sOrder)) _ _ from blkOk_by (by decide +kernel))
          (fun _ _ _ _ _ => pg_name (i := 17) scOrder.nd rfl (.inl rfl)) (fun _ _ _ _ _ => pts_nil) (fun _ _ _ _ _ => pe_ix (r := rIxT K) ix_tup (pc G6 hr1 (p2 (pv 1) (pv 17))) pe_int (fun _ _ => rfl))))
      (pss_one (ps_ret (pe_and (pe_cmpR op_eq (pe_ix ix_list (pe_ix ix_list (pv 13) pe_int (fun _ _ => rfl)) pe_int (fun _ _ => rfl)) (pe_ix ix_list (pe_ix ix_list (pv 13) pe_int (fun _ _ => rfl)) pe_int (fun _ _ => rfl)) (nomark _))
        (pe_one (pe_cmpR op_eq (pe_ix ix_list (pe_ix ix_list (pv 13) pe_int (fun _ _ => rfl)) pe_int (fun _ _ => rfl)) (pe_ix ix_list (pe_ix ix_list (pv 13) pe_int (fun _ _ => rfl)) pe_int (fun _ _ => rfl)) (nomark _))))))))))))))), ?_⟩
    -- the values, the weight
    refine ⟨_, rfl, _, rfl, _, rfl, E, cs, rows, ⟨e, p, r, rfl, hE, hC, ⟨as, hl, hT⟩, S⟩, fun v H1 s1 hv hV => ?_⟩
    obtain ⟨vas, hvl, hvT⟩ := hV
    refine ⟨_, rfl, _, rfl, e, p, E, cs, rfl, s1 _ _ hE, s1 _ _ hC, S.ent, S.len, fun x hx => lt2_120 (C.cb x hx), S.cl, fun g t H2 hg g1 g2 s2 ht => ?_⟩
    have s12 := s1.trans s2
    refine ⟨t, _, rfl, ti_seq ht, rfl, _, _, rfl, _, _, rfl, rfl, ?_⟩
    -- the two sums
    have hvT2 := hvT.same s2
    have vlen : vas.length = rows.length := by
      rw [hvT.1, List.length_map]
    have vrow : ∀ (i : Nat) (b : Addr), vas[i]? = some b → ∃ hi : i < rows.length, TR H2 b (val E rows[i]) := fun i b hb => by
      have hi : i < rows.length := by
        rw [← vlen]
        exact (List.getElem?_eq_some_iff.mp hb).1
      exact ⟨hi, hvT2.2 i b _ hb (by rw [List.getElem?_map, List.getElem?_eq_getElem hi]; rfl)⟩
    refine ⟨_, rfl, v, rfl, ⟨_, SqL.of (s2 _ _ hvl)⟩, fun D hD => ?_⟩
    refine lc_list (K := K) (a := v) (xs := vas.map V.ref) (fun i H3 => Same H2 H3 ∧ LI H3 D ((rows.take i).map fun r => WW E r / pr (E.drop 1))) ⟨same_new hD, upd_same⟩ (fun i H3 _ hp => SqL.of (hp.1 _ _ (s2 _ _ hvl))) ?_ ?_
    · rintro i x H3 hx ⟨s3, e3⟩
      obtain ⟨b, hb, rfl⟩ := of_ref hx
      obtain ⟨hi, hrow⟩ := vrow i b hb
      refine ⟨b, _, rfl, (hrow.same s3).seq, rfl, _, _, rfl, _, _, rfl, rfl, rfl, _, rfl, _, e3, ?_, ?_, ?_⟩
      · rw [List.length_map, List.length_map, List.length_take]
        have := S.rl
        exact small_line' (by omega)
      · intro c u hc
        rw [upd_ne (ne_of_none hc hD)]
        exact s3 c u hc
      · show upd _ D _ D = _
        rw [upd_same, take_snoc (List.getElem?_eq_getElem hi), List.map_append, List.map_append]
        rfl
    rintro H3 ⟨s3, e3⟩
    rw [List.length_map, vlen, List.take_length] at e3
    refine ⟨D, _, rfl, li_seq e3, ?_⟩
    have s13 := s12.trans s3
    have vrow3 : ∀ (i : Nat) (b : Addr), vas[i]? = some b → ∃ hi : i < rows.length, TR H3 b (val E rows[i]) := fun i b hb => by
      obtain ⟨hi, hrow⟩ := vrow i b hb
      exact ⟨hi, hrow.same s3⟩
    have hvl3 := s3 _ _ (s2 _ _ hvl)
    refine ⟨_, rfl, v, rfl, ⟨_, SqL.of hvl3⟩, fun D' hD' => ?_⟩
    refine lc_list (K := K) (a := v) (xs := vas.map V.ref) (fun i H4 => Same H3 H4 ∧ LI H4 D' ((rows.take i).map fun r => -((-WW E r) / pr (E.drop 1)))) ⟨same_new hD', upd_same⟩ (fun i H4 _ hp => SqL.of (hp.1 _ _ hvl3)) ?_ ?_
    · rintro i x H4 hx ⟨s4, e4⟩
      obtain ⟨b, hb, rfl⟩ := of_ref hx
      obtain ⟨hi, hrow⟩ := vrow3 i b hb
      refine ⟨b, _, rfl, (hrow.same s4).seq, rfl, _, _, rfl, _, _, rfl, rfl, rfl, _, rfl, _, e4, ?_, ?_, ?_⟩
      · rw [List.length_map, List.length_map, List.length_take]
        have := S.rl
        exact small_line' (by omega)
      · intro c u hc
        rw [upd_ne (ne_of_none hc hD')]
        exact s4 c u hc
      · show upd _ D' _ D' = _
        rw [upd_same, take_snoc (List.getElem?_eq_getElem hi), List.map_append, List.map_append]
        rfl
    rintro H4 ⟨s4, e4⟩
    rw [List.length_map, vlen, List.take_length] at e4
    have s14 := s13.trans s4
    refine ⟨D', _, rfl, li_seq e4, _, _, rfl, ?_⟩
    -- they enclose
    obtain ⟨e0, E', rfl⟩ : ∃ e0 E', E = e0 :: E' := by
      cases E with
      | nil => exact absurd rfl S.ne
      | cons e0 E' => exact ⟨e0, E', rfl⟩
    have eg : e0 = (rows.length : Int) := Option.some.inj S.g
    have hen := encl (e0 := e0) (E := E') (S := WW (e0 :: E') cs) (L := lowS (e0 :: E') rows) (Hi := highS (e0 :: E') rows) (g := g) S.ent hg g1 g2 (by rw [W_tot S]; exact low_le S.ent rows) (by rw [W_tot S]; exact le_high S.ent rows)
    have lb : Lt2 1282 (pr (e0 :: E') / g) := div_lt2 (Int.le_of_lt (pr_pos S.ent)) hg (pr_lt S.ent S.len)
    have lt : Lt2 2502 (WW (e0 :: E') cs / g) := div_lt2 (tot_lt2 S).1 hg (tot_lt2 S).2
    refine ⟨_, rfl, _, rfl, _, _, rfl, rfl, cmul (low_lt2 S) lb, _, rfl, e, _, 0, _, rfl, rfl, li_seq (s14 _ _ hE), at_of (j := 0) rfl rfl, _, rfl, _, _, rfl, rfl, cmul (S.ent.lt2 List.mem_cons_self) lt, _, _, rfl, rfl, _, rfl, ?_⟩
    have hen1 : (rows.map fun r => WW (e0 :: E') r / pr (List.drop 1 (e0 :: E'))).sum * (pr (e0 :: E') / g) ≤ e0 * (WW (e0 :: E') cs / g) := hen.1
    have hen2 : e0 * (WW (e0 :: E') cs / g) ≤ (rows.map fun r => -((-WW (e0 :: E') r) / pr (List.drop 1 (e0 :: E')))).sum * (pr (e0 :: E') / g) := hen.2
    rw [decide_eq_true hen1]
    refine iteT ⟨_, rfl, _, rfl, _, _, rfl, rfl, cmul (high_lt2 S) lb, _, _, rfl, rfl, _, rfl, ?_⟩
    rw [decide_eq_true hen2]
    refine iteF ?_
    -- the order
    refine ⟨_, rfl, _, rfl, e, _, 0, _, rfl, rfl, li_seq (s14 _ _ hE), at_of (j := 0) rfl rfl, e0, rfl, ?_, fun l hln => ?_⟩
    · have := S.rl
      exact RgOk.of_le (by omega) (by omega) (by omega) (by omega)
    have s5 := same_new (o := .lst (rgV 0 e0)) hln
    have s15 := s14.trans s5
    refine ⟨a, l, (List.range rows.length).map fun i => (0 : Int) + (i : Nat), rfl, ha.same s15, ?_, ?_, fun ms o H6 hms b6 hon e6 h6 => ?_⟩
    · show upd _ l _ l = _
      rw [upd_same, eg, rg_li]
    · rw [@List.length_map, List.length_range]
      exact S.rl
    obtain ⟨ord, hord, rfl⟩ := ord_of hms
    have olt : ∀ k ∈ ord, k < rows.length := fun k hk => List.mem_range.mp (hord.mem_iff.mp hk)
    have olen : ord.length = rows.length := by
      rw [hord.length_eq, List.length_range]
    have b16 : But a H H6 := (But.of s15).trans b6
    have hE6 : LI H6 e (e0 :: E') := b16 _ _ hE ea
    have hC6 : TI H6 p cs := b16 _ _ hC fun z => ha.nt _ (z ▸ hC)
    have hl6 := b16 _ _ hl ra
    have hT6 : TA H6 as rows := hT.but b16 fun xs => ha.nr _
    have va : v ≠ a := ha.ne hv
    have hvl6 : H6 v = some (.lst (vas.map V.ref)) := b6 _ _ (s5 _ _ (s4 _ _ hvl3)) va
    have hvT6 : TA H6 vas (rows.map (val (e0 :: E'))) := ((((hvT2.same s3).same s4).same s5).but b6 fun xs => (ha.same s15).nr _)
    -- turned
    refine ⟨_, rfl, o, rfl, ⟨_, li_seq e6⟩, fun D2 hD2 => ?_⟩
    refine lc_list (K := K) (a := o) (xs := (ord.map fun k : Nat => (k : Int)).map V.int) (fun i H7 => Same H6 H7 ∧ H7 D2 = some (.lst ((pick as 0 (ord.take i)).map V.ref))) ⟨same_new hD2, upd_same⟩ (fun i H7 _ hp => li_seq (hp.1 _ _ e6)) ?_ ?_
    · rintro i x H7 hx ⟨s7, e7⟩
      obtain ⟨z, hz, rfl⟩ := of_int hx
      rw [List.getElem?_map] at hz
      cases ek : ord[i]? with
      | none =>
        rw [ek] at hz
        cases hz
      | some k =>
        rw [ek] at hz
        have ez : (k : Int) = z := Option.some.inj hz
        subst ez
        have hk := olt k (List.mem_of_getElem? ek)
        have hka : k < as.length := by
          rw [hT.1]
          exact hk
        have hga : as[k]? = some (as.getD k 0) := by
          rw [List.getD_eq_getElem?_getD, List.getElem?_eq_getElem hka]
          rfl
        refine ⟨rfl, _, rfl, _, rfl, r, _, _, _, rfl, rfl, SqL.of (s7 _ _ hl6), at_of (j := k) rfl (at_ref hga), _, e7, ?_, ?_, ?_⟩
        · unfold pick
          rw [List.length_map, List.length_map, List.length_take]
          have := S.rl
          exact small_line' (by omega)
        · intro c u hc
          rw [upd_ne (ne_of_none hc hD2)]
          exact s7 c u hc
        · rw [upd_same, take_snoc ek]
          unfold pick
          rw [List.map_append, List.map_append]
          rfl
    rintro H7 ⟨s7, e7⟩
    rw [List.length_map, List.length_map, List.take_length] at e7
    have hTt : TA H7 (pick as 0 ord) (pick rows [] ord) := (hT6.pick olt).same s7
    have hperm : (pick rows [] ord).Perm rows := pick_perm hord
    have St : Spl (e0 :: E') cs (pick rows [] ord) := S.perm hperm
    -- the values of the turned groups
    refine ⟨_, rfl, _, rfl, _, rfl, e0 :: E', cs, pick rows [] ord, ⟨e, p, D2, rfl, s7 _ _ hE6, s7 _ _ hC6, ⟨_, e7, hTt⟩, St⟩, fun v2 H8 s8 hv2 hV2 => ?_⟩
    have s68 := s7.trans s8
    refine ⟨_, rfl, o, rfl, ⟨_, li_seq (s68 _ _ e6)⟩, fun D3 hD3 => ?_⟩
    refine lc_list (K := K) (a := o) (xs := (ord.map fun k : Nat => (k : Int)).map V.int) (fun i H9 => Same H8 H9 ∧ H9 D3 = some (.lst ((pick vas 0 (ord.take i)).map V.ref))) ⟨same_new hD3, upd_same⟩ (fun i H9 _ hp => li_seq (hp.1 _ _ (s68 _ _ e6))) ?_ ?_
    · rintro i x H9 hx ⟨s9, e9⟩
      obtain ⟨z, hz, rfl⟩ := of_int hx
      rw [List.getElem?_map] at hz
      cases ek : ord[i]? with
      | none =>
        rw [ek] at hz
        cases hz
      | some k =>
        rw [ek] at hz
        have ez : (k : Int) = z := Option.some.inj hz
        subst ez
        have hk := olt k (List.mem_of_getElem? ek)
        have hga : vas[k]? = some (vas.getD k 0) := by
          rw [List.getD_eq_getElem?_getD, List.getElem?_eq_getElem (by rw [vlen]; exact hk)]
          rfl
        refine ⟨rfl, _, rfl, _, rfl, v, _, _, _, rfl, rfl, SqL.of (s9 _ _ (s68 _ _ hvl6)), at_of (j := k) rfl (at_ref hga), _, e9, ?_, ?_, ?_⟩
        · unfold pick
          rw [List.length_map, List.length_map, List.length_take]
          have := S.rl
          exact small_line' (by omega)
        · intro c u hc
          rw [upd_ne (ne_of_none hc hD3)]
          exact s9 c u hc
        · rw [upd_same, take_snoc ek]
          unfold pick
          rw [List.map_append, List.map_append]
          rfl
    rintro H9 ⟨s9, e9⟩
    rw [List.length_map, List.length_map, List.take_length] at e9
    have hTv : TA H9 (pick vas 0 ord) (pick (rows.map (val (e0 :: E'))) [] ord) := ((hvT6.pick (by rw [List.length_map]; exact olt)).same s68).same s9
    rw [pick_map (val (e0 :: E')) (d := []) olt] at hTv
    have s69 := s68.trans s9
    refine ⟨_, _, dp_TL (hV2.same s9), dp_TL ⟨_, e9, hTv⟩, sh_R _, sh_R _, _, rfl, ?_⟩
    rw [eqv_self (sh_R _)]
    refine iteF ?_
    -- least
    have hTt9 := hTt.same (s8.trans s9)
    have e79 := s9 _ _ (s8 _ _ e7)
    have hT9 := hT6.same s69
    have hl9 := s69 _ _ hl6
    have hE9 := s69 _ _ hE6
    have hC9 := s69 _ _ hC6
    have h9 := h6.same s69
    have b19 := b16.thn s69
    have hpW : ((pick rows [] ord).map (WW (e0 :: E'))).Perm (rows.map (WW (e0 :: E'))) := hperm.map _
    refine ⟨_, rfl, _, rfl, _, rfl, _, rfl, e0 :: E', cs, pick rows [] ord, ⟨e, p, D2, rfl, hE9, hC9, ⟨_, e79, hTt9⟩, St⟩, fun j1 x1 H10 s10 hj1 hm1 => ?_⟩
    obtain ⟨b1, r1, hb1, hr1, ht1, hw1⟩ := row_at hTt9 hj1
    refine ⟨D2, _, _, _, rfl, rfl, SqL.of (s10 _ _ e79), atI_nat (at_ref hb1), _, rfl, _, rfl, _, rfl, _, rfl, e0 :: E', cs, rows, ⟨e, p, r, rfl, s10 _ _ hE9, s10 _ _ hC9, ⟨_, s10 _ _ hl9, hT9.same s10⟩, S⟩, fun j2 x2 H11 s11 hj2 hm2 => ?_⟩
    obtain ⟨b2, r2, hb2, hr2, ht2, hw2⟩ := row_at hT9 hj2
    have s911 := s10.trans s11
    refine ⟨r, _, _, _, rfl, rfl, SqL.of (s911 _ _ hl9), atI_nat (at_ref hb2), (by show 2 ≤ sizeLine; decide), fun t1 ht1n => ?_⟩
    have s12' := same_new (o := .tup [.ref b1, .ref b2]) ht1n
    have k1 : horn 0 (e0 :: E') r1 = horn 0 (e0 :: E') r2 := horn_eq S.ent (by rw [St.rlen r1 hr1, S.rlen r2 hr2]) (by rw [hw1, hw2]; exact ext_eq (fun a b h1 h2 => Int.le_antisymm h1 h2) hpW hj1 hm1 hj2 hm2)
    have et1 : (upd H11 t1 (.tup [.ref b1, .ref b2])) t1 = some (.tup [.ref b1, .ref b2]) := upd_same
    have s912 := s911.trans s12'
    generalize upd H11 t1 (.tup [.ref b1, .ref b2]) = H12 at s12' et1 s912 ⊢
    -- far
    refine ⟨_, rfl, _, rfl, _, rfl, _, rfl, e0 :: E', cs, pick rows [] ord, ⟨e, p, D2, rfl, s912 _ _ hE9, s912 _ _ hC9, ⟨_, s912 _ _ e79, hTt9.same s912⟩, St⟩, fun j3 x3 H13 s13' hj3 hm3 => ?_⟩
    obtain ⟨b3, r3, hb3, hr3', ht3, hw3⟩ := row_at hTt9 hj3
    have s913 := s912.trans s13'
    refine ⟨D2, _, _, _, rfl, rfl, SqL.of (s913 _ _ e79), atI_nat (at_ref hb3), _, rfl, _, rfl, _, rfl, _, rfl, e0 :: E', cs, rows, ⟨e, p, r, rfl, s913 _ _ hE9, s913 _ _ hC9, ⟨_, s913 _ _ hl9, hT9.same s913⟩, S⟩, fun j4 x4 H14 s14' hj4 hm4 => ?_⟩
    obtain ⟨b4, r4, hb4, hr4, ht4, hw4⟩ := row_at hT9 hj4
    have s914 := s913.trans s14'
    refine ⟨r, _, _, _, rfl, rfl, SqL.of (s914 _ _ hl9), atI_nat (at_ref hb4), (by show 2 ≤ sizeLine; decide), fun t2 ht2n => ?_⟩
    have s15' := same_new (o := .tup [.ref b3, .ref b4]) ht2n
    have k2 : horn 0 (e0 :: E') r3 = horn 0 (e0 :: E') r4 := horn_eq S.ent (by rw [St.rlen r3 hr3', S.rlen r4 hr4]) (by rw [hw3, hw4]; exact ext_eq (fun a b h1 h2 => Int.le_antisymm h2 h1) hpW hj3 hm3 hj4 hm4)
    have et2 : (upd H14 t2 (.tup [.ref b3, .ref b4])) t2 = some (.tup [.ref b3, .ref b4]) := upd_same
    have s1215 := (s13'.trans s14').trans s15'
    have s915 := s914.trans s15'
    generalize upd H14 t2 (.tup [.ref b3, .ref b4]) = H15 at s15' et2 s1215 s915 ⊢
    -- tops: the slots written out
    have st0 : L2.start nOrder [V.ref a, .ref e, .ref p, .ref r] = [some (.ref a), some (.ref e), some (.ref p), some (.ref r), none, none, none, none, none, none, none, none, none, none, none, none, none, none, none] := rfl
    rw [st0]
    simp only [List.set_cons_succ, List.set_cons_zero]
    refine ⟨_, rfl, _, rfl, (by show 2 ≤ sizeLine; decide), fun t3 ht3n => ⟨t3, rfl, ⟨_, SqT.of upd_same⟩, fun D4 hD4 => ?_⟩⟩
    have s16 := same_new (o := .tup [.ref t1, .ref t2]) ht3n
    have et3 : (upd H15 t3 (.tup [.ref t1, .ref t2])) t3 = some (.tup [.ref t1, .ref t2]) := upd_same
    have s916 := s915.trans s16
    have et1' := s16 _ _ (s1215 _ _ et1)
    have et2' := s16 _ _ et2
    generalize upd H15 t3 (.tup [.ref t1, .ref t2]) = H16 at s16 et3 s916 et1' et2' hD4 ⊢
    have pairs : ∀ (i : Nat) (x : V), [V.ref t1, .ref t2][i]? = some x → ∃ (tt c c' : Addr) (q q' : List Int), x = .ref tt ∧ H16 tt = some (.tup [.ref c, .ref c']) ∧ TR H16 c q ∧ TR H16 c' q' ∧ horn 0 (e0 :: E') q = horn 0 (e0 :: E') q' := fun i x hx => by
      match i, hx with
      | 0, hx => exact ⟨t1, b1, b2, r1, r2, (Option.some.inj hx).symm, et1', ht1.same s916, ht2.same s916, k1⟩
      | 1, hx => exact ⟨t2, b3, b4, r3, r4, (Option.some.inj hx).symm, et2', ht3.same s916, ht4.same s916, k2⟩
      | n + 2, hx => simp at hx
    refine lc_tup (K := K) (a := t3) (xs := [.ref t1, .ref t2]) (fun i H17 => Same H16 H17 ∧ ∃ ls : List Addr, ls.length = i ∧ H17 D4 = some (.lst (ls.map V.ref)) ∧ ∀ l ∈ ls, ∃ x : Int, LI H17 l [x, x]) ⟨same_new hD4, [], rfl, upd_same, fun _ h => nomatch h⟩ (fun i H17 _ hp => SqT.of (hp.1 _ _ et3)) ?_ ?_
    · rintro i x H17 hx ⟨s17, ls, hls, e17, hall⟩
      obtain ⟨tt, c, c', q1, q2, rfl, htt, hq1, hq2, hk⟩ := pairs i x hx
      have hi2 : i < 2 := (List.getElem?_eq_some_iff.mp hx).1
      refine ⟨rfl, _, rfl, tt, rfl, ⟨_, SqT.of (s17 _ _ htt)⟩, fun D5 hD5 => ?_⟩
      refine lc_tup (K := K) (a := tt) (xs := [.ref c, .ref c']) (fun j H18 => Same H17 H18 ∧ LI H18 D5 (List.replicate j (horn 0 (e0 :: E') q1))) ⟨same_new hD5, upd_same⟩ (fun j H18 _ hp => SqT.of (hp.1 _ _ (s17 _ _ htt))) ?_ ?_
      · rintro j y H18 hy ⟨s18, e18⟩
        have s1618 := s17.trans s18
        have hj2 : j < 2 := (List.getElem?_eq_some_iff.mp hy).1
        have hyy : ∃ (d : Addr) (qd : List Int), y = .ref d ∧ TR H16 d qd ∧ horn 0 (e0 :: E') qd = horn 0 (e0 :: E') q1 := by
          match j, hy with
          | 0, hy => exact ⟨c, q1, (Option.some.inj hy).symm, hq1, rfl⟩
          | 1, hy => exact ⟨c', q2, (Option.some.inj hy).symm, hq2, hk.symm⟩
          | n + 2, hy => simp at hy
        obtain ⟨d, qd, rfl, hd, hkd⟩ := hyy
        refine ⟨rfl, _, rfl, _, rfl, e, d, e0 :: E', qd, rfl, s1618 _ _ (s916 _ _ hE9), hd.same s1618, S.ent, fun tw bw H19 s19 htw => ?_⟩
        refine ⟨tw, _, 0, _, rfl, rfl, ti_seq htw, at_of (j := 0) rfl rfl, _, s19 _ _ e18, ?_, ?_, ?_⟩
        · rw [List.length_map, List.length_replicate]
          exact small_line' (by omega)
        · intro c u hc
          rw [upd_ne (ne_of_none hc hD5)]
          exact s19 _ _ (s18 c u hc)
        · show upd _ D5 _ D5 = _
          rw [upd_same, List.replicate_succ', List.map_append, hkd]
          rfl
      · rintro H18 ⟨s18, e18⟩
        refine ⟨_, s18 _ _ e17, ?_, ?_, ls ++ [D5], ?_, ?_, ?_⟩
        · rw [List.length_map, hls]
          exact small_line' (by omega)
        · intro c u hc
          rw [upd_ne (ne_of_none hc hD4)]
          exact s18 _ _ (s17 c u hc)
        · rw [List.length_append, hls]
          rfl
        · rw [upd_same, List.map_append]
          rfl
        · have nD : ∀ (l : Addr) (x : Int), LI H18 l [x, x] → l ≠ D4 := fun l x hx z => by
            have x1 := s18 _ _ e17
            have x2 : H18 D4 = some (.lst ([x, x].map V.int)) := z ▸ hx
            rw [x1] at x2
            have x3 := Option.some.inj x2
            injection x3 with x4
            cases ls with
            | nil => cases x4
            | cons l0 lr =>
              injection x4 with x5 _
              cases x5
          intro l hlm
          rcases List.mem_append.mp hlm with z | z
          · obtain ⟨x, hx⟩ := hall l z
            have hx' : LI H18 l [x, x] := s18 _ _ hx
            refine ⟨x, ?_⟩
            show upd _ D4 _ l = _
            rw [upd_ne (nD l x hx')]
            exact hx'
          · rw [(List.mem_singleton.mp z)]
            have hx' : LI H18 D5 [horn 0 (e0 :: E') q1, horn 0 (e0 :: E') q1] := e18
            refine ⟨horn 0 (e0 :: E') q1, ?_⟩
            show upd _ D4 _ D5 = _
            rw [upd_ne (nD D5 _ hx')]
            exact hx'
    · rintro H17 ⟨s17, ls, hls, e17, hall⟩
      match ls, hls, e17, hall with
      | [l1, l2], _, e17, hall =>
        obtain ⟨x, hx⟩ := hall l1 (by simp)
        obtain ⟨y, hy⟩ := hall l2 (by simp)
        have w0 : atI [V.ref l1, .ref l2] 0 = some (.ref l1) := rfl
        have w1 : atI [V.ref l1, .ref l2] 1 = some (.ref l2) := rfl
        refine ⟨_, rfl, D4, _, 0, _, rfl, rfl, SqL.of e17, w0, l1, _, 0, _, rfl, rfl, li_seq hx, (rfl : atI [V.int x, .int x] 0 = some (.int x)), _, rfl, D4, _, 0, _, rfl, rfl, SqL.of e17, w0, l1, _, 1, _, rfl, rfl, li_seq hx, (rfl : atI [V.int x, .int x] 1 = some (.int x)), rfl, _, rfl, ?_⟩
        rw [decide_eq_true rfl]
        refine iteT ⟨_, rfl, D4, _, 1, _, rfl, rfl, SqL.of e17, w1, l2, _, 0, _, rfl, rfl, li_seq hy, (rfl : atI [V.int y, .int y] 0 = some (.int y)), _, rfl, D4, _, 1, _, rfl, rfl, SqL.of e17, w1, l2, _, 1, _, rfl, rfl, li_seq hy, (rfl : atI [V.int y, .int y] 1 = some (.int y)), rfl, ?_⟩
        rw [decide_eq_true rfl]
        have s917 := s916.trans s17
        exact q H17 (b19.thn s917) (h9.same s917)
end
end Sc

/-! the law's second part: climbers replaced -/
namespace Sc
open L2 PyProof.Rows PySem PySem.Spec
section
variable {base : Heap} {mg : Str → Option Value} {K : PySem.W.Frag} {w : World} {P : Program}
abbrev nReplaced : List Str := ["_law_source_here", "_law_entries", "_law_people_here", "_law_rows", "_law_values_here", "_law_length", "_law_at", "_law_wide", "_law_k", "_law_moved", "_law_some", "_law_total", "_law_row"]
theorem scReplaced : FnScope nReplaced ["_law_source_here", "_law_entries", "_law_people_here", "_law_rows"] (defScope sReplaced) := ⟨rfl, rfl, rfl, by decide +kernel, rfl, by decide +kernel, by decide +kernel⟩
theorem ok_replaced {f f1 f2 : Addr} {fd fd1 fd2 : FuncData} (F : Fun K "_law_replaced_right" "_law_replaced_right" sReplaced f fd) (B : Blt mg) (G1 : Cal P w K mg base 6 "group_values" f1 fd1 ["schedule", "counts", "split"] (spGValues K)) (G2 : Cal P w K mg base 2 "_law_take" f2 fd2 ["_law_source_here", "_law_count"] spTake) :
    FnOk P w K mg base CX0 7 f fd ["_law_source_here", "_law_entries", "_law_people_here", "_law_rows"] spPart := by
  refine F.ok scReplaced (fun vs H Q E h => ?_) (fun cdv A outer s H vs Q E hr h => ?_)
  · obtain ⟨a, e, p, r, E, cs, rows, hA, _⟩ := h
    rw [hA.vs]
    rfl
  · obtain ⟨a, e, p, r, E, cs, rows, ⟨rfl, ha, hE, hC, ⟨as, hl, hT, _⟩, C, ea, ra⟩, q⟩ := h
    have S := C.S
    have hr2 : Room 2 _ := Room.mono hr (by decide)
    refine ⟨_, pss_cons (ps_set (i := 4) scReplaced.nd rfl (.inl rfl) (pc G1 hr (p3 (pv 1) (pv 2) (pv 3))))
      (pss_cons (ps_asg (pe_tup (p2 (pb (r := rLen K) call_len_seq B.len (p1 (pv 1))) (pc G2 hr2 (p2 (pv 0) (pb (r := rLen K) call_len_seq B.len (p1 (pv 3))))))) (pg_tup rfl (pgs_cons (pg_name (i := 5) scReplaced.nd rfl (.inr rfl)) (pgs_cons (pg_name (i := 6) scReplaced.nd rfl (.inl rfl)) pgs_nil))))
      (pss_cons (ps_setLc (i := 7) (own := [("_law_row", 12)]) (g := gName 12) (by rfl) scReplaced.nd rfl rfl (sw_true rfl rfl rfl (by decide +kernel)) (pi_list (pv 3)) (blkOk_by (own := [("_law_row", 12)]) (N := nReplaced) (sc := defScope sReplaced) (by decide +kernel))
        (fun _ _ _ _ _ => pg_name (i := 12) scReplaced.nd rfl (.inl rfl)) (fun _ _ _ _ _ => pts_nil)
        (fun _ _ _ _ _ => pe_op op_cat (pt' (r := rLst K) call_list_of B.list (p1 (pe_slice (r := rSlA K) sl_tupA (pv 12) po_none (po_some (pv 5))))) (pe_op op_rep (pe_lst (p1 pe_int)) (pe_op op_sub (pv 5) (pb (r := rLen K) call_len_seq B.len (p1 (pv 12)))))))
      (pss_cons (ps_for PassesOwn.never rfl (pi_range1 (by rfl) B.range (p1 (pe_op op_sub (pv 5) pe_int))) (pg_name (i := 8) scReplaced.nd rfl (.inl rfl))
        (pss_cons (ps_set (i := 9) scReplaced.nd rfl (.inl rfl) (pc G2 hr2 (p2 (pv 0) (pe_op op_add (pb (call_min2 rfl) B.min (p2 (pe_ix ix_list (pe_ix ix_list (pv 7) (pv 6) (fun _ _ => rfl)) (pv 8) (fun _ _ => rfl)) (pe_op op_pow pe_int pe_int))) pe_int))))
        (pss_cons (ps_asg (pe_op op_sub (pe_ix ix_list (pe_ix ix_list (pv 7) (pv 6) (fun _ _ => rfl)) (pv 8) (fun _ _ => rfl)) (pv 9)) (pg_sub (pe_ix ix_list (pv 7) (pv 6) (fun _ _ => rfl)) (pv 8) set_list))
        (pss_one (ps_asg (pe_op op_add (pe_ix ix_list (pe_ix ix_list (pv 7) (pv 6) (fun _ _ => rfl)) (pe_op op_add (pv 8) pe_int) (fun _ _ => rfl)) (pe_op op_mulW (pv 9) (pe_ix ix_list (pv 1) (pe_op op_add (pv 8) pe_int) (fun _ _ => rfl)))) (pg_sub (pe_ix ix_list (pv 7) (pv 6) (fun _ _ => rfl)) (pe_op op_add (pv 8) pe_int) set_list))))))
      (pss_cons (ps_set (i := 10) scReplaced.nd rfl (.inr rfl) (pe_lc (own := [("_law_row", 12)]) (g := gName 12) rfl scReplaced.nd (pi_list (pv 7)) (blkOk_by (own := [("_law_row", 12)]) (N := nReplaced) (sc := defScope sReplaced) (by decide +kernel))
        (fun _ _ _ _ _ => pg_name (i := 12) scReplaced.nd rfl (.inl rfl)) (fun _ _ _ _ _ => pts_nil)
        (fun _ _ _ _ _ => pt' (r := rTup K) call_tuple_of B.tuple (p1 (pe_op op_cat (pv 12) (pe_lst (p1 (pc G2 hr2 (p2 (pv 0) pe_int)))))))))
      (pss_cons (ps_set (i := 11) scReplaced.nd rfl (.inl rfl) (pt' (r := rTup K) call_tuple_of B.tuple (p1 (pe_lc (own := [("_law_k", 8)]) (g := gName 8) rfl scReplaced.nd (pi_range1 (by rfl) B.range (p1 (pe_op op_add (pv 5) pe_int))) (blkOk_by (own := [("_law_k", 8)]) (N := nReplaced) (sc := defScope sReplaced) (by decide +kernel))
        (fun _ _ _ _ _ => pg_name (i := 8) scReplaced.nd rfl (.inr rfl)) (fun _ _ _ _ _ => pts_nil)
        (fun _ _ _ _ _ => pb (r := rSum K) (cr_sum rfl) B.sum (p1 (pe_lc (own := [("_law_row", 12)]) (g := gName 12) (wi := iList K (tVar 10)) rfl scReplaced.nd (pi_list (pv 10)) (show BlkOk nReplaced (relS (lcS (call1 (asgVal (stAt sReplaced 5)))) (defScope sReplaced)) _ _ from blkOk_by (by decide +kernel))
          (fun _ _ _ _ _ => pg_name (i := 12) scReplaced.nd rfl (.inl rfl)) (fun _ _ _ _ _ => pts_nil) (fun _ _ _ _ _ => pe_ix (r := rIxT K) ix_tup (pv 12) (pv 8) (fun _ _ => rfl)))))))))
      (pss_one (ps_ret (pe_cmpR (op_eqD hr.units) (pc G1 hr (p3 (pv 1) (pv 11) (pv 10))) (pv 4) (nomark _))))))))), ?_⟩
    -- the values, the length, a group
    refine ⟨_, rfl, _, rfl, _, rfl, E, cs, rows, ⟨e, p, r, rfl, hE, hC, ⟨as, hl, hT⟩, S⟩, fun v H1 s1 hv hV => ?_⟩
    have va : v ≠ a := ha.ne hv
    have hE1 := s1 _ _ hE
    have hl1 := s1 _ _ hl
    have alen : as.length = rows.length := hT.1
    have g2 := S.pos
    have grl := S.rl
    have en0 : 1 ≤ E.length := by
      have := (List.getElem?_eq_some_iff.mp S.g).1
      omega
    have en13 := C.el
    refine ⟨_, rfl, e, E.map V.int, rfl, .inl (li_seq hE1), _, rfl, _, rfl, r, as.map V.ref, rfl, .inl (SqL.of hl1), ?_⟩
    rw [List.length_map, List.length_map, alen]
    refine ⟨a, _, rfl, ha.same s1, by omega, lt2_small (by omega) (by omega), fun at' H2 at0 at1 b2 h2 => ⟨(by show 2 ≤ sizeLine; decide), fun t ht => ?_⟩⟩
    refine ⟨t, [.int (E.length : Nat), .int at'], rfl, SqT.of upd_same, rfl, _, _, rfl, _, _, rfl, rfl, ?_⟩
    have s3 := same_new (o := .tup [.int (E.length : Nat), .int at']) ht
    have b3 : But a H1 (upd H2 t (.tup [.int (E.length : Nat), .int at'])) := b2.thn s3
    have h3 := h2.same s3
    generalize upd H2 t (.tup [.int (E.length : Nat), .int at']) = H3 at b3 h3 ⊢
    have hE3 : LI H3 e E := b3 _ _ hE1 ea
    have hl3 := b3 _ _ hl1 ra
    have hT3 := (hT.same s1).but b3 fun xs => (ha.same s1).nr _
    have hV3 := hV.but b3 (fun xs => (ha.same s1).nr _) va
    have hC3 : TI H3 p cs := b3 _ _ (s1 _ _ hC) fun z => ha.nt _ (z ▸ hC)
    have b03 : But a H H3 := (But.of s1).trans b3
    -- the wide rows
    refine ⟨_, rfl, r, rfl, ⟨_, SqL.of hl3⟩, fun o ho => ?_⟩
    refine lc_list (K := K) (a := r) (xs := as.map V.ref) (fun i H4 => Same H3 H4 ∧ ∃ ws, Mat H4 o ws ((rows.take i).map (wd E.length)) ∧ ∀ b ∈ ws, H3 b = none) ⟨same_new ho, [], ⟨upd_same, List.nodup_nil, (fun h => nomatch h), rfl, fun _ _ _ h _ => by simp at h⟩, fun _ h => nomatch h⟩ (fun i H4 _ hp => SqL.of (hp.1 _ _ hl3)) ?_ ?_
    · rintro i x H4 hx ⟨s4, ws, M, hf⟩
      obtain ⟨b, hb, rfl⟩ := of_ref hx
      have hi : i < rows.length := by
        rw [← alen]
        exact (List.getElem?_eq_some_iff.mp hb).1
      have hg := List.getElem?_eq_getElem hi
      have hrow := hT3.2 i b _ hb hg
      refine ⟨rfl, _, rfl, _, rfl, _, rfl, slA_to (hrow.same s4) fun c H5 s5 hc => ⟨c, (rows[i].take E.length).map V.int, rfl, .inr hc.seq, fun l1 hl1' => ?_⟩⟩
      have s6 := same_new (o := .lst ((rows[i].take E.length).map V.int)) hl1'
      have e6 : (upd H5 l1 (.lst ((rows[i].take E.length).map V.int))) l1 = some (.lst ((rows[i].take E.length).map V.int)) := upd_same
      generalize upd H5 l1 (.lst ((rows[i].take E.length).map V.int)) = H6 at s6 e6 ⊢
      refine ⟨(by show 1 ≤ sizeLine; decide), fun l2 hl2 => ?_⟩
      have s7 := same_new (o := .lst [.int 0]) hl2
      have e7 : (upd H6 l2 (.lst [.int 0])) l2 = some (.lst [.int 0]) := upd_same
      generalize upd H6 l2 (.lst [.int 0]) = H7 at s7 e7 ⊢
      have s47 := (s5.trans s6).trans s7
      have hrl := S.rlen _ (List.getElem_mem hi)
      have hcl := C.cl
      refine ⟨_, rfl, _, rfl, b, rows[i].map V.int, rfl, .inr (hrow.same (s4.trans s47)).seq, _, _, rfl, rfl, l2, _, [.int 0], rfl, rfl, e7, ?_, ?_, ?_, fun l3 hl3' => ?_⟩
      · show -(2 ^ 63) ≤ (E.length : Int) - ((rows[i].map V.int).length : Int)
        rw [List.length_map]
        omega
      · show (E.length : Int) - ((rows[i].map V.int).length : Int) < 2 ^ 63
        omega
      · show 1 * ((E.length : Int) - ((rows[i].map V.int).length : Int)).toNat ≤ sizeLine
        exact small_line (by omega)
      have e8 : (upd H7 l3 (.lst (List.replicate ((E.length : Int) - ((rows[i].map V.int).length : Int)).toNat [V.int 0]).flatten)) l3 = some (.lst ((List.replicate (E.length - rows[i].length) (0 : Int)).map V.int)) := by
        rw [upd_same, rep_flat, List.length_map, show ((E.length : Int) - (rows[i].length : Int)).toNat = E.length - rows[i].length by omega]
      have s8 := same_new (o := .lst (List.replicate ((E.length : Int) - ((rows[i].map V.int).length : Int)).toNat [V.int 0]).flatten) hl3'
      generalize upd H7 l3 (.lst (List.replicate ((E.length : Int) - ((rows[i].map V.int).length : Int)).toNat [V.int 0]).flatten) = H8 at s8 e8 ⊢
      refine ⟨l1, l3, _, _, rfl, rfl, s8 _ _ (s7 _ _ e6), e8, ?_, fun z hz => ?_⟩
      · rw [List.length_map, List.length_map, List.length_take, List.length_replicate]
        exact small_line (by omega)
      have s9 := same_new (o := .lst ((rows[i].take E.length).map V.int ++ (List.replicate (E.length - rows[i].length) (0 : Int)).map V.int)) hz
      have s48 := s47.trans s8
      have s49 := s48.trans s9
      have M9 := M.same s49
      refine ⟨_, M9.lst, ?_, ?_, ws ++ [z], ?_, ?_⟩
      · rw [List.length_map, M.len, List.length_map, List.length_take]
        exact small_line' (by omega)
      · intro b' u hb'
        rw [upd_ne (ne_of_none hb' ho)]
        exact s49 _ _ (s4 b' u hb')
      · rw [take_snoc hg, List.map_append]
        refine M9.snoc (r := wd E.length rows[i]) ?_ ?_ ?_
        · show upd _ z _ z = _
          rw [upd_same]
          unfold wd
          rw [List.map_append]
        · intro hm
          obtain ⟨j, hj⟩ := (List.getElem?_of_mem hm)
          have hjl := (List.getElem?_eq_some_iff.mp hj).1
          obtain ⟨b', r', x1, x2, x3, _⟩ := (M.same s48).get (j := j) (by rw [← M.len]; exact hjl)
          rw [hj] at x1
          cases x1
          have x5 := hz.symm.trans x3
          cases x5
        · intro ez
          have := (M.same s48).lst
          rw [← ez, hz] at this
          cases this
      · intro b' hb'
        rcases List.mem_append.mp hb' with y | y
        · exact hf b' y
        · rw [List.mem_singleton.mp y]
          exact (s4.trans s48).free hz
    rintro H4 ⟨s4, ws, M, hf⟩
    rw [List.length_map, alen, List.take_length] at M
    have oa : o ≠ a := h3.ne ho
    have na : a ∉ ws := fun hm => by
      obtain ⟨u, hu⟩ := src_some h3
      rw [hf a hm] at hu
      cases hu
    have Wd0 : Wd E (rows.map (WW E)) 0 (rows.map (wd E.length)) := Wd.start (cs := cs) C.rb
    -- the moves
    have e9 : (10 : Int) ^ (9 : Int).toNat = 1000000000 := by decide
    refine ⟨_, rfl, _, _, rfl, rfl, (E.length : Int) - 1, rfl, by omega, by omega, for_range (n := ((E.length : Int) - 1).toNat) (fun k σ H5 => But a H3 H5 ∧ Src H5 a ∧ ∃ (rw' : List (List Int)) (y8 y9 : Option V), σ = [some (.ref a), some (.ref e), some (.ref p), some (.ref r), some (.ref v), some (.int (E.length : Nat)), some (.int at'), some (.ref o), y8, y9, none, none, none] ∧ Mat H5 o ws rw' ∧ Wd E (rows.map (WW E)) k rw')
      ⟨.of s4, h3.same s4, _, none, none, rfl, M, Wd0⟩ ?_ ?_⟩
    · rintro k σ H5 hk ⟨b5, h5, rw', y8, y9, rfl, M5, W5⟩
      have rwl : rw'.length = rows.length := by
        have := congrArg List.length W5.W
        rw [List.length_map, List.length_map] at this
        exact this
      have hk1 : k + 1 < E.length := by omega
      obtain ⟨b, row, x1, x2, x3, x4⟩ := M5.get (j := at'.toNat) (by omega)
      have hrow := List.mem_of_getElem? x2
      have hlen := W5.rlen row hrow
      have hgb := W5.bd row hrow _ (gd_mem (k := k) (by omega))
      have he1 : E[k + 1]? = some E[k + 1] := List.getElem?_eq_getElem hk1
      have hent := S.ent _ (List.getElem_mem hk1)
      refine ⟨_, rfl, _, rfl, _, rfl, o, ws.map V.ref, at', .ref b, rfl, rfl, SqL.of M5.lst, at_of (j := at'.toNat) (by omega) (at_ref x1), _, rfl, b, row.map V.int, _, .int (gd row k), rfl, rfl, li_seq x3, at_of (j := k) (by omega) (at_int (get_gd (by omega))), 10, 9, rfl, rfl, ⟨by decide, by decide, by decide⟩, _, _, rfl, _, _, rfl, rfl, a, _, rfl, h5, ?_, ?_, fun m H6 m0 m1 b6 h6 => ?_⟩
      · rw [e9]
        split <;> omega
      · rw [e9]
        refine lt2_small ?_ ?_ <;> split <;> omega
      rw [e9] at m1
      have m2 : m ≤ gd row k := by
        revert m1
        split <;> omega
      have m3 : m ≤ 1000000000 := by
        revert m1
        split <;> omega
      clear m1
      have M6 := M5.but b6 oa na
      have x6 := b6 _ _ x3 fun z => na (z ▸ x4)
      refine ⟨_, rfl, _, rfl, o, ws.map V.ref, at', .ref b, rfl, rfl, SqL.of M6.lst, at_of (j := at'.toNat) (by omega) (at_ref x1), _, rfl, b, row.map V.int, _, .int (gd row k), rfl, rfl, li_seq x6, at_of (j := k) (by omega) (at_int (get_gd (by omega))), _, rfl, _, _, rfl, rfl, ?_⟩
      refine ⟨_, rfl, _, rfl, o, ws.map V.ref, at', .ref b, rfl, rfl, SqL.of M6.lst, at_of (j := at'.toNat) (by omega) (at_ref x1), _, rfl, b, _, _, k, rfl, rfl, x6, by rw [Int.zero_add]; exact ixN_nat' (by rw [List.length_map]; omega), ?_⟩
      have M7 := M6.set (i := k) (v := gd row k - m) x1 x2
      have b7 : But a H3 (upd H6 b (.lst ((row.map V.int).set k (.int (gd row k - m))))) := (b5.trans b6).mut (hf b x4)
      have h7 : Src (upd H6 b (.lst ((row.map V.int).set k (.int (gd row k - m))))) a := h6.set fun z => na (z ▸ x4)
      have x7 : LI (upd H6 b (.lst ((row.map V.int).set k (.int (gd row k - m))))) b (row.set k (gd row k - m)) := by
        show upd H6 b _ b = _
        rw [upd_same, List.map_set]
      have x2' : (rw'.set at'.toNat (row.set k (gd row k - m)))[at'.toNat]? = some (row.set k (gd row k - m)) := List.getElem?_set_self (List.getElem?_eq_some_iff.mp x2).1
      generalize upd H6 b (.lst ((row.map V.int).set k (.int (gd row k - m)))) = H7 at M7 b7 h7 x7 ⊢
      have hl2 : (row.set k (gd row k - m)).length = E.length := by rw [List.length_set]; exact hlen
      refine ⟨_, rfl, _, rfl, o, ws.map V.ref, at', .ref b, rfl, rfl, SqL.of M7.lst, at_of (j := at'.toNat) (by omega) (at_ref x1), _, rfl, _, _, rfl, rfl, b, _, _, .int (gd (row.set k (gd row k - m)) (k + 1)), rfl, rfl, li_seq x7, at_of (j := k + 1) (by omega) (at_int (get_gd (by omega))), ?_⟩
      refine ⟨_, rfl, _, rfl, _, rfl, _, _, rfl, rfl, e, E.map V.int, _, .int E[k + 1], rfl, rfl, li_seq (b7 _ _ hE3 ea), at_of (j := k + 1) (by omega) (at_int he1), _, _, rfl, rfl, cmul (a := 2000) (b := 64) (lt2_small m0 (by omega)) (S.ent.lt2 (List.getElem_mem hk1)), _, _, rfl, rfl, ?_⟩
      refine ⟨_, rfl, _, rfl, o, ws.map V.ref, at', .ref b, rfl, rfl, SqL.of M7.lst, at_of (j := at'.toNat) (by omega) (at_ref x1), _, rfl, _, _, rfl, rfl, b, _, _, k + 1, rfl, rfl, x7, by rw [Int.zero_add]; exact ixN_nat' (j := k + 1) (by rw [List.length_map]; omega), ?_⟩
      refine ⟨b7.mut (hf b x4), h7.set fun z => na (z ▸ x4), _, _, _, rfl, M7.set x1 x2', ?_⟩
      rw [List.set_set]
      exact W5.move x2 he1 ⟨by omega, hent.2⟩ m0 m2 m3
    rintro σ H5 ⟨b5, h5, rw', y8, y9, rfl, M5, W5⟩
    -- one place more
    refine ⟨_, rfl, o, rfl, ⟨_, SqL.of M5.lst⟩, fun D hD => ?_⟩
    have Da : D ≠ a := h5.ne hD
    have rwl : rw'.length = rows.length := by
      have := congrArg List.length W5.W
      rw [List.length_map, List.length_map] at this
      exact this
    refine lc_list (K := K) (a := o) (xs := ws.map V.ref) (fun i H6 => But a H5 H6 ∧ Src H6 a ∧ ∃ sr, TL H6 D sr ∧ sr.length = i ∧ Sm E ((rw'.take i).map (WW E)) sr)
      ⟨(But.refl a H5).new hD, h5.set Da, [], ⟨[], upd_same, TA.nil⟩, rfl, (fun _ h => nomatch h), (fun _ h => nomatch h), rfl⟩ (fun i H6 _ hp => SqL.of (hp.1 _ _ M5.lst oa)) ?_ ?_
    · rintro i x H6 hx ⟨b6, h6, sr, ⟨ts, e6, t6⟩, srl, W6⟩
      obtain ⟨b, hb, rfl⟩ := of_ref hx
      have hi : i < rw'.length := by
        rw [← M5.len]
        exact (List.getElem?_eq_some_iff.mp hb).1
      have hg := List.getElem?_eq_getElem hi
      have hm := List.getElem_mem hi
      have hbm := List.mem_of_getElem? hb
      have hrow := M5.at_ i b _ hb hg
      refine ⟨rfl, _, rfl, _, rfl, a, 5, rfl, h6, by decide, lt2_small (by decide) (by decide), fun x H7 x0 x5 b7 h7 => ⟨(by show 1 ≤ sizeLine; decide), fun l1 hl1' => ?_⟩⟩
      have s8 := same_new (o := .lst [.int x]) hl1'
      have e8 : (upd H7 l1 (.lst [.int x])) l1 = some (.lst [.int x]) := upd_same
      generalize upd H7 l1 (.lst [.int x]) = H8 at s8 e8 ⊢
      have b58 := (b6.trans b7).thn s8
      have b68 := b7.thn s8
      have hlen := W5.rlen _ hm
      refine ⟨b, l1, _, _, rfl, rfl, b58 _ _ hrow (fun z => na (z ▸ hbm)), e8, ?_, fun z hz => ?_⟩
      · rw [List.length_map, hlen]
        show E.length + 1 ≤ sizeLine
        exact small_line (by omega)
      have s9 := same_new (o := .lst (rw'[i].map V.int ++ [.int x])) hz
      have e9' : (upd H8 z (.lst (rw'[i].map V.int ++ [.int x]))) z = some (.lst (rw'[i].map V.int ++ [.int x])) := upd_same
      generalize upd H8 z (.lst (rw'[i].map V.int ++ [.int x])) = H9 at s9 e9' ⊢
      refine ⟨z, _, rfl, .inl ⟨SqL.of e9', fun t' ht' => ?_⟩⟩
      have s10 := same_new (o := .tup (rw'[i].map V.int ++ [.int x])) ht'
      have b510 := (b58.thn s9).thn s10
      have b610 := (b68.thn s9).thn s10
      refine ⟨_, b610 _ _ e6 Da, ?_, ?_, ?_, sr ++ [rw'[i] ++ [x]], ?_, ?_, ?_⟩
      · rw [List.length_map, t6.1, srl]
        exact small_line' (by omega)
      · exact b510.mut hD
      · exact (((h7.same s8).same s9).same s10).set Da
      · refine tl_push (b610 _ _ e6 Da) (t6.but b610 fun xs => h6.nr _) (.of ?_)
        show upd _ t' _ t' = _
        rw [upd_same, List.map_append]
        rfl
      · rw [List.length_append, srl]
        rfl
      · rw [take_snoc hg, List.map_append]
        refine W6.snoc hlen (fun y hy => ?_) ⟨x0, x5⟩
        have hy' := W5.bd _ hm y hy
        omega
    rintro H6 ⟨b6, h6, sr, hTL, srl, W6⟩
    rw [List.length_map, M5.len] at srl W6
    rw [List.take_length, W5.W] at W6
    have St := W6.spl S en13
    obtain ⟨ts, e6, t6⟩ := hTL
    have tsl : ts.length = rows.length := by
      rw [t6.1, srl, rwl]
    -- the columns
    refine ⟨_, rfl, _, _, rfl, rfl, _, rfl, by omega, by omega, fun D2 hD2 => ?_⟩
    refine lc_range (fun k H7 => Same H6 H7 ∧ LI H7 D2 ((List.range k).map (csum sr))) ⟨same_new hD2, upd_same⟩ ?_ ?_
    · rintro k H7 hk ⟨s7, e7⟩
      refine ⟨rfl, _, rfl, D, rfl, ⟨_, SqL.of (s7 _ _ e6)⟩, fun D3 hD3 => ?_⟩
      refine lc_list (K := K) (a := D) (xs := ts.map V.ref) (fun i H8 => Same H7 H8 ∧ LI H8 D3 ((sr.take i).map fun r => gd r k)) ⟨same_new hD3, upd_same⟩ (fun i H8 _ hp => SqL.of (hp.1 _ _ (s7 _ _ e6))) ?_ ?_
      · rintro i x H8 hx ⟨s8, e8⟩
        obtain ⟨b, hb, rfl⟩ := of_ref hx
        have hi : i < sr.length := by
          rw [← t6.1]
          exact (List.getElem?_eq_some_iff.mp hb).1
        have hg := List.getElem?_eq_getElem hi
        have hrow := t6.2 i b _ hb hg
        have hlen := W6.rlen _ (List.getElem_mem hi)
        refine ⟨rfl, _, rfl, _, rfl, b, sr[i].map V.int, _, .int (gd sr[i] k), rfl, rfl, ((hrow.same s7).same s8).seq, at_of (j := k) (by omega) (at_int (get_gd (by omega))), _, e8, ?_, ?_, ?_⟩
        · rw [List.length_map, List.length_map, List.length_take]
          exact small_line' (by omega)
        · intro b u hb
          rw [upd_ne (ne_of_none hb hD3)]
          exact s8 b u hb
        · show upd _ D3 _ D3 = _
          rw [upd_same, take_snoc hg, List.map_append, List.map_append]
          rfl
      · rintro H8 ⟨s8, e8⟩
        rw [List.length_map, t6.1, List.take_length] at e8
        refine ⟨D3, _, rfl, li_seq e8, _, s8 _ _ e7, ?_, ?_, ?_⟩
        · rw [List.length_map, List.length_map, List.length_range]
          exact small_line' (by omega)
        · intro b u hb
          rw [upd_ne (ne_of_none hb hD2)]
          exact s8 _ _ (s7 b u hb)
        · show upd _ D2 _ D2 = _
          rw [upd_same, List.range_succ, List.map_append, List.map_append]
          rfl
    rintro H7 ⟨s7, e7⟩
    have e7' : LI H7 D2 (cols sr (E.length + 1)) := e7
    refine ⟨D2, _, rfl, .inl ⟨li_seq e7', fun tt htt => ?_⟩⟩
    have s8 := same_new (o := .tup ((cols sr (E.length + 1)).map V.int)) htt
    have e8 : TI (upd H7 tt (.tup ((cols sr (E.length + 1)).map V.int))) tt (cols sr (E.length + 1)) := upd_same
    generalize upd H7 tt (.tup ((cols sr (E.length + 1)).map V.int)) = H8 at s8 e8 ⊢
    have s68 := s7.trans s8
    have b38 := (b5.trans b6).thn s68
    -- the values
    refine ⟨_, rfl, _, rfl, _, rfl, E, cols sr (E.length + 1), sr, ⟨e, tt, D, rfl, b38 _ _ hE3 ea, e8, ⟨ts, s68 _ _ e6, t6.same s68⟩, St⟩, fun v2 H9 s9 hv2 hV2 => ?_⟩
    have b39 := b38.thn s9
    rw [val_eq W6.W] at hV2
    refine ⟨_, rfl, _, _, dp_TL hV2, dp_TL (hV3.but b39 (fun xs => h3.nr _) va), sh_R _, sh_R _, ?_⟩
    rw [eqv_self (sh_R _)]
    exact q H9 (b03.trans b39) (((h6.same s68)).same s9)
end
end Sc

/-! the law's third part: a climber moved -/
namespace Sc
open L2 PyProof.Rows PySem PySem.Spec
theorem TA.set {H : Hp} {as : List Addr} {rows : List (List Int)} {i : Nat} {t : Addr} {r : List Int} (h : TA H as rows) (ht : TR H t r) : TA H (as.set i t) (rows.set i r) := by
  refine ⟨by rw [List.length_set, List.length_set]; exact h.1, fun j a q e1 e2 => ?_⟩
  by_cases hj : i = j
  · subst hj
    have h1 : i < as.length := by
      have := (List.getElem?_eq_some_iff.mp e1).1
      rw [List.length_set] at this
      exact this
    rw [List.getElem?_set_self h1] at e1
    rw [List.getElem?_set_self (by rw [← h.1]; exact h1)] at e2
    have x1 : t = a := Option.some.inj e1
    have x2 : r = q := Option.some.inj e2
    rw [← x1, ← x2]
    exact ht
  · rw [List.getElem?_set_ne hj] at e1 e2
    exact h.2 j a q e1 e2
theorem set_cut {r : List Int} {k : Nat} (hk : k < r.length) (x : Int) : r.take k ++ [x] ++ r.drop (k + 1) = r.set k x := by
  apply List.ext_getElem?
  intro i
  rw [List.append_assoc]
  by_cases h1 : i < k
  · rw [List.getElem?_append_left (by rw [List.length_take]; omega), List.getElem?_take_of_lt h1, List.getElem?_set_ne (by omega)]
  · rw [List.getElem?_append_right (by rw [List.length_take]; omega), List.length_take, Nat.min_eq_left (by omega)]
    by_cases h2 : i = k
    · subst h2
      rw [Nat.sub_self, List.getElem?_set_self hk]
      rfl
    · rw [List.getElem?_set_ne (by omega), show i - k = (i - k - 1) + 1 by omega]
      show (r.drop (k + 1))[i - k - 1]? = _
      rw [List.getElem?_drop]
      congr 1
      omega
/-- one from the group i1 to the group i2, at the place k -/
structure Mv (E cs : List Int) (rows : List (List Int)) (i1 i2 k : Nat) (r1 r2 : List Int) : Prop where
  ne : i1 ≠ i2
  h1 : rows[i1]? = some r1
  h2 : rows[i2]? = some r2
  k1 : k < r1.length
  k2 : k < r2.length
  pos : 1 ≤ gd r1 k
def mvd (rows : List (List Int)) (i1 i2 k : Nat) (r1 r2 : List Int) : List (List Int) := (rows.set i1 (r1.set k (gd r1 k - 1))).set i2 (r2.set k (gd r2 k + 1))
theorem Mv.get2 {E cs : List Int} {rows : List (List Int)} {i1 i2 k : Nat} {r1 r2 : List Int} (h : Mv E cs rows i1 i2 k r1 r2) : (rows.set i1 (r1.set k (gd r1 k - 1)))[i2]? = some r2 := by
  rw [List.getElem?_set_ne h.ne]
  exact h.h2
theorem Mv.spl {E cs : List Int} {rows : List (List Int)} {i1 i2 k : Nat} {r1 r2 : List Int} (h : Mv E cs rows i1 i2 k r1 r2) (C : Scn E cs rows) : Spl E cs (mvd rows i1 i2 k r1 r2) := by
  have S := C.S
  have m1 := List.mem_of_getElem? h.h1
  have m2 := List.mem_of_getElem? h.h2
  have hl : (mvd rows i1 i2 k r1 r2).length = rows.length := by
    unfold mvd
    rw [List.length_set, List.length_set]
  have hm : ∀ r ∈ mvd rows i1 i2 k r1 r2, r.length = cs.length ∧ ∀ x ∈ r, 0 ≤ x ∧ x < 2 ^ 121 := by
    intro r hr
    have hold : ∀ r ∈ rows, r.length = cs.length ∧ ∀ x ∈ r, 0 ≤ x ∧ x < 2 ^ 121 := fun r hr => ⟨S.rlen r hr, fun x hx => by
      have := C.rb r hr x hx
      omega⟩
    unfold mvd at hr
    rcases mem_set hr with z | z
    · rw [z]
      refine ⟨by rw [List.length_set]; exact S.rlen r2 m2, fun x hx => ?_⟩
      rcases mem_set hx with y | y
      · have := C.rb r2 m2 _ (gd_mem h.k2)
        omega
      · exact (hold r2 m2).2 x y
    · rcases mem_set z with z | z
      · rw [z]
        refine ⟨by rw [List.length_set]; exact S.rlen r1 m1, fun x hx => ?_⟩
        rcases mem_set hx with y | y
        · have := C.rb r1 m1 _ (gd_mem h.k1)
          have := h.pos
          omega
        · exact (hold r1 m1).2 x y
      · exact hold r z
  refine ⟨S.ent, S.ne, S.len, by rw [hl]; exact S.g, by rw [hl]; exact S.rl, S.cl, fun r hr => (hm r hr).1, fun r hr x hx => ⟨((hm r hr).2 x hx).1, Lt2.mono (a := 121) (by have := (hm r hr).2 x hx; unfold Lt2; omega) (by decide)⟩, S.cc, ?_⟩
  have hc := S.col
  refine Eq.trans ?_ hc
  unfold cols
  refine List.map_congr_left fun j _ => ?_
  unfold mvd
  rw [csum_set h.get2, csum_set h.h1, gd_set h.k2, gd_set h.k1]
  split
  · rename_i e
    subst e
    omega
  · omega
theorem mvd_at1 {E cs : List Int} {rows : List (List Int)} {i1 i2 k : Nat} {r1 r2 : List Int} (h : Mv E cs rows i1 i2 k r1 r2) : (mvd rows i1 i2 k r1 r2)[i1]? = some (r1.set k (gd r1 k - 1)) := by
  unfold mvd
  rw [List.getElem?_set_ne (Ne.symm h.ne), List.getElem?_set_self (List.getElem?_eq_some_iff.mp h.h1).1]
theorem mvd_at2 {E cs : List Int} {rows : List (List Int)} {i1 i2 k : Nat} {r1 r2 : List Int} (h : Mv E cs rows i1 i2 k r1 r2) : (mvd rows i1 i2 k r1 r2)[i2]? = some (r2.set k (gd r2 k + 1)) := by
  unfold mvd
  rw [List.getElem?_set_self (List.getElem?_eq_some_iff.mp h.get2).1]
theorem mvd_else {rows : List (List Int)} {i1 i2 k j : Nat} {r1 r2 : List Int} (n1 : j ≠ i1) (n2 : j ≠ i2) : (mvd rows i1 i2 k r1 r2)[j]? = rows[j]? := by
  unfold mvd
  rw [List.getElem?_set_ne (Ne.symm n2), List.getElem?_set_ne (Ne.symm n1)]
theorem val_less {E r : List Int} {k : Nat} (hE : Ent E) (hk : k < r.length) : WW E (r.set k (gd r k - 1)) / pr (E.drop 1) ≤ WW E r / pr (E.drop 1) ∧ -((-WW E (r.set k (gd r k - 1))) / pr (E.drop 1)) ≤ -((-WW E r) / pr (E.drop 1)) := by
  have h : WW E (r.set k (gd r k - 1)) = WW E r + -1 * co E k := W_set (d := -1) hk
  have hp := pr_pos (hE.drop 1)
  have hc := co_nonneg hE k
  have hle : WW E (r.set k (gd r k - 1)) ≤ WW E r := by
    rw [h]
    omega
  exact ⟨floor_mono hp hle, ceil_mono hp hle⟩
theorem val_more {E r : List Int} {k : Nat} (hE : Ent E) (hk : k < r.length) : WW E r / pr (E.drop 1) ≤ WW E (r.set k (gd r k + 1)) / pr (E.drop 1) ∧ -((-WW E r) / pr (E.drop 1)) ≤ -((-WW E (r.set k (gd r k + 1))) / pr (E.drop 1)) := by
  have h : WW E (r.set k (gd r k + 1)) = WW E r + 1 * co E k := W_set (d := 1) hk
  have hp := pr_pos (hE.drop 1)
  have hc := co_nonneg hE k
  have hle : WW E r ≤ WW E (r.set k (gd r k + 1)) := by
    rw [h]
    omega
  exact ⟨floor_mono hp hle, ceil_mono hp hle⟩
theorem val_top {E r : List Int} (hE : Ent E) (ne : E ≠ []) (hk : 0 < r.length) : val E (r.set 0 (gd r 0 - 1)) = [WW E r / pr (E.drop 1) - 1, -((-WW E r) / pr (E.drop 1)) - 1] := by
  have h : WW E (r.set 0 (gd r 0 - 1)) = WW E r + -1 * co E 0 := W_set (d := -1) hk
  have hp := pr_pos (hE.drop 1)
  cases E with
  | nil => exact absurd rfl ne
  | cons e E =>
    rw [co_zero] at h
    unfold val
    rw [h]
    have hp' : 0 < pr E := hp
    show [(WW (e :: E) r + -1 * pr E) / pr E, -((-(WW (e :: E) r + -1 * pr E)) / pr E)] = [WW (e :: E) r / pr E - 1, -((-WW (e :: E) r) / pr E) - 1]
    rw [floor_one hp', ceil_one hp']
theorem same_mut {H H1 : Hp} {l : Addr} {x : HO} (s : Same H H1) (h : H l = none) : Same H (upd H1 l x) := fun b u hb => by
  rw [upd_ne (ne_of_none hb h)]
  exact s b u hb
theorem TR.updl {H : Hp} {a l : Addr} {ns : List Int} {xs : List V} {o : HO} (h : TR H a ns) (hl : H l = some (.lst xs)) : TR (upd H l o) a ns := by
  have n : a ≠ l := fun z => (z ▸ h).nl _ hl
  obtain ⟨o', k, e⟩ := h
  exact ⟨o', k, by rw [upd_ne n]; exact e⟩
theorem Src.nd {H : Hp} {a b : Addr} (h : Src H a) (n : Nd H b) : b ≠ a := fun z => by
  obtain ⟨c, c0, d, e⟩ := h
  obtain ⟨ob, u, e', _⟩ := n
  rw [z, e] at e'
  cases e'
theorem inV_at {x : Int} {y : Int} : inV (.int x) [.int x, .int y] = true := by
  unfold inV
  rw [List.any_cons, eqV_int, decide_eq_true rfl]
  rfl
theorem inV_at' {x : Int} {y : Int} : inV (.int x) [.int y, .int x] = true := by
  unfold inV
  rw [List.any_cons, List.any_cons, eqV_int, eqV_int, decide_eq_true (rfl : x = x)]
  cases decide (y = x) <;> rfl
/-! ### a method of a tuple whose object is known -/
def tBmN (r : V → List V → Hp → VK → Prop) (to : TE) (t : L2.TA) : TE := fun σ H Q => to σ H fun x H1 => (∃ p, x = .ref p ∧ Nd H1 p) ∧ t σ H1 fun xs H2 => r x xs H2 Q
theorem pe_bmN {X : Cx} {ob ex : Expr} {rest : List Expr} {to : TE} {ta : L2.TA} {nm : Str} {pa pc : Pos} {id : String} {r : V → List V → Hp → VK → Prop} (at_ : PlainAttrs "tuple") (sl : Slot "tuple" nm id) (ty : typeOf (.builtin id) = pure (.type "method_descriptor")) (hm : MtR X id r)
    (ho : PE X ob to) (ha : PA X (ex :: rest) ta) (b1 : attributeBase ob nm X.env (eval ob X.env) = eval ob X.env := by rfl) (b2 : ((backTo pc (starEach (ex :: rest) X.env)).all (fun x => !x.1) && (backToKw pc (keywordEach [] X.env)).all (fun x => x.1.isSome)
      && decide ((ex :: rest).length + ([] : List Keyword).length + (if ([] : List Keyword).isEmpty then 0 else 1) < 30)) = true := by rfl) (b3 : (pa.endLine == pc.line) = true := by rfl)
    (b4 : starEach (ex :: rest) X.env = (false, eval ex X.env) :: starEach rest X.env := by rfl) (b5 : (backTo pc (starEach rest X.env)).any (·.1) = false := by rfl) : PE X (.Call (.Attribute ob nm pa) (ex :: rest) [] pc) (tBmN r to ta) := by
  refine ⟨fun pins s σ H Q I h => wpAny_Call_method_late b1 b2 b3 rfl (thn (ho.run pins s σ H _ I h) fun v s1 ⟨x, H1, I1, r1, ⟨p, e, o', u, hu, hc, hd⟩, q1⟩ => ?_)⟩
  subst e
  have rv : v = .ref p := by
    cases r1
    rfl
  have hg : s1.heap.get? p = some o' := (I1.hok p _ hu).1
  refine ⟨"tuple", id, at_, sl, ty, by rw [rv]; exact ⟨o', hg, hc⟩, fun a z => ?_, ?_⟩
  · rw [rv] at z
    cases z
    exact ⟨o', hg, hd⟩
  have hA := ha.run pc pins s1 σ H1 _ I1 q1
  rw [b4] at hA ⊢
  exact Calls.callWith_builtin (by show (false || (backTo pc (starEach rest X.env)).any (·.1)) = false; rw [b5] <;> rfl) (Calls.evalArgs_plain (thn hA fun us s2 ⟨vs, H2, I2, r2, q2⟩ => hm pins s2 σ H2 _ vs v us Q I2 r1 r2 q2))
section
variable {base : Heap} {mg : Str → Option Value} {K : PySem.W.Frag} {w : World} {P : Program}
abbrev nMoved : List Str := ["_law_source_here", "_law_entries", "_law_people_here", "_law_rows", "_law_one", "_law_other", "_law_at", "_law_before", "_law_moved", "_law_found", "_law_k", "_law_pair"]
theorem scMoved : FnScope nMoved ["_law_source_here", "_law_entries", "_law_people_here", "_law_rows"] (defScope sMoved) := ⟨rfl, rfl, rfl, by decide +kernel, rfl, by decide +kernel, by decide +kernel⟩
theorem ok_moved {f f1 f2 : Addr} {fd fd1 fd2 : FuncData} (F : Fun K "_law_moved_right" "_law_moved_right" sMoved f fd) (B : Blt mg) (G1 : Cal P w K mg base 6 "group_values" f1 fd1 ["schedule", "counts", "split"] (spGValues K)) (G2 : Cal P w K mg base 2 "_law_take" f2 fd2 ["_law_source_here", "_law_count"] spTake) :
    FnOk P w K mg base CX0 7 f fd ["_law_source_here", "_law_entries", "_law_people_here", "_law_rows"] spPart := by
  refine F.ok scMoved (fun vs H Q E h => ?_) (fun cdv A outer s H vs Q E hr h => ?_)
  · obtain ⟨a, e, p, r, E, cs, rows, hA, _⟩ := h
    rw [hA.vs]
    rfl
  · obtain ⟨a, e, p, r, E, cs, rows, ⟨rfl, ha, hE, hC, ⟨as, hl, hT, hN⟩, C, ea, ra⟩, q⟩ := h
    have S := C.S
    have hr2 : Room 2 _ := Room.mono hr (by decide)
    refine ⟨_, pss_cons (ps_par (i := 4) (j := 5) (by rfl) scMoved.nd rfl rfl (by decide) rfl rfl (p2 (pc G2 hr2 (p2 (pv 0) (pb (r := rLen K) call_len_seq B.len (p1 (pv 3))))) (pc G2 hr2 (p2 (pv 0) (pb (r := rLen K) call_len_seq B.len (p1 (pv 3)))))) (by rfl))
      (pss_cons (ps_if (PW.pt (pw_or (pt_cmpR op_eq (pv 4) (pv 5) (nomark _)) (pw_or1 (pt_cmpR op_eq (pb (cr_maxT rfl hr.units) B.max (p1 (pe_op op_catA (pe_tup (p1 pe_int)) (pe_ix ix_list (pv 3) (pv 4) (fun _ _ => rfl))))) pe_int (nomark _))))) (pss_one (ps_ret pe_bl)) pss_nil)
      (pss_cons (ps_set (i := 6) scMoved.nd rfl (.inl rfl) (pe_bmN PySem.F.plainAttrs_tuple PySem.F.slot_tuple_index PySem.F.type_tuple_index mt_tup_indexI (pe_ix ix_list (pv 3) (pv 4) (fun _ _ => rfl)) (p1 (pb (cr_maxT rfl hr.units) B.max (p1 (pe_ix ix_list (pv 3) (pv 4) (fun _ _ => rfl)))))))
      (pss_cons (ps_set (i := 7) scMoved.nd rfl (.inl rfl) (pc G1 hr (p3 (pv 1) (pv 2) (pv 3))))
      (pss_cons (ps_set (i := 8) scMoved.nd rfl (.inl rfl) (pt' (r := rLst K) call_list_of B.list (p1 (pv 3))))
      (pss_cons (ps_asg (pe_op op_catA (pe_op op_catA (pe_slice sl_tupA (pe_ix ix_list (pv 3) (pv 4) (fun _ _ => rfl)) po_none (po_some (pv 6))) (pe_tup (p1 (pe_op op_sub (pe_ix ix_tup (pe_ix ix_list (pv 3) (pv 4) (fun _ _ => rfl)) (pv 6) (fun _ _ => rfl)) pe_int)))) (pe_slice sl_tupA (pe_ix ix_list (pv 3) (pv 4) (fun _ _ => rfl)) (po_some (pe_op op_add (pv 6) pe_int)) po_none)) (pg_sub (pv 8) (pv 4) set_list))
      (pss_cons (ps_asg (pe_op op_catA (pe_op op_catA (pe_slice sl_tupA (pe_ix ix_list (pv 3) (pv 5) (fun _ _ => rfl)) po_none (po_some (pv 6))) (pe_tup (p1 (pe_op op_add (pe_ix ix_tup (pe_ix ix_list (pv 3) (pv 5) (fun _ _ => rfl)) (pv 6) (fun _ _ => rfl)) pe_int)))) (pe_slice sl_tupA (pe_ix ix_list (pv 3) (pv 5) (fun _ _ => rfl)) (po_some (pe_op op_add (pv 6) pe_int)) po_none)) (pg_sub (pv 8) (pv 5) set_list))
      (pss_cons (ps_set (i := 9) scMoved.nd rfl (.inl rfl) (pc G1 hr (p3 (pv 1) (pv 2) (pv 8))))
      (pss_cons (ps_for PassesOwn.never rfl (pi_enumX true (by rfl) B.enum (p1 (pv 9))) (pg_tup rfl (pgs_cons (pg_name (i := 10) scMoved.nd rfl (.inl rfl)) (pgs_cons (pg_name (i := 11) scMoved.nd rfl (.inl rfl)) pgs_nil)))
        (pss_cons (ps_if (PW.pt (pw_and (pt_cmpR op_notIn_seq (pv 10) (pe_tup (p2 (pv 4) (pv 5))) rfl) (pw_and1 (pt_cmpR (op_neD hr.units) (pv 11) (pe_ix ix_list (pv 7) (pv 10) (fun _ _ => rfl)) (nomark _))))) (pss_one ps_never) pss_nil)
        (pss_cons (ps_if (PW.pt (pw_and (pt_cmpR op_eq (pv 10) (pv 4) (nomark _)) (pw_and1 (PW.pt (pw_or (pt_cmpR op_gt (pe_ix ix_tup (pv 11) pe_int (fun _ _ => rfl)) (pe_ix ix_tup (pe_ix ix_list (pv 7) (pv 10) (fun _ _ => rfl)) pe_int (fun _ _ => rfl)) (nomark _))
          (pw_or1 (pt_cmpR op_gt (pe_ix ix_tup (pv 11) pe_int (fun _ _ => rfl)) (pe_ix ix_tup (pe_ix ix_list (pv 7) (pv 10) (fun _ _ => rfl)) pe_int (fun _ _ => rfl)) (nomark _)))))))) (pss_one ps_never) pss_nil)
        (pss_one (ps_if (PW.pt (pw_and (pt_cmpR op_eq (pv 10) (pv 5) (nomark _)) (pw_and1 (PW.pt (pw_or (pt_cmpR op_lt (pe_ix ix_tup (pv 11) pe_int (fun _ _ => rfl)) (pe_ix ix_tup (pe_ix ix_list (pv 7) (pv 10) (fun _ _ => rfl)) pe_int (fun _ _ => rfl)) (nomark _))
          (pw_or1 (pt_cmpR op_lt (pe_ix ix_tup (pv 11) pe_int (fun _ _ => rfl)) (pe_ix ix_tup (pe_ix ix_list (pv 7) (pv 10) (fun _ _ => rfl)) pe_int (fun _ _ => rfl)) (nomark _)))))))) (pss_one ps_never) pss_nil)))))
      (pss_one (ps_ret (pe_or (pe_cmpR op_gt (pv 6) pe_int (nomark _)) (pe_one (pe_cmpR (op_eqD hr.units) (pe_ix ix_list (pv 9) (pv 4) (fun _ _ => rfl)) (pe_tup (p2 (pe_op op_sub (pe_ix ix_tup (pe_ix ix_list (pv 7) (pv 4) (fun _ _ => rfl)) pe_int (fun _ _ => rfl)) pe_int)
        (pe_op op_sub (pe_ix ix_tup (pe_ix ix_list (pv 7) (pv 4) (fun _ _ => rfl)) pe_int (fun _ _ => rfl)) pe_int))) (nomark _)))))))))))))), ?_⟩
    have alen : as.length = rows.length := hT.1
    have g2 := S.pos
    have grl := S.rl
    have gcl := C.cl
    -- two groups
    refine ⟨_, rfl, _, rfl, r, as.map V.ref, rfl, .inl (SqL.of hl), ?_⟩
    rw [List.length_map, alen]
    refine ⟨a, _, rfl, ha, by omega, lt2_small (by omega) (by omega), fun one H1 o0 o1 b1 h1 => ?_⟩
    obtain ⟨i1, rfl⟩ := Int.eq_ofNat_of_zero_le o0
    have hl1 := b1 _ _ hl ra
    refine ⟨_, rfl, _, rfl, r, as.map V.ref, rfl, .inl (SqL.of hl1), ?_⟩
    rw [List.length_map, alen]
    refine ⟨a, _, rfl, h1, by omega, lt2_small (by omega) (by omega), fun oth H2 q0 q1 b2 h2 => ?_⟩
    obtain ⟨i2, rfl⟩ := Int.eq_ofNat_of_zero_le q0
    refine ⟨_, _, rfl, ?_⟩
    have b02 := b1.trans b2
    have hE2 : LI H2 e E := b02 _ _ hE ea
    have hl2 := b02 _ _ hl ra
    have hT2 := hT.but b02 fun xs => ha.nr _
    have hC2 : TI H2 p cs := b02 _ _ hC fun z => ha.nt _ (z ▸ hC)
    have hN2 : ∀ b ∈ as, Nd H2 b := fun b hb => (hN b hb).but b02 (ha.nd (hN b hb))
    have hr1 := List.getElem?_eq_getElem (l := rows) (i := i1) (by omega)
    have hr2' := List.getElem?_eq_getElem (l := rows) (i := i2) (by omega)
    generalize rows[i1] = r1 at hr1
    generalize rows[i2] = r2 at hr2'
    obtain ⟨c1, hc1, t1⟩ := hT2.get hr1
    obtain ⟨c2, hc2, t2⟩ := hT2.get hr2'
    have m1 := List.mem_of_getElem? hr1
    have m2 := List.mem_of_getElem? hr2'
    have l1 := S.rlen r1 m1
    have l2 := S.rlen r2 m2
    -- nothing to move
    refine ⟨_, rfl, _, rfl, rfl, _, rfl, ite2 (fun _ => iteT (q H2 b02 h2)) (fun nq => ?_)⟩
    have n12 : i1 ≠ i2 := fun z => nq (decide_eq_true (by rw [z]))
    refine ⟨(by show 1 ≤ sizeLine; decide), fun t0 ht0 => ?_⟩
    have s3 := same_new (o := .tup [.int 0]) ht0
    have e3 : TI (upd H2 t0 (.tup [.int 0])) t0 [0] := upd_same
    generalize upd H2 t0 (.tup [.int 0]) = H3 at s3 e3 ⊢
    refine ⟨_, rfl, _, rfl, r, as.map V.ref, _, .ref c1, rfl, rfl, SqL.of (s3 _ _ hl2), at_of (j := i1) rfl (at_ref hc1), catA_ti (xs := [0]) (ys := r1) (.of e3) (t1.same s3) (by rw [l1]; show 1 + cs.length ≤ 100000; omega) fun p' H4 s4 hp' => ⟨p', 0, r1, rfl, hp'.seq, fun m hm hge => ?_⟩⟩
    refine ⟨rfl, _, rfl, ite2 (fun _ => q _ ((b02.thn s3).thn s4) ((h2.same s3).same s4)) (fun hm0 => ?_)⟩
    have mne : m ≠ 0 := fun z => hm0 (decide_eq_true (by rw [z]))
    have hge0 := hge 0 List.mem_cons_self
    have hm1 : m ∈ r1 := by
      rcases (List.mem_cons.mp hm) with z | z
      · exact absurd z mne
      · exact z
    have s24 := s3.trans s4
    obtain ⟨n0, ns, en⟩ : ∃ n0 ns, r1 = n0 :: ns := by
      cases r1 with
      | nil => cases hm1
      | cons n0 ns => exact ⟨n0, ns, rfl⟩
    -- the place
    refine ⟨_, rfl, _, rfl, r, as.map V.ref, _, .ref c1, rfl, rfl, SqL.of (s24 _ _ hl2), at_of (j := i1) rfl (at_ref hc1), ⟨c1, rfl, (hN2 c1 (List.mem_of_getElem? hc1)).same s24⟩, _, rfl, _, rfl, r, as.map V.ref, _, .ref c1, rfl, rfl, SqL.of (s24 _ _ hl2), at_of (j := i1) rfl (at_ref hc1), ⟨c1, n0, ns, rfl, by rw [← en]; exact (t1.same s24).seq, fun mx hmx hgx => ?_⟩⟩
    rw [← en] at hmx hgx
    obtain ⟨k, hk, hno⟩ := first_ix hmx
    refine ⟨c1, r1, mx, k, rfl, rfl, (t1.same s24).seq, hk, hno, ?_⟩
    have hk1 := (List.getElem?_eq_some_iff.mp hk).1
    have M : Mv E cs rows i1 i2 k r1 r2 := ⟨n12, hr1, hr2', hk1, by omega, by
      rw [gd_some hk]
      have := hgx m hm1
      omega⟩
    -- the values before
    refine ⟨_, rfl, _, rfl, _, rfl, E, cs, rows, ⟨e, p, r, rfl, s24 _ _ hE2, s24 _ _ hC2, ⟨as, s24 _ _ hl2, hT2.same s24⟩, S⟩, fun v H5 s5 hv hV => ?_⟩
    have s25 := s24.trans s5
    refine ⟨_, rfl, r, as.map V.ref, rfl, .inl (SqL.of (s25 _ _ hl2)), fun l hll => ?_⟩
    have s6 := same_new (o := .lst (as.map V.ref)) hll
    have e6 : (upd H5 l (.lst (as.map V.ref))) l = some (.lst (as.map V.ref)) := upd_same
    generalize upd H5 l (.lst (as.map V.ref)) = H6 at s6 e6 ⊢
    have s26 := s25.trans s6
    -- the one group
    refine ⟨_, rfl, _, rfl, r, as.map V.ref, _, .ref c1, rfl, rfl, SqL.of (s26 _ _ hl2), at_of (j := i1) rfl (at_ref hc1), _, rfl, _, rfl, slA_to (n := k) (t1.same s26) fun d1 H7 s7 hd1 => ?_⟩
    have s27 := s26.trans s7
    refine ⟨_, rfl, _, rfl, r, as.map V.ref, _, .ref c1, rfl, rfl, SqL.of (s27 _ _ hl2), at_of (j := i1) rfl (at_ref hc1), _, rfl, c1, r1.map V.int, _, .int (gd r1 k), rfl, rfl, (t1.same s27).seq, at_of (j := k) rfl (at_int (get_gd M.k1)), _, _, rfl, rfl, (by show 1 ≤ sizeLine; decide), fun d2 hd2 => ?_⟩
    have s8 := same_new (o := .tup [.int (gd r1 k - 1)]) hd2
    have e8 : TI (upd H7 d2 (.tup [.int (gd r1 k - 1)])) d2 [gd r1 k - 1] := upd_same
    generalize upd H7 d2 (.tup [.int (gd r1 k - 1)]) = H8 at s8 e8 ⊢
    refine catA_ti (hd1.same s8) (.of e8) (by rw [List.length_take]; show _ + 1 ≤ 100000; omega) fun d3 H9 s9 hd3 => ?_
    have s29 := (s27.trans s8).trans s9
    refine ⟨_, rfl, _, rfl, r, as.map V.ref, _, .ref c1, rfl, rfl, SqL.of (s29 _ _ hl2), at_of (j := i1) rfl (at_ref hc1), _, rfl, _, _, rfl, rfl, _, rfl, ?_⟩
    unfold tNoPart
    dsimp only
    refine slA_from (n := k + 1) (t1.same s29) fun d4 H10 s10 hd4 => ?_
    refine catA_ti (hd3.same s10) hd4 (by rw [List.length_append, List.length_take, List.length_drop]; show _ + 1 + _ ≤ 100000; omega) fun d5 H11 s11 hd5 => ?_
    rw [set_cut M.k1] at hd5
    have s611 := (((s7.trans s8).trans s9).trans s10).trans s11
    have e11 := s611 _ _ e6
    have s511 := s6.trans s611
    refine ⟨_, rfl, _, rfl, l, _, _, i1, rfl, rfl, e11, ixN_nat' (by rw [List.length_map]; omega), ?_⟩
    have s512 := same_mut (x := .lst ((as.map V.ref).set i1 (.ref d5))) s511 hll
    have e12 : (upd H11 l (.lst ((as.map V.ref).set i1 (.ref d5)))) l = some (.lst ((as.map V.ref).set i1 (.ref d5))) := upd_same
    have hd5' := hd5.updl (o := .lst ((as.map V.ref).set i1 (.ref d5))) e11
    generalize upd H11 l (.lst ((as.map V.ref).set i1 (.ref d5))) = H12 at s512 e12 hd5' ⊢
    have s212 := s25.trans s512
    -- the other group
    refine ⟨_, rfl, _, rfl, r, as.map V.ref, _, .ref c2, rfl, rfl, SqL.of (s212 _ _ hl2), at_of (j := i2) rfl (at_ref hc2), _, rfl, _, rfl, slA_to (n := k) (t2.same s212) fun d6 H13 s13 hd6 => ?_⟩
    have s213 := s212.trans s13
    refine ⟨_, rfl, _, rfl, r, as.map V.ref, _, .ref c2, rfl, rfl, SqL.of (s213 _ _ hl2), at_of (j := i2) rfl (at_ref hc2), _, rfl, c2, r2.map V.int, _, .int (gd r2 k), rfl, rfl, (t2.same s213).seq, at_of (j := k) rfl (at_int (get_gd M.k2)), _, _, rfl, rfl, (by show 1 ≤ sizeLine; decide), fun d7 hd7 => ?_⟩
    have s14 := same_new (o := .tup [.int (gd r2 k + 1)]) hd7
    have e14 : TI (upd H13 d7 (.tup [.int (gd r2 k + 1)])) d7 [gd r2 k + 1] := upd_same
    generalize upd H13 d7 (.tup [.int (gd r2 k + 1)]) = H14 at s14 e14 ⊢
    refine catA_ti (hd6.same s14) (.of e14) (by rw [List.length_take]; show _ + 1 ≤ 100000; omega) fun d8 H15 s15 hd8 => ?_
    have s215 := (s213.trans s14).trans s15
    refine ⟨_, rfl, _, rfl, r, as.map V.ref, _, .ref c2, rfl, rfl, SqL.of (s215 _ _ hl2), at_of (j := i2) rfl (at_ref hc2), _, rfl, _, _, rfl, rfl, _, rfl, ?_⟩
    refine slA_from (n := k + 1) (t2.same s215) fun d9 H16 s16 hd9 => ?_
    refine catA_ti (hd8.same s16) hd9 (by rw [List.length_append, List.length_take, List.length_drop]; show _ + 1 + _ ≤ 100000; omega) fun d10 H17 s17 hd10 => ?_
    rw [set_cut M.k2] at hd10
    have s1217 := (((s13.trans s14).trans s15).trans s16).trans s17
    have e17 := s1217 _ _ e12
    have s517 := s512.trans s1217
    refine ⟨_, rfl, _, rfl, l, _, _, i2, rfl, rfl, e17, ixN_nat' (by rw [List.length_set, List.length_map]; omega), ?_⟩
    have s518 := same_mut (x := .lst (((as.map V.ref).set i1 (.ref d5)).set i2 (.ref d10))) s517 hll
    have e18 : (upd H17 l (.lst (((as.map V.ref).set i1 (.ref d5)).set i2 (.ref d10)))) l = some (.lst (((as.set i1 d5).set i2 d10).map V.ref)) := by
      rw [upd_same, List.map_set, List.map_set]
    have g5 := (hd5'.same s1217).updl (o := .lst (((as.map V.ref).set i1 (.ref d5)).set i2 (.ref d10))) e17
    have g10 := hd10.updl (o := .lst (((as.map V.ref).set i1 (.ref d5)).set i2 (.ref d10))) e17
    generalize upd H17 l (.lst (((as.map V.ref).set i1 (.ref d5)).set i2 (.ref d10))) = H18 at s518 e18 g5 g10 ⊢
    have s218 := s25.trans s518
    have T18 : TA H18 ((as.set i1 d5).set i2 d10) (mvd rows i1 i2 k r1 r2) := ((hT2.same s218).set g5).set g10
    -- the values found
    refine ⟨_, rfl, _, rfl, _, rfl, E, cs, mvd rows i1 i2 k r1 r2, ⟨e, p, l, rfl, s218 _ _ hE2, s218 _ _ hC2, ⟨_, e18, T18⟩, M.spl C⟩, fun v2 H19 s19 hv2 hV2 => ?_⟩
    have s519 := s518.trans s19
    have s219 := s25.trans s519
    obtain ⟨ws, hws, hW⟩ := hV.same s519
    obtain ⟨ws2, hws2, hW2⟩ := hV2
    have ml : (mvd rows i1 i2 k r1 r2).length = rows.length := by
      unfold mvd
      rw [List.length_set, List.length_set]
    have w2l : ws2.length = rows.length := by
      rw [hW2.1, List.length_map, ml]
    refine ⟨_, rfl, v2, ws2.map V.ref, rfl, SqL.of hws2, for_it walk_enumX (fun i σ Hi => Same H19 Hi ∧ ∃ y10 y11, σ = [some (.ref a), some (.ref e), some (.ref p), some (.ref r), some (.int (i1 : Nat)), some (.int (i2 : Nat)), some (.int (k : Nat)), some (.ref v), some (.ref l), some (.ref v2), y10, y11]) ⟨same_refl H19, none, none, rfl⟩ (fun i σ Hi _ hp => SqL.of (hp.1 _ _ hws2)) ?_ ?_⟩
    · rintro i x σ Hi Hj hi ⟨sm, y10, y11, rfl⟩ ⟨T, u, w', rfl, hTn, rfl, k1, k2⟩
      have eu : V.int (i : Nat) = u := Option.some.inj k1
      subst eu
      obtain ⟨b, hb, rfl⟩ := of_ref k2
      have hil : i < rows.length := by
        rw [← w2l]
        exact (List.getElem?_eq_some_iff.mp hb).1
      have hro := List.getElem?_eq_getElem hil
      have hrn := List.getElem?_eq_getElem (l := mvd rows i1 i2 k r1 r2) (i := i) (by omega)
      generalize rows[i] = ro at hro
      generalize (mvd rows i1 i2 k r1 r2)[i] = rn at hrn
      have tP : TR H19 b (val E rn) := hW2.2 i b _ hb (by rw [List.getElem?_map, hrn]; rfl)
      obtain ⟨b', hb', tB⟩ := hW.get (j := i) (r := val E ro) (by rw [List.getElem?_map, hro]; rfl)
      have eq0 : i ≠ i1 → i ≠ i2 → rn = ro := fun z1 z2 => by
        rw [mvd_else z1 z2] at hrn
        exact Option.some.inj (hrn.symm.trans hro)
      have le1 : i = i1 → WW E rn / pr (E.drop 1) ≤ WW E ro / pr (E.drop 1) ∧ -((-WW E rn) / pr (E.drop 1)) ≤ -((-WW E ro) / pr (E.drop 1)) := fun z => by
        subst z
        have y1 := Option.some.inj (hrn.symm.trans (mvd_at1 M))
        have y2 := Option.some.inj (hro.symm.trans M.h1)
        rw [y1, y2]
        exact val_less S.ent M.k1
      have ge2 : i = i2 → WW E ro / pr (E.drop 1) ≤ WW E rn / pr (E.drop 1) ∧ -((-WW E ro) / pr (E.drop 1)) ≤ -((-WW E rn) / pr (E.drop 1)) := fun z => by
        subst z
        have y1 := Option.some.inj (hrn.symm.trans (mvd_at2 M))
        have y2 := Option.some.inj (hro.symm.trans M.h2)
        rw [y1, y2]
        exact val_more S.ent M.k2
      have sT := sm.trans (same_new (o := .tup [.int (i : Nat), .ref b]) hTn)
      refine ⟨T, [.int (i : Nat), .ref b], rfl, SqT.of upd_same, rfl, _, [.ref b], rfl, .ref b, [], rfl, rfl, ?_⟩
      generalize upd Hi T (.tup [.int (i : Nat), .ref b]) = H20 at sT ⊢
      refine ⟨_, rfl, _, rfl, _, rfl, (by show 2 ≤ sizeLine; decide), fun tt htt => ⟨tt, [.int (i1 : Nat), .int (i2 : Nat)], rfl, .inr (SqT.of upd_same), rfl, rfl, _, rfl, ?_⟩⟩
      have sU := sT.trans (same_new (o := .tup [.int (i1 : Nat), .int (i2 : Nat)]) htt)
      generalize upd H20 tt (.tup [.int (i1 : Nat), .int (i2 : Nat)]) = H21 at sU ⊢
      have tP' := tP.same sU
      have tB' := tB.same sU
      have hw' := sU _ _ hws
      refine ite2 (fun hc => ⟨_, rfl, _, rfl, _, rfl, v, ws.map V.ref, _, .ref b', rfl, rfl, SqL.of hw', at_of (j := i) rfl (at_ref hb'), _, _, dp_TR tP', dp_TR tB', sh_T _, sh_T _, _, rfl, ?_⟩) (fun _ => iteF ?_)
      · have hin : inV (.int (i : Nat)) [.int (i1 : Nat), .int (i2 : Nat)] = false := by
          have hc' : (!inV (.int (i : Nat)) [.int (i1 : Nat), .int (i2 : Nat)]) = true := hc
          simpa using hc'
        have z1 : i ≠ i1 := fun z => by
          rw [z, inV_at] at hin
          cases hin
        have z2 : i ≠ i2 := fun z => by
          rw [z, inV_at'] at hin
          cases hin
        rw [eq0 z1 z2, eqv_self (sh_T _)]
        refine iteF ?_
        refine ⟨_, rfl, _, rfl, rfl, _, rfl, ite2 (fun hd => ?_) (fun _ => iteF ?_)⟩
        · have hd' := of_decide_eq_true hd
          injection hd' with hd'
          exact absurd (by omega) z1
        refine ⟨_, rfl, _, rfl, rfl, _, rfl, ite2 (fun hd => ?_) (fun _ => iteF ?_)⟩
        · have hd' := of_decide_eq_true hd
          injection hd' with hd'
          exact absurd (by omega) z2
        exact ⟨sU, _, _, rfl⟩
      refine ⟨_, rfl, _, rfl, rfl, _, rfl, ite2 (fun hd => ?_) (fun _ => iteF ?_)⟩
      · have hd' := of_decide_eq_true hd
        injection hd' with hd'
        have hz := le1 (by omega)
        refine ⟨_, rfl, b, _, 0, _, rfl, rfl, tP'.seq, at_of (j := 0) rfl rfl, _, rfl, _, rfl, v, ws.map V.ref, _, .ref b', rfl, rfl, SqL.of hw', at_of (j := i) rfl (at_ref hb'), b', _, 0, _, rfl, rfl, tB'.seq, at_of (j := 0) rfl rfl, _, _, rfl, rfl, _, rfl, ite2 (fun hg => absurd (of_decide_eq_true hg) (Int.not_lt.mpr hz.1)) (fun _ => ?_)⟩
        refine ⟨_, rfl, b, _, 1, _, rfl, rfl, tP'.seq, at_of (j := 1) rfl rfl, _, rfl, _, rfl, v, ws.map V.ref, _, .ref b', rfl, rfl, SqL.of hw', at_of (j := i) rfl (at_ref hb'), b', _, 1, _, rfl, rfl, tB'.seq, at_of (j := 1) rfl rfl, _, _, rfl, rfl, _, rfl, ite2 (fun hg => absurd (of_decide_eq_true hg) (Int.not_lt.mpr hz.2)) (fun _ => ?_)⟩
        refine ⟨_, rfl, _, rfl, rfl, _, rfl, ite2 (fun hd2 => ?_) (fun _ => iteF ⟨sU, _, _, rfl⟩)⟩
        have hd2' := of_decide_eq_true hd2
        injection hd2' with hd2'
        exact absurd (by omega) n12
      · refine ⟨_, rfl, _, rfl, rfl, _, rfl, ite2 (fun hd => ?_) (fun _ => iteF ?_)⟩
        · have hd' := of_decide_eq_true hd
          injection hd' with hd'
          have hz := ge2 (by omega)
          refine ⟨_, rfl, b, _, 0, _, rfl, rfl, tP'.seq, at_of (j := 0) rfl rfl, _, rfl, _, rfl, v, ws.map V.ref, _, .ref b', rfl, rfl, SqL.of hw', at_of (j := i) rfl (at_ref hb'), b', _, 0, _, rfl, rfl, tB'.seq, at_of (j := 0) rfl rfl, _, _, rfl, rfl, _, rfl, ite2 (fun hg => absurd (of_decide_eq_true hg) (Int.not_lt.mpr hz.1)) (fun _ => ?_)⟩
          refine ⟨_, rfl, b, _, 1, _, rfl, rfl, tP'.seq, at_of (j := 1) rfl rfl, _, rfl, _, rfl, v, ws.map V.ref, _, .ref b', rfl, rfl, SqL.of hw', at_of (j := i) rfl (at_ref hb'), b', _, 1, _, rfl, rfl, tB'.seq, at_of (j := 1) rfl rfl, _, _, rfl, rfl, _, rfl, ite2 (fun hg => absurd (of_decide_eq_true hg) (Int.not_lt.mpr hz.2)) (fun _ => ?_)⟩
          exact ⟨sU, _, _, rfl⟩
        · exact ⟨sU, _, _, rfl⟩
    · rintro σ Hi ⟨sm, y10, y11, rfl⟩
      refine ⟨_, rfl, _, _, rfl, rfl, _, rfl, ite2 (fun _ => q Hi ((b02.thn s219).thn sm) ((h2.same s219).same sm)) (fun hk0 => ?_)⟩
      have k0 : k = 0 := by
        by_cases z : k = 0
        · exact z
        · exact absurd (decide_eq_true (by omega : (0 : Int) < (k : Int))) hk0
      subst k0
      have hwi := sm _ _ hws
      have hw2i := sm _ _ hws2
      obtain ⟨b2, hb2, tP⟩ := hW2.get (j := i1) (r := val E (r1.set 0 (gd r1 0 - 1))) (by rw [List.getElem?_map, mvd_at1 M]; rfl)
      obtain ⟨b1, hb1, tB⟩ := hW.get (j := i1) (r := val E r1) (by rw [List.getElem?_map, hr1]; rfl)
      refine ⟨_, rfl, _, rfl, v2, ws2.map V.ref, _, .ref b2, rfl, rfl, SqL.of hw2i, at_of (j := i1) rfl (at_ref hb2), ?_⟩
      refine ⟨_, rfl, _, rfl, v, ws.map V.ref, _, .ref b1, rfl, rfl, SqL.of hwi, at_of (j := i1) rfl (at_ref hb1), b1, _, 0, _, rfl, rfl, (tB.same sm).seq, at_of (j := 0) rfl rfl, _, _, rfl, rfl, ?_⟩
      refine ⟨_, rfl, _, rfl, v, ws.map V.ref, _, .ref b1, rfl, rfl, SqL.of hwi, at_of (j := i1) rfl (at_ref hb1), b1, _, 1, _, rfl, rfl, (tB.same sm).seq, at_of (j := 1) rfl rfl, _, _, rfl, rfl, (by show 2 ≤ sizeLine; decide), fun t ht => ?_⟩
      have st := same_new (o := .tup [.int (WW E r1 / pr (E.drop 1) - 1), .int (-((-WW E r1) / pr (E.drop 1)) - 1)]) ht
      have et : TI (upd Hi t (.tup [.int (WW E r1 / pr (E.drop 1) - 1), .int (-((-WW E r1) / pr (E.drop 1)) - 1)])) t [WW E r1 / pr (E.drop 1) - 1, -((-WW E r1) / pr (E.drop 1)) - 1] := upd_same
      refine ⟨_, _, dp_TR ((tP.same sm).same st), dp_TI et, sh_T _, sh_T _, ?_⟩
      rw [val_top S.ent S.ne M.k1, eqv_self (sh_T _)]
      exact q _ (((b02.thn s219).thn sm).thn st) (((h2.same s219).same sm).same st)
end
end Sc

/-! the law -/
namespace Sc
open L2 PyProof.Rows PySem PySem.Spec
theorem TF.but {a : Addr} {H H' : Hp} {p : Addr} {rows : List (List Int)} (h : TF H p rows) (ha : Src H a) (s : But a H H') (n : p ≠ a) : TF H' p rows := by
  obtain ⟨as, e, t, k⟩ := h
  exact ⟨as, s _ _ e n, t.but s fun xs => ha.nr _, fun b hb => (k b hb).but s (ha.nd (k b hb))⟩
theorem ArgsL.but {vs : List V} {H H' : Hp} {a e p r : Addr} {E cs : List Int} {rows : List (List Int)} (h : ArgsL vs H a e p r E cs rows) (s : But a H H') (hs : Src H' a) : ArgsL vs H' a e p r E cs rows :=
  ⟨h.vs, hs, s _ _ h.hE h.ea, s _ _ h.hC fun z => h.src.nt _ (z ▸ h.hC), h.hR.but h.src s h.ra, h.C, h.ea, h.ra⟩
theorem same_but {H0 H1 H2 : Hp} {a : Addr} {x : HO} (s : Same H0 H1) (n : H1 a = none) (b : But a (upd H1 a x) H2) : Same H0 H2 := fun c u hc => by
  have h1 := s c u hc
  have hn : c ≠ a := ne_of_none h1 n
  exact b c u (by rw [upd_ne hn]; exact h1) hn
section
variable {base : Heap} {mg : Str → Option Value} {K : PySem.W.Frag} {w : World} {P : Program}
def spLaw (K : PySem.W.Frag) : Sp := fun vs H Q _ => ∃ (p : Addr) (ns : List Int), vs = [.ref p] ∧ SqL K H p (ns.map V.int) ∧ ns.length ≤ 63 ∧ ∀ H', Q (.bl true) H'
abbrev nLaw : List Str := ["_law_script", "_law_cell", "_law_source_here", "_law_entries", "_law_people_here", "_law_rows"]
theorem scLaw : FnScope nLaw ["_law_script"] (defScope sLaw) := ⟨rfl, rfl, rfl, by decide +kernel, rfl, by decide +kernel, by decide +kernel⟩
theorem ok_law {f f1 f2 f3 f4 f5 : Addr} {fd fd1 fd2 fd3 fd4 fd5 : FuncData} (F : Fun K "law" "law" sLaw f fd) (G1 : Cal P w K mg base 1 "_law_source" f1 fd1 ["_law_cell"] spSource) (G2 : Cal P w K mg base 5 "_law_scene" f2 fd2 ["_law_source_here"] spScene)
    (G3 : Cal P w K mg base 7 "_law_order_right" f3 fd3 ["_law_source_here", "_law_entries", "_law_people_here", "_law_rows"] spPart) (G4 : Cal P w K mg base 7 "_law_replaced_right" f4 fd4 ["_law_source_here", "_law_entries", "_law_people_here", "_law_rows"] spPart)
    (G5 : Cal P w K mg base 7 "_law_moved_right" f5 fd5 ["_law_source_here", "_law_entries", "_law_people_here", "_law_rows"] spPart) : FnOk P w K mg base CX0 8 f fd ["_law_script"] (spLaw K) := by
  refine F.ok scLaw (fun vs H Q E h => ?_) (fun cdv A outer s H vs Q E hr h => ?_)
  · obtain ⟨a, ns, rfl, _⟩ := h
    rfl
  · obtain ⟨a, ns, rfl, hS, nl, q⟩ := h
    have hr5 : Room 5 _ := Room.mono hr (by decide)
    have hr1 : Room 1 _ := Room.mono hr (by decide)
    refine ⟨_, pss_cons (ps_for PassesOwn.never rfl (pi_list (pe_slice sl_list (pe_op op_catR (pv 0) (pe_lst (p1 pe_int))) po_none (po_some pe_int))) (pg_name (i := 1) scLaw.nd rfl (.inl rfl))
        (pss_cons (ps_set (i := 2) scLaw.nd rfl (.inl rfl) (pc G1 hr1 (p1 (pv 1))))
        (pss_cons (ps_asg (pc G2 hr5 (p1 (pv 2))) (pg_tup rfl (pgs_cons (pg_name (i := 3) scLaw.nd rfl (.inl rfl)) (pgs_cons (pg_name (i := 4) scLaw.nd rfl (.inl rfl)) (pgs_cons (pg_name (i := 5) scLaw.nd rfl (.inl rfl)) pgs_nil)))))
        (pss_cons (ps_if (pt_not (pt_val (pc G3 hr (p4 (pv 2) (pv 3) (pv 4) (pv 5))))) (pss_one ps_never) pss_nil)
        (pss_cons (ps_if (pt_not (pt_val (pc G4 hr (p4 (pv 2) (pv 3) (pv 4) (pv 5))))) (pss_one ps_never) pss_nil)
        (pss_one (ps_if (pt_not (pt_val (pc G5 hr (p4 (pv 2) (pv 3) (pv 4) (pv 5))))) (pss_one ps_never) pss_nil)))))))
      (pss_one (ps_ret pe_bl)), ?_⟩
    refine ⟨_, rfl, (by show 1 ≤ sizeLine; decide), fun l1 hl1 => ?_⟩
    have s1 := same_new (o := .lst [.int 0]) hl1
    have e1 : (upd H l1 (.lst [.int 0])) l1 = some (.lst [.int 0]) := upd_same
    have hS1 : SqL K (upd H l1 (.lst [.int 0])) a (ns.map V.int) := s1.seq hS
    generalize upd H l1 (.lst [.int 0]) = H1 at s1 e1 hS1 ⊢
    refine ⟨a, l1, ns.map V.int, [.int 0], rfl, rfl, hS1, SqL.of e1, ?_, fun l2 hl2 => ?_⟩
    · rw [List.length_map]
      show ns.length + 1 ≤ sizeLine
      exact small_line (by omega)
    have e2 : (upd H1 l2 (.lst (ns.map V.int ++ [.int 0]))) l2 = some (.lst (ns.map V.int ++ [.int 0])) := upd_same
    generalize upd H1 l2 (.lst (ns.map V.int ++ [.int 0])) = H2 at e2 ⊢
    refine ⟨4, rfl, l2, _, rfl, SqL.of e2, fun c hc => ?_⟩
    have e3 : LI (upd H2 c (.lst (cutV (ns.map V.int ++ [.int 0]) none (some 4)))) c ((ns ++ [0]).take 4) := by
      show upd H2 c _ c = _
      rw [upd_same, show (some (4 : Int)) = some ((4 : Nat) : Int) from rfl, cut_to, List.map_take, List.map_append]
      rfl
    generalize upd H2 c (.lst (cutV (ns.map V.int ++ [.int 0]) none (some 4))) = H3 at e3 ⊢
    generalize (ns ++ [0]).take 4 = cells at e3
    refine ⟨c, rfl, ⟨_, li_seq e3⟩, for_list (K := K) (a := c) (xs := cells.map V.int) (fun i σ H4 => Same H3 H4 ∧ ∃ y1 y2 y3 y4 y5 : Option V, σ = [some (.ref a), y1, y2, y3, y4, y5]) ⟨same_refl H3, none, none, none, none, none, rfl⟩ (fun i σ H4 _ hp => li_seq (hp.1 _ _ e3)) ?_ ?_⟩
    · rintro i x σ H4 hx ⟨s4, y1, y2, y3, y4, y5, rfl⟩
      obtain ⟨z, hz, rfl⟩ := of_int hx
      refine ⟨_, rfl, z, rfl, fun d hd => ?_⟩
      refine ⟨_, rfl, d, rfl, ⟨z, z, 0, upd_same⟩, fun E cs rows t e p r H5 C b5 ht hE hC hR ea ra h5 => ?_⟩
      refine ⟨t, _, rfl, SqT.of ht, rfl, _, _, rfl, _, _, rfl, _, _, rfl, rfl, ?_⟩
      have A5 : ArgsL [.ref d, .ref e, .ref p, .ref r] H5 d e p r E cs rows := ⟨rfl, h5, hE, hC, hR, C, ea, ra⟩
      refine ⟨_, rfl, _, rfl, _, rfl, _, rfl, d, e, p, r, E, cs, rows, A5, fun H6 b6 h6 => ⟨true, rfl, iteF ?_⟩⟩
      have A6 := A5.but b6 h6
      refine ⟨_, rfl, _, rfl, _, rfl, _, rfl, d, e, p, r, E, cs, rows, A6, fun H7 b7 h7 => ⟨true, rfl, iteF ?_⟩⟩
      have A7 := A6.but b7 h7
      refine ⟨_, rfl, _, rfl, _, rfl, _, rfl, d, e, p, r, E, cs, rows, A7, fun H8 b8 h8 => ⟨true, rfl, iteF ?_⟩⟩
      exact ⟨same_but s4 hd (((b5.trans b6).trans b7).trans b8), _, _, _, _, _, rfl⟩
    · rintro σ H4 ⟨s4, y1, y2, y3, y4, y5, rfl⟩
      exact q H4
end
end Sc

/-! what the top has written; the law's own head -/
namespace Sc
open L2 PyProof.Rows PySem PySem.Spec
theorem all_mk {l : PySem.W.OpenLaw} {w : World} {K : PySem.W.Frag} {h : Heap} {mg : Str → Option Value} {fa : Addr} (X : K.In h) (G : h.Ns mainGlobals mg) (hfa : mg "law" = some (.ref fa))
    {f1 : Addr} {od1 an1 : Option Addr} {sl1 : Array (Option Value)} {oc1 kV1 dc1 pm1 cd1 ct1 : Value} (a1 : PySem.W.nsIn K mainGlobals "is_integer" = some (some (.ref f1))) (l1 : K.lookup f1 = some ⟨oc1, od1, .func (PySem.W.fnOf "is_integer" "is_integer" (defArgs sIsInt) (defBody sIsInt) (defScope sIsInt) .none kV1 dc1 pm1 an1 cd1 ct1), sl1⟩) (c1 : PySem.W.codeIn K cd1 "is_integer" = true) (k1 : PySem.W.keepIn K (.ref f1) = true)
    {f2 : Addr} {od2 an2 : Option Addr} {sl2 : Array (Option Value)} {oc2 kV2 dc2 pm2 cd2 ct2 : Value} (a2 : PySem.W.nsIn K mainGlobals "is_at_least" = some (some (.ref f2))) (l2 : K.lookup f2 = some ⟨oc2, od2, .func (PySem.W.fnOf "is_at_least" "is_at_least" (defArgs sAtLeast) (defBody sAtLeast) (defScope sAtLeast) .none kV2 dc2 pm2 an2 cd2 ct2), sl2⟩) (c2 : PySem.W.codeIn K cd2 "is_at_least" = true) (k2 : PySem.W.keepIn K (.ref f2) = true)
    {f3 : Addr} {od3 an3 : Option Addr} {sl3 : Array (Option Value)} {oc3 kV3 dc3 pm3 cd3 ct3 : Value} (a3 : PySem.W.nsIn K mainGlobals "greatest_common_divisor" = some (some (.ref f3))) (l3 : K.lookup f3 = some ⟨oc3, od3, .func (PySem.W.fnOf "greatest_common_divisor" "greatest_common_divisor" (defArgs sGcd) (defBody sGcd) (defScope sGcd) .none kV3 dc3 pm3 an3 cd3 ct3), sl3⟩) (c3 : PySem.W.codeIn K cd3 "greatest_common_divisor" = true) (k3 : PySem.W.keepIn K (.ref f3) = true)
    {f4 : Addr} {od4 an4 : Option Addr} {sl4 : Array (Option Value)} {oc4 kV4 dc4 pm4 cd4 ct4 : Value} (a4 : PySem.W.nsIn K mainGlobals "rounded_up" = some (some (.ref f4))) (l4 : K.lookup f4 = some ⟨oc4, od4, .func (PySem.W.fnOf "rounded_up" "rounded_up" (defArgs sRup) (defBody sRup) (defScope sRup) .none kV4 dc4 pm4 an4 cd4 ct4), sl4⟩) (c4 : PySem.W.codeIn K cd4 "rounded_up" = true) (k4 : PySem.W.keepIn K (.ref f4) = true)
    {f5 : Addr} {od5 an5 : Option Addr} {sl5 : Array (Option Value)} {oc5 kV5 dc5 pm5 cd5 ct5 : Value} (a5 : PySem.W.nsIn K mainGlobals "lowest_terms" = some (some (.ref f5))) (l5 : K.lookup f5 = some ⟨oc5, od5, .func (PySem.W.fnOf "lowest_terms" "lowest_terms" (defArgs sLowest) (defBody sLowest) (defScope sLowest) .none kV5 dc5 pm5 an5 cd5 ct5), sl5⟩) (c5 : PySem.W.codeIn K cd5 "lowest_terms" = true) (k5 : PySem.W.keepIn K (.ref f5) = true)
    {f6 : Addr} {od6 an6 : Option Addr} {sl6 : Array (Option Value)} {oc6 kV6 dc6 pm6 cd6 ct6 : Value} (a6 : PySem.W.nsIn K mainGlobals "require_schedule" = some (some (.ref f6))) (l6 : K.lookup f6 = some ⟨oc6, od6, .func (PySem.W.fnOf "require_schedule" "require_schedule" (defArgs sReqSched) (defBody sReqSched) (defScope sReqSched) .none kV6 dc6 pm6 an6 cd6 ct6), sl6⟩) (c6 : PySem.W.codeIn K cd6 "require_schedule" = true) (k6 : PySem.W.keepIn K (.ref f6) = true)
    {f7 : Addr} {od7 an7 : Option Addr} {sl7 : Array (Option Value)} {oc7 kV7 dc7 pm7 cd7 ct7 : Value} (a7 : PySem.W.nsIn K mainGlobals "require_rounds" = some (some (.ref f7))) (l7 : K.lookup f7 = some ⟨oc7, od7, .func (PySem.W.fnOf "require_rounds" "require_rounds" (defArgs sReqRounds) (defBody sReqRounds) (defScope sReqRounds) .none kV7 dc7 pm7 an7 cd7 ct7), sl7⟩) (c7 : PySem.W.codeIn K cd7 "require_rounds" = true) (k7 : PySem.W.keepIn K (.ref f7) = true)
    {f8 : Addr} {od8 an8 : Option Addr} {sl8 : Array (Option Value)} {oc8 kV8 dc8 pm8 cd8 ct8 : Value} (a8 : PySem.W.nsIn K mainGlobals "is_group" = some (some (.ref f8))) (l8 : K.lookup f8 = some ⟨oc8, od8, .func (PySem.W.fnOf "is_group" "is_group" (defArgs sIsGroup) (defBody sIsGroup) (defScope sIsGroup) .none kV8 dc8 pm8 an8 cd8 ct8), sl8⟩) (c8 : PySem.W.codeIn K cd8 "is_group" = true) (k8 : PySem.W.keepIn K (.ref f8) = true)
    {f9 : Addr} {od9 an9 : Option Addr} {sl9 : Array (Option Value)} {oc9 kV9 dc9 pm9 cd9 ct9 : Value} (a9 : PySem.W.nsIn K mainGlobals "require_counts" = some (some (.ref f9))) (l9 : K.lookup f9 = some ⟨oc9, od9, .func (PySem.W.fnOf "require_counts" "require_counts" (defArgs sReqCounts) (defBody sReqCounts) (defScope sReqCounts) .none kV9 dc9 pm9 an9 cd9 ct9), sl9⟩) (c9 : PySem.W.codeIn K cd9 "require_counts" = true) (k9 : PySem.W.keepIn K (.ref f9) = true)
    {f10 : Addr} {od10 an10 : Option Addr} {sl10 : Array (Option Value)} {oc10 kV10 dc10 pm10 cd10 ct10 : Value} (a10 : PySem.W.nsIn K mainGlobals "require_small_round" = some (some (.ref f10))) (l10 : K.lookup f10 = some ⟨oc10, od10, .func (PySem.W.fnOf "require_small_round" "require_small_round" (defArgs sReqSmall) (defBody sReqSmall) (defScope sReqSmall) .none kV10 dc10 pm10 an10 cd10 ct10), sl10⟩) (c10 : PySem.W.codeIn K cd10 "require_small_round" = true) (k10 : PySem.W.keepIn K (.ref f10) = true)
    {f11 : Addr} {od11 an11 : Option Addr} {sl11 : Array (Option Value)} {oc11 kV11 dc11 pm11 cd11 ct11 : Value} (a11 : PySem.W.nsIn K mainGlobals "require_split" = some (some (.ref f11))) (l11 : K.lookup f11 = some ⟨oc11, od11, .func (PySem.W.fnOf "require_split" "require_split" (defArgs sReqSplit) (defBody sReqSplit) (defScope sReqSplit) .none kV11 dc11 pm11 an11 cd11 ct11), sl11⟩) (c11 : PySem.W.codeIn K cd11 "require_split" = true) (k11 : PySem.W.keepIn K (.ref f11) = true)
    {f12 : Addr} {od12 an12 : Option Addr} {sl12 : Array (Option Value)} {oc12 kV12 dc12 pm12 cd12 ct12 : Value} (a12 : PySem.W.nsIn K mainGlobals "products" = some (some (.ref f12))) (l12 : K.lookup f12 = some ⟨oc12, od12, .func (PySem.W.fnOf "products" "products" (defArgs sProducts) (defBody sProducts) (defScope sProducts) .none kV12 dc12 pm12 an12 cd12 ct12), sl12⟩) (c12 : PySem.W.codeIn K cd12 "products" = true) (k12 : PySem.W.keepIn K (.ref f12) = true)
    {f13 : Addr} {od13 an13 : Option Addr} {sl13 : Array (Option Value)} {oc13 kV13 dc13 pm13 cd13 ct13 : Value} (a13 : PySem.W.nsIn K mainGlobals "scaled_weight" = some (some (.ref f13))) (l13 : K.lookup f13 = some ⟨oc13, od13, .func (PySem.W.fnOf "scaled_weight" "scaled_weight" (defArgs sScaled) (defBody sScaled) (defScope sScaled) .none kV13 dc13 pm13 an13 cd13 ct13), sl13⟩) (c13 : PySem.W.codeIn K cd13 "scaled_weight" = true) (k13 : PySem.W.keepIn K (.ref f13) = true)
    {f14 : Addr} {od14 an14 : Option Addr} {sl14 : Array (Option Value)} {oc14 kV14 dc14 pm14 cd14 ct14 : Value} (a14 : PySem.W.nsIn K mainGlobals "weight" = some (some (.ref f14))) (l14 : K.lookup f14 = some ⟨oc14, od14, .func (PySem.W.fnOf "weight" "weight" (defArgs sWeight) (defBody sWeight) (defScope sWeight) .none kV14 dc14 pm14 an14 cd14 ct14), sl14⟩) (c14 : PySem.W.codeIn K cd14 "weight" = true) (k14 : PySem.W.keepIn K (.ref f14) = true)
    {f15 : Addr} {od15 an15 : Option Addr} {sl15 : Array (Option Value)} {oc15 kV15 dc15 pm15 cd15 ct15 : Value} (a15 : PySem.W.nsIn K mainGlobals "group_weights" = some (some (.ref f15))) (l15 : K.lookup f15 = some ⟨oc15, od15, .func (PySem.W.fnOf "group_weights" "group_weights" (defArgs sGWeights) (defBody sGWeights) (defScope sGWeights) .none kV15 dc15 pm15 an15 cd15 ct15), sl15⟩) (c15 : PySem.W.codeIn K cd15 "group_weights" = true) (k15 : PySem.W.keepIn K (.ref f15) = true)
    {f16 : Addr} {od16 an16 : Option Addr} {sl16 : Array (Option Value)} {oc16 kV16 dc16 pm16 cd16 ct16 : Value} (a16 : PySem.W.nsIn K mainGlobals "group_values" = some (some (.ref f16))) (l16 : K.lookup f16 = some ⟨oc16, od16, .func (PySem.W.fnOf "group_values" "group_values" (defArgs sGValues) (defBody sGValues) (defScope sGValues) .none kV16 dc16 pm16 an16 cd16 ct16), sl16⟩) (c16 : PySem.W.codeIn K cd16 "group_values" = true) (k16 : PySem.W.keepIn K (.ref f16) = true)
    {f17 : Addr} {od17 an17 : Option Addr} {sl17 : Array (Option Value)} {oc17 kV17 dc17 pm17 cd17 ct17 : Value} (a17 : PySem.W.nsIn K mainGlobals "lightest_group" = some (some (.ref f17))) (l17 : K.lookup f17 = some ⟨oc17, od17, .func (PySem.W.fnOf "lightest_group" "lightest_group" (defArgs sLightest) (defBody sLightest) (defScope sLightest) .none kV17 dc17 pm17 an17 cd17 ct17), sl17⟩) (c17 : PySem.W.codeIn K cd17 "lightest_group" = true) (k17 : PySem.W.keepIn K (.ref f17) = true)
    {f18 : Addr} {od18 an18 : Option Addr} {sl18 : Array (Option Value)} {oc18 kV18 dc18 pm18 cd18 ct18 : Value} (a18 : PySem.W.nsIn K mainGlobals "heaviest_group" = some (some (.ref f18))) (l18 : K.lookup f18 = some ⟨oc18, od18, .func (PySem.W.fnOf "heaviest_group" "heaviest_group" (defArgs sHeaviest) (defBody sHeaviest) (defScope sHeaviest) .none kV18 dc18 pm18 an18 cd18 ct18), sl18⟩) (c18 : PySem.W.codeIn K cd18 "heaviest_group" = true) (k18 : PySem.W.keepIn K (.ref f18) = true)
    {f19 : Addr} {od19 an19 : Option Addr} {sl19 : Array (Option Value)} {oc19 kV19 dc19 pm19 cd19 ct19 : Value} (a19 : PySem.W.nsIn K mainGlobals "_law_mixed" = some (some (.ref f19))) (l19 : K.lookup f19 = some ⟨oc19, od19, .func (PySem.W.fnOf "_law_mixed" "_law_mixed" (defArgs sMixed) (defBody sMixed) (defScope sMixed) .none kV19 dc19 pm19 an19 cd19 ct19), sl19⟩) (c19 : PySem.W.codeIn K cd19 "_law_mixed" = true) (k19 : PySem.W.keepIn K (.ref f19) = true)
    {f20 : Addr} {od20 an20 : Option Addr} {sl20 : Array (Option Value)} {oc20 kV20 dc20 pm20 cd20 ct20 : Value} (a20 : PySem.W.nsIn K mainGlobals "_law_source" = some (some (.ref f20))) (l20 : K.lookup f20 = some ⟨oc20, od20, .func (PySem.W.fnOf "_law_source" "_law_source" (defArgs sSource) (defBody sSource) (defScope sSource) .none kV20 dc20 pm20 an20 cd20 ct20), sl20⟩) (c20 : PySem.W.codeIn K cd20 "_law_source" = true) (k20 : PySem.W.keepIn K (.ref f20) = true)
    {f21 : Addr} {od21 an21 : Option Addr} {sl21 : Array (Option Value)} {oc21 kV21 dc21 pm21 cd21 ct21 : Value} (a21 : PySem.W.nsIn K mainGlobals "_law_take" = some (some (.ref f21))) (l21 : K.lookup f21 = some ⟨oc21, od21, .func (PySem.W.fnOf "_law_take" "_law_take" (defArgs sTake) (defBody sTake) (defScope sTake) .none kV21 dc21 pm21 an21 cd21 ct21), sl21⟩) (c21 : PySem.W.codeIn K cd21 "_law_take" = true) (k21 : PySem.W.keepIn K (.ref f21) = true)
    {f22 : Addr} {od22 an22 : Option Addr} {sl22 : Array (Option Value)} {oc22 kV22 dc22 pm22 cd22 ct22 : Value} (a22 : PySem.W.nsIn K mainGlobals "_law_big" = some (some (.ref f22))) (l22 : K.lookup f22 = some ⟨oc22, od22, .func (PySem.W.fnOf "_law_big" "_law_big" (defArgs sBig) (defBody sBig) (defScope sBig) .none kV22 dc22 pm22 an22 cd22 ct22), sl22⟩) (c22 : PySem.W.codeIn K cd22 "_law_big" = true) (k22 : PySem.W.keepIn K (.ref f22) = true)
    {f23 : Addr} {od23 an23 : Option Addr} {sl23 : Array (Option Value)} {oc23 kV23 dc23 pm23 cd23 ct23 : Value} (a23 : PySem.W.nsIn K mainGlobals "_law_rounds" = some (some (.ref f23))) (l23 : K.lookup f23 = some ⟨oc23, od23, .func (PySem.W.fnOf "_law_rounds" "_law_rounds" (defArgs sRounds) (defBody sRounds) (defScope sRounds) .none kV23 dc23 pm23 an23 cd23 ct23), sl23⟩) (c23 : PySem.W.codeIn K cd23 "_law_rounds" = true) (k23 : PySem.W.keepIn K (.ref f23) = true)
    {f24 : Addr} {od24 an24 : Option Addr} {sl24 : Array (Option Value)} {oc24 kV24 dc24 pm24 cd24 ct24 : Value} (a24 : PySem.W.nsIn K mainGlobals "_law_people" = some (some (.ref f24))) (l24 : K.lookup f24 = some ⟨oc24, od24, .func (PySem.W.fnOf "_law_people" "_law_people" (defArgs sPeople) (defBody sPeople) (defScope sPeople) .none kV24 dc24 pm24 an24 cd24 ct24), sl24⟩) (c24 : PySem.W.codeIn K cd24 "_law_people" = true) (k24 : PySem.W.keepIn K (.ref f24) = true)
    {f25 : Addr} {od25 an25 : Option Addr} {sl25 : Array (Option Value)} {oc25 kV25 dc25 pm25 cd25 ct25 : Value} (a25 : PySem.W.nsIn K mainGlobals "_law_weighed" = some (some (.ref f25))) (l25 : K.lookup f25 = some ⟨oc25, od25, .func (PySem.W.fnOf "_law_weighed" "_law_weighed" (defArgs sWeighed) (defBody sWeighed) (defScope sWeighed) .none kV25 dc25 pm25 an25 cd25 ct25), sl25⟩) (c25 : PySem.W.codeIn K cd25 "_law_weighed" = true) (k25 : PySem.W.keepIn K (.ref f25) = true)
    {f26 : Addr} {od26 an26 : Option Addr} {sl26 : Array (Option Value)} {oc26 kV26 dc26 pm26 cd26 ct26 : Value} (a26 : PySem.W.nsIn K mainGlobals "_law_shuffled" = some (some (.ref f26))) (l26 : K.lookup f26 = some ⟨oc26, od26, .func (PySem.W.fnOf "_law_shuffled" "_law_shuffled" (defArgs sShuffled) (defBody sShuffled) (defScope sShuffled) .none kV26 dc26 pm26 an26 cd26 ct26), sl26⟩) (c26 : PySem.W.codeIn K cd26 "_law_shuffled" = true) (k26 : PySem.W.keepIn K (.ref f26) = true)
    {f27 : Addr} {od27 an27 : Option Addr} {sl27 : Array (Option Value)} {oc27 kV27 dc27 pm27 cd27 ct27 : Value} (a27 : PySem.W.nsIn K mainGlobals "_law_divided" = some (some (.ref f27))) (l27 : K.lookup f27 = some ⟨oc27, od27, .func (PySem.W.fnOf "_law_divided" "_law_divided" (defArgs sDivided) (defBody sDivided) (defScope sDivided) .none kV27 dc27 pm27 an27 cd27 ct27), sl27⟩) (c27 : PySem.W.codeIn K cd27 "_law_divided" = true) (k27 : PySem.W.keepIn K (.ref f27) = true)
    {f28 : Addr} {od28 an28 : Option Addr} {sl28 : Array (Option Value)} {oc28 kV28 dc28 pm28 cd28 ct28 : Value} (a28 : PySem.W.nsIn K mainGlobals "_law_scene" = some (some (.ref f28))) (l28 : K.lookup f28 = some ⟨oc28, od28, .func (PySem.W.fnOf "_law_scene" "_law_scene" (defArgs sScene) (defBody sScene) (defScope sScene) .none kV28 dc28 pm28 an28 cd28 ct28), sl28⟩) (c28 : PySem.W.codeIn K cd28 "_law_scene" = true) (k28 : PySem.W.keepIn K (.ref f28) = true)
    {f29 : Addr} {od29 an29 : Option Addr} {sl29 : Array (Option Value)} {oc29 kV29 dc29 pm29 cd29 ct29 : Value} (a29 : PySem.W.nsIn K mainGlobals "_law_order_right" = some (some (.ref f29))) (l29 : K.lookup f29 = some ⟨oc29, od29, .func (PySem.W.fnOf "_law_order_right" "_law_order_right" (defArgs sOrder) (defBody sOrder) (defScope sOrder) .none kV29 dc29 pm29 an29 cd29 ct29), sl29⟩) (c29 : PySem.W.codeIn K cd29 "_law_order_right" = true) (k29 : PySem.W.keepIn K (.ref f29) = true)
    {f30 : Addr} {od30 an30 : Option Addr} {sl30 : Array (Option Value)} {oc30 kV30 dc30 pm30 cd30 ct30 : Value} (a30 : PySem.W.nsIn K mainGlobals "_law_replaced_right" = some (some (.ref f30))) (l30 : K.lookup f30 = some ⟨oc30, od30, .func (PySem.W.fnOf "_law_replaced_right" "_law_replaced_right" (defArgs sReplaced) (defBody sReplaced) (defScope sReplaced) .none kV30 dc30 pm30 an30 cd30 ct30), sl30⟩) (c30 : PySem.W.codeIn K cd30 "_law_replaced_right" = true) (k30 : PySem.W.keepIn K (.ref f30) = true)
    {f31 : Addr} {od31 an31 : Option Addr} {sl31 : Array (Option Value)} {oc31 kV31 dc31 pm31 cd31 ct31 : Value} (a31 : PySem.W.nsIn K mainGlobals "_law_moved_right" = some (some (.ref f31))) (l31 : K.lookup f31 = some ⟨oc31, od31, .func (PySem.W.fnOf "_law_moved_right" "_law_moved_right" (defArgs sMoved) (defBody sMoved) (defScope sMoved) .none kV31 dc31 pm31 an31 cd31 ct31), sl31⟩) (c31 : PySem.W.codeIn K cd31 "_law_moved_right" = true) (k31 : PySem.W.keepIn K (.ref f31) = true)
    {f32 : Addr} {od32 an32 : Option Addr} {sl32 : Array (Option Value)} {oc32 kV32 dc32 pm32 cd32 ct32 : Value} (a32 : PySem.W.nsIn K mainGlobals "law" = some (some (.ref f32))) (l32 : K.lookup f32 = some ⟨oc32, od32, .func (PySem.W.fnOf "law" "law" (defArgs sLaw) (defBody sLaw) (defScope sLaw) .none kV32 dc32 pm32 an32 cd32 ct32), sl32⟩) (c32 : PySem.W.codeIn K cd32 "law" = true) (k32 : PySem.W.keepIn K (.ref f32) = true)
    (z1 : PySem.W.nsIn K mainGlobals "isinstance" = some none)
    (z2 : PySem.W.nsIn K mainGlobals "int" = some none)
    (z3 : PySem.W.nsIn K mainGlobals "bool" = some none)
    (z4 : PySem.W.nsIn K mainGlobals "abs" = some none)
    (z5 : PySem.W.nsIn K mainGlobals "list" = some none)
    (z6 : PySem.W.nsIn K mainGlobals "tuple" = some none)
    (z7 : PySem.W.nsIn K mainGlobals "len" = some none)
    (z8 : PySem.W.nsIn K mainGlobals "enumerate" = some none)
    (z9 : PySem.W.nsIn K mainGlobals "all" = some none)
    (z10 : PySem.W.nsIn K mainGlobals "range" = some none)
    (z11 : PySem.W.nsIn K mainGlobals "sum" = some none)
    (z12 : PySem.W.nsIn K mainGlobals "zip" = some none)
    (z13 : PySem.W.nsIn K mainGlobals "min" = some none)
    (z14 : PySem.W.nsIn K mainGlobals "max" = some none)
    {t1 t2 : Tok} (y1 : PySem.W.nsIn K mainGlobals "MAX_ROUNDS" = some (some (.int 200 t1))) (y2 : PySem.W.nsIn K mainGlobals "MAX_GROUPS" = some (some (.int 1000 t2))) :
    ∃ fd : FuncData, (∀ (s : Shared) (v : Value), BindsTo s fd ⟨[v], []⟩ [("_law_script", v)]) ∧ ∀ base : Heap, K.In base → base.Ns mainGlobals mg → FnOk l.prog w K mg base CX0 8 fa fd ["_law_script"] (spLaw K) := by
  have e := hfa.symm.trans (PySem.W.mg_of X G a32)
  cases e
  have B : Blt mg := ⟨PySem.W.mg_none_of X G z1, PySem.W.mg_none_of X G z2, PySem.W.mg_none_of X G z3, PySem.W.mg_none_of X G z4, PySem.W.mg_none_of X G z5, PySem.W.mg_none_of X G z6, PySem.W.mg_none_of X G z7, PySem.W.mg_none_of X G z8, PySem.W.mg_none_of X G z9, PySem.W.mg_none_of X G z10, PySem.W.mg_none_of X G z11, PySem.W.mg_none_of X G z12, PySem.W.mg_none_of X G z13, PySem.W.mg_none_of X G z14, ⟨t1, PySem.W.mg_of X G y1⟩, ⟨t2, PySem.W.mg_of X G y2⟩⟩
  refine ⟨PySem.W.fnOf "law" "law" (defArgs sLaw) (defBody sLaw) (defScope sLaw) .none kV32 dc32 pm32 an32 cd32 ct32, fun s v => .of_eq rfl, fun base _ _ => ?_⟩
  have F_isInt := fun_mk (st := sIsInt) l1 c1 k1
  have C_isInt : Cal l.prog w K mg base 1 "is_integer" f1 _ ["value"] spIsInt := ⟨ok_isInt F_isInt B, PySem.W.mg_of X G a1, k1, F_isInt.binds fun _ _ _ _ _ _ us hl => match us, hl with | [_], _ => rfl⟩
  have F_atLeast := fun_mk (st := sAtLeast) l2 c2 k2
  have C_atLeast : Cal l.prog w K mg base 2 "is_at_least" f2 _ ["value", "low"] spAtLeast := ⟨ok_atLeast F_atLeast C_isInt, PySem.W.mg_of X G a2, k2, F_atLeast.binds fun _ _ _ _ _ _ us hl => match us, hl with | [_, _], _ => rfl⟩
  have F_gcd := fun_mk (st := sGcd) l3 c3 k3
  have C_gcd : Cal l.prog w K mg base 1 "greatest_common_divisor" f3 _ ["first", "second"] spGcd := ⟨ok_gcd F_gcd B, PySem.W.mg_of X G a3, k3, F_gcd.binds fun _ _ _ _ _ _ us hl => match us, hl with | [_, _], _ => rfl⟩
  have F_rup := fun_mk (st := sRup) l4 c4 k4
  have C_rup : Cal l.prog w K mg base 1 "rounded_up" f4 _ ["numerator", "denominator"] spRup := ⟨ok_rup F_rup, PySem.W.mg_of X G a4, k4, F_rup.binds fun _ _ _ _ _ _ us hl => match us, hl with | [_, _], _ => rfl⟩
  have F_lowest := fun_mk (st := sLowest) l5 c5 k5
  have C_lowest : Cal l.prog w K mg base 2 "lowest_terms" f5 _ ["numerator", "denominator"] spLowest := ⟨ok_lowest F_lowest C_gcd, PySem.W.mg_of X G a5, k5, F_lowest.binds fun _ _ _ _ _ _ us hl => match us, hl with | [_, _], _ => rfl⟩
  have F_reqSched := fun_mk (st := sReqSched) l6 c6 k6
  have C_reqSched : Cal l.prog w K mg base 3 "require_schedule" f6 _ ["schedule"] spReqSched := ⟨ok_reqSched F_reqSched B C_atLeast, PySem.W.mg_of X G a6, k6, F_reqSched.binds fun _ _ _ _ _ _ us hl => match us, hl with | [_], _ => rfl⟩
  have F_reqRounds := fun_mk (st := sReqRounds) l7 c7 k7
  have C_reqRounds : Cal l.prog w K mg base 4 "require_rounds" f7 _ ["schedule"] spReqRounds := ⟨ok_reqRounds F_reqRounds B C_reqSched, PySem.W.mg_of X G a7, k7, F_reqRounds.binds fun _ _ _ _ _ _ us hl => match us, hl with | [_], _ => rfl⟩
  have F_isGroup := fun_mk (st := sIsGroup) l8 c8 k8
  have C_isGroup : Cal l.prog w K mg base 3 "is_group" f8 _ ["value", "length"] spIsGroup := ⟨ok_isGroup F_isGroup B C_atLeast, PySem.W.mg_of X G a8, k8, F_isGroup.binds fun _ _ _ _ _ _ us hl => match us, hl with | [_, _], _ => rfl⟩
  have F_reqCounts := fun_mk (st := sReqCounts) l9 c9 k9
  have C_reqCounts : Cal l.prog w K mg base 4 "require_counts" f9 _ ["counts"] spReqCounts := ⟨ok_reqCounts F_reqCounts B C_isGroup, PySem.W.mg_of X G a9, k9, F_reqCounts.binds fun _ _ _ _ _ _ us hl => match us, hl with | [_], _ => rfl⟩
  have F_reqSmall := fun_mk (st := sReqSmall) l10 c10 k10
  have C_reqSmall : Cal l.prog w K mg base 1 "require_small_round" f10 _ ["schedule"] spReqSmall := ⟨ok_reqSmall F_reqSmall B, PySem.W.mg_of X G a10, k10, F_reqSmall.binds fun _ _ _ _ _ _ us hl => match us, hl with | [_], _ => rfl⟩
  have F_reqSplit := fun_mk (st := sReqSplit) l11 c11 k11
  have C_reqSplit : Cal l.prog w K mg base 5 "require_split" f11 _ ["schedule", "counts", "split"] (spReqSplit K) := ⟨ok_reqSplit F_reqSplit B C_reqRounds C_reqCounts C_reqSmall C_isGroup, PySem.W.mg_of X G a11, k11, F_reqSplit.binds fun _ _ _ _ _ _ us hl => match us, hl with | [_, _, _], _ => rfl⟩
  have F_products := fun_mk (st := sProducts) l12 c12 k12
  have C_products : Cal l.prog w K mg base 1 "products" f12 _ ["schedule"] spProducts := ⟨ok_products F_products, PySem.W.mg_of X G a12, k12, F_products.binds fun _ _ _ _ _ _ us hl => match us, hl with | [_], _ => rfl⟩
  have F_scaled := fun_mk (st := sScaled) l13 c13 k13
  have C_scaled : Cal l.prog w K mg base 2 "scaled_weight" f13 _ ["schedule", "counts"] spScaled := ⟨ok_scaled F_scaled B C_products, PySem.W.mg_of X G a13, k13, F_scaled.binds fun _ _ _ _ _ _ us hl => match us, hl with | [_, _], _ => rfl⟩
  have F_weight := fun_mk (st := sWeight) l14 c14 k14
  have C_weight : Cal l.prog w K mg base 5 "weight" f14 _ ["schedule", "counts"] spWeight := ⟨ok_weight F_weight C_reqSched C_reqCounts C_lowest C_scaled C_products, PySem.W.mg_of X G a14, k14, F_weight.binds fun _ _ _ _ _ _ us hl => match us, hl with | [_, _], _ => rfl⟩
  have F_gWeights := fun_mk (st := sGWeights) l15 c15 k15
  have C_gWeights : Cal l.prog w K mg base 3 "group_weights" f15 _ ["schedule", "split"] (spGWeights K) := ⟨ok_gWeights F_gWeights C_scaled, PySem.W.mg_of X G a15, k15, F_gWeights.binds fun _ _ _ _ _ _ us hl => match us, hl with | [_, _], _ => rfl⟩
  have F_gValues := fun_mk (st := sGValues) l16 c16 k16
  have C_gValues : Cal l.prog w K mg base 6 "group_values" f16 _ ["schedule", "counts", "split"] (spGValues K) := ⟨ok_gValues F_gValues C_reqSplit C_products C_gWeights C_rup, PySem.W.mg_of X G a16, k16, F_gValues.binds fun _ _ _ _ _ _ us hl => match us, hl with | [_, _, _], _ => rfl⟩
  have F_lightest := fun_mk (st := sLightest) l17 c17 k17
  have C_lightest : Cal l.prog w K mg base 6 "lightest_group" f17 _ ["schedule", "counts", "split"] (spPick K (· ≤ ·)) := ⟨ok_lightest F_lightest B C_reqSplit C_gWeights, PySem.W.mg_of X G a17, k17, F_lightest.binds fun _ _ _ _ _ _ us hl => match us, hl with | [_, _, _], _ => rfl⟩
  have F_heaviest := fun_mk (st := sHeaviest) l18 c18 k18
  have C_heaviest : Cal l.prog w K mg base 6 "heaviest_group" f18 _ ["schedule", "counts", "split"] (spPick K (· ≥ ·)) := ⟨ok_heaviest F_heaviest B C_reqSplit C_gWeights, PySem.W.mg_of X G a18, k18, F_heaviest.binds fun _ _ _ _ _ _ us hl => match us, hl with | [_, _, _], _ => rfl⟩
  have F_mixed := fun_mk (st := sMixed) l19 c19 k19
  have C_mixed : Cal l.prog w K mg base 1 "_law_mixed" f19 _ ["_law_cell", "_law_draw"] spMixed := ⟨ok_mixed F_mixed, PySem.W.mg_of X G a19, k19, F_mixed.binds fun _ _ _ _ _ _ us hl => match us, hl with | [_, _], _ => rfl⟩
  have F_source := fun_mk (st := sSource) l20 c20 k20
  have C_source : Cal l.prog w K mg base 1 "_law_source" f20 _ ["_law_cell"] spSource := ⟨ok_source F_source, PySem.W.mg_of X G a20, k20, F_source.binds fun _ _ _ _ _ _ us hl => match us, hl with | [_], _ => rfl⟩
  have F_take := fun_mk (st := sTake) l21 c21 k21
  have C_take : Cal l.prog w K mg base 2 "_law_take" f21 _ ["_law_source_here", "_law_count"] spTake := ⟨ok_take F_take C_mixed, PySem.W.mg_of X G a21, k21, F_take.binds fun _ _ _ _ _ _ us hl => match us, hl with | [_, _], _ => rfl⟩
  have F_big := fun_mk (st := sBig) l22 c22 k22
  have C_big : Cal l.prog w K mg base 3 "_law_big" f22 _ ["_law_source_here"] spBig := ⟨ok_big F_big B C_take, PySem.W.mg_of X G a22, k22, F_big.binds fun _ _ _ _ _ _ us hl => match us, hl with | [_], _ => rfl⟩
  have F_rounds := fun_mk (st := sRounds) l23 c23 k23
  have C_rounds : Cal l.prog w K mg base 3 "_law_rounds" f23 _ ["_law_source_here", "_law_high"] spRounds := ⟨ok_rounds F_rounds B C_take, PySem.W.mg_of X G a23, k23, F_rounds.binds fun _ _ _ _ _ _ us hl => match us, hl with | [_, _], _ => rfl⟩
  have F_people := fun_mk (st := sPeople) l24 c24 k24
  have C_people : Cal l.prog w K mg base 4 "_law_people" f24 _ ["_law_source_here", "_law_high"] spPeople := ⟨ok_people F_people B C_take C_big, PySem.W.mg_of X G a24, k24, F_people.binds fun _ _ _ _ _ _ us hl => match us, hl with | [_, _], _ => rfl⟩
  have F_weighed := fun_mk (st := sWeighed) l25 c25 k25
  have C_weighed : Cal l.prog w K mg base 1 "_law_weighed" f25 _ ["_law_entries", "_law_people_here"] spWeighed := ⟨ok_weighed F_weighed B, PySem.W.mg_of X G a25, k25, F_weighed.binds fun _ _ _ _ _ _ us hl => match us, hl with | [_, _], _ => rfl⟩
  have F_shuffled := fun_mk (st := sShuffled) l26 c26 k26
  have C_shuffled : Cal l.prog w K mg base 3 "_law_shuffled" f26 _ ["_law_source_here", "_law_items"] spShuffled := ⟨ok_shuffled F_shuffled B C_take, PySem.W.mg_of X G a26, k26, F_shuffled.binds fun _ _ _ _ _ _ us hl => match us, hl with | [_, _], _ => rfl⟩
  have F_divided := fun_mk (st := sDivided) l27 c27 k27
  have C_divided : Cal l.prog w K mg base 3 "_law_divided" f27 _ ["_law_source_here", "_law_people_here", "_law_groups"] spDivided := ⟨ok_divided F_divided B C_take, PySem.W.mg_of X G a27, k27, F_divided.binds fun _ _ _ _ _ _ us hl => match us, hl with | [_, _, _], _ => rfl⟩
  have F_scene := fun_mk (st := sScene) l28 c28 k28
  have C_scene : Cal l.prog w K mg base 5 "_law_scene" f28 _ ["_law_source_here"] spScene := ⟨ok_scene F_scene C_take C_rounds C_people C_divided, PySem.W.mg_of X G a28, k28, F_scene.binds fun _ _ _ _ _ _ us hl => match us, hl with | [_], _ => rfl⟩
  have F_order := fun_mk (st := sOrder) l29 c29 k29
  have C_order : Cal l.prog w K mg base 7 "_law_order_right" f29 _ ["_law_source_here", "_law_entries", "_law_people_here", "_law_rows"] spPart := ⟨ok_order F_order B C_gValues C_weight C_shuffled C_lightest C_heaviest C_weighed, PySem.W.mg_of X G a29, k29, F_order.binds fun _ _ _ _ _ _ us hl => match us, hl with | [_, _, _, _], _ => rfl⟩
  have F_replaced := fun_mk (st := sReplaced) l30 c30 k30
  have C_replaced : Cal l.prog w K mg base 7 "_law_replaced_right" f30 _ ["_law_source_here", "_law_entries", "_law_people_here", "_law_rows"] spPart := ⟨ok_replaced F_replaced B C_gValues C_take, PySem.W.mg_of X G a30, k30, F_replaced.binds fun _ _ _ _ _ _ us hl => match us, hl with | [_, _, _, _], _ => rfl⟩
  have F_moved := fun_mk (st := sMoved) l31 c31 k31
  have C_moved : Cal l.prog w K mg base 7 "_law_moved_right" f31 _ ["_law_source_here", "_law_entries", "_law_people_here", "_law_rows"] spPart := ⟨ok_moved F_moved B C_gValues C_take, PySem.W.mg_of X G a31, k31, F_moved.binds fun _ _ _ _ _ _ us hl => match us, hl with | [_, _, _, _], _ => rfl⟩
  have F_law := fun_mk (st := sLaw) l32 c32 k32
  exact ok_law F_law C_source C_scene C_order C_replaced C_moved
end Sc

open PyProof.Rows PySem PySem.W
set_option maxHeartbeats 0 in
theorem PySem.Challenge.cw_splitclimb_k16_whole_splits_rearranged_holds : PySem.Challenge.rw_splitclimb_k16_whole_splits_rearranged.Holds := by
  w_on; o_law; k_head
  case hw => w_witness2
  k_fill
  refine L2.walk_of (l := PySem.Challenge.rw_splitclimb_k16_whole_splits_rearranged) (n := 63) (k := 8) (x := "_law_script") (CX := fun _ => L2.CX0) (sp := fun w => Sc.spLaw _) rfl (by decide) rfl ⟨rfl, by decide, by decide⟩ (fun w h Y => PySem.W.kIn_of Y) ?F (fun _ _ a ns hl _ hS => ⟨a, ns, rfl, hS, hl, fun _ => rfl⟩) (fun _ _ _ _ _ h => h)
  case F =>
    intro w mg fa h KX G hmg
    refine' Sc.all_mk KX G hmg ?a1 ?l1 ?c1 ?k1 ?a2 ?l2 ?c2 ?k2 ?a3 ?l3 ?c3 ?k3 ?a4 ?l4 ?c4 ?k4 ?a5 ?l5 ?c5 ?k5 ?a6 ?l6 ?c6 ?k6 ?a7 ?l7 ?c7 ?k7 ?a8 ?l8 ?c8 ?k8 ?a9 ?l9 ?c9 ?k9 ?a10 ?l10 ?c10 ?k10 ?a11 ?l11 ?c11 ?k11 ?a12 ?l12 ?c12 ?k12 ?a13 ?l13 ?c13 ?k13 ?a14 ?l14 ?c14 ?k14 ?a15 ?l15 ?c15 ?k15 ?a16 ?l16 ?c16 ?k16 ?a17 ?l17 ?c17 ?k17 ?a18 ?l18 ?c18 ?k18 ?a19 ?l19 ?c19 ?k19 ?a20 ?l20 ?c20 ?k20 ?a21 ?l21 ?c21 ?k21 ?a22 ?l22 ?c22 ?k22 ?a23 ?l23 ?c23 ?k23 ?a24 ?l24 ?c24 ?k24 ?a25 ?l25 ?c25 ?k25 ?a26 ?l26 ?c26 ?k26 ?a27 ?l27 ?c27 ?k27 ?a28 ?l28 ?c28 ?k28 ?a29 ?l29 ?c29 ?k29 ?a30 ?l30 ?c30 ?k30 ?a31 ?l31 ?c31 ?k31 ?a32 ?l32 ?c32 ?k32 ?z1 ?z2 ?z3 ?z4 ?z5 ?z6 ?z7 ?z8 ?z9 ?z10 ?z11 ?z12 ?z13 ?z14 ?y1 ?y2
    (case a1 => k_is); (case l1 => k_is); (case c1 => k_is); (case k1 => k_is); (case a2 => k_is); (case l2 => k_is); (case c2 => k_is); (case k2 => k_is); (case a3 => k_is); (case l3 => k_is); (case c3 => k_is); (case k3 => k_is); (case a4 => k_is); (case l4 => k_is); (case c4 => k_is); (case k4 => k_is); (case a5 => k_is); (case l5 => k_is); (case c5 => k_is); (case k5 => k_is); (case a6 => k_is); (case l6 => k_is); (case c6 => k_is); (case k6 => k_is); (case a7 => k_is); (case l7 => k_is); (case c7 => k_is); (case k7 => k_is); (case a8 => k_is); (case l8 => k_is); (case c8 => k_is); (case k8 => k_is); (case a9 => k_is); (case l9 => k_is); (case c9 => k_is); (case k9 => k_is); (case a10 => k_is); (case l10 => k_is); (case c10 => k_is); (case k10 => k_is); (case a11 => k_is); (case l11 => k_is); (case c11 => k_is); (case k11 => k_is); (case a12 => k_is); (case l12 => k_is); (case c12 => k_is); (case k12 => k_is); (case a13 => k_is); (case l13 => k_is); (case c13 => k_is); (case k13 => k_is); (case a14 => k_is); (case l14 => k_is); (case c14 => k_is); (case k14 => k_is); (case a15 => k_is); (case l15 => k_is); (case c15 => k_is); (case k15 => k_is); (case a16 => k_is); (case l16 => k_is); (case c16 => k_is); (case k16 => k_is); (case a17 => k_is); (case l17 => k_is); (case c17 => k_is); (case k17 => k_is); (case a18 => k_is); (case l18 => k_is); (case c18 => k_is); (case k18 => k_is); (case a19 => k_is); (case l19 => k_is); (case c19 => k_is); (case k19 => k_is); (case a20 => k_is); (case l20 => k_is); (case c20 => k_is); (case k20 => k_is); (case a21 => k_is); (case l21 => k_is); (case c21 => k_is); (case k21 => k_is); (case a22 => k_is); (case l22 => k_is); (case c22 => k_is); (case k22 => k_is); (case a23 => k_is); (case l23 => k_is); (case c23 => k_is); (case k23 => k_is); (case a24 => k_is); (case l24 => k_is); (case c24 => k_is); (case k24 => k_is); (case a25 => k_is); (case l25 => k_is); (case c25 => k_is); (case k25 => k_is); (case a26 => k_is); (case l26 => k_is); (case c26 => k_is); (case k26 => k_is); (case a27 => k_is); (case l27 => k_is); (case c27 => k_is); (case k27 => k_is); (case a28 => k_is); (case l28 => k_is); (case c28 => k_is); (case k28 => k_is); (case a29 => k_is); (case l29 => k_is); (case c29 => k_is); (case k29 => k_is); (case a30 => k_is); (case l30 => k_is); (case c30 => k_is); (case k30 => k_is); (case a31 => k_is); (case l31 => k_is); (case c31 => k_is); (case k31 => k_is); (case a32 => k_is); (case l32 => k_is); (case c32 => k_is); (case k32 => k_is); (case z1 => k_is); (case z2 => k_is); (case z3 => k_is); (case z4 => k_is); (case z5 => k_is); (case z6 => k_is); (case z7 => k_is); (case z8 => k_is); (case z9 => k_is); (case z10 => k_is); (case z11 => k_is); (case z12 => k_is); (case z13 => k_is); (case z14 => k_is); (case y1 => k_is); (case y2 => k_is)
