/- Helper: what the plain functions answer (for PackCodesUptoSaid). Conditions: as each theorem states. -/
import Derived.Test.YtljalgiimnbheaaGreatF1
import Derived.KernelRfl
set_option linter.all false
section
open Go
open Go.AM (loop sumE)
namespace Pu

theorem loop_iter {A B : Type} {step : (A → Option B) → A → Option B} (g : Nat → A) (K : Nat) (r : Option B) (h : ∀ i, i < K → ∀ L, step L (g i) = L (g (i + 1))) (he : ∀ L, step L (g K) = r) :
    ∀ m, K < m → loop step m (g 0) = r := by
  suffices H : ∀ j m, j ≤ K → K - j < m → loop step m (g j) = r from fun m hm => H 0 m (by omega) (by omega)
  intro j m hj hm
  induction m generalizing j with
  | zero => omega
  | succ m ih =>
    show step (loop step m) (g j) = r
    by_cases hjk : j = K
    · subst hjk; exact he _
    · rw [h j (by omega)]
      exact ih (j + 1) (by omega) (by omega)

theorem wi64 {x : Int} (h1 : -9223372036854775808 ≤ x) (h2 : x ≤ 9223372036854775807) : IntKind.wrap .i64 x = x := by
  have e : IntKind.wrap .i64 x = if 9223372036854775808 ≤ x % 18446744073709551616 then x % 18446744073709551616 - 18446744073709551616 else x % 18446744073709551616 := by
    simp [IntKind.wrap, IntKind.bits, IntKind.signed]
  rw [e]
  split <;> omega
theorem wu64m (x : Int) : IntKind.wrap .u64 x = x % 18446744073709551616 := by
  simp [IntKind.wrap, IntKind.bits, IntKind.signed]
theorem wu8m (x : Int) : IntKind.wrap .u8 x = x % 256 := by
  simp [IntKind.wrap, IntKind.bits, IntKind.signed]
theorem wu64 {x : Int} (h1 : 0 ≤ x) (h2 : x < 18446744073709551616) : IntKind.wrap .u64 x = x := by
  rw [wu64m]; omega
theorem wu64n {n : Nat} (h : n < 18446744073709551616) : IntKind.wrap .u64 (n : Int) = (n : Int) := wu64 (by omega) (by omega)
theorem wi64n {n : Nat} (h : n < 9223372036854775808) : IntKind.wrap .i64 (n : Int) = (n : Int) := wi64 (by omega) (by omega)
theorem wi64s {n : Nat} (h : n < 9223372036854775807) : IntKind.wrap .i64 ((n : Int) + 1) = ((n + 1 : Nat) : Int) := by rw [wi64 (by omega) (by omega)]; omega
theorem wu8n (n : Nat) : IntKind.wrap .u8 (n : Int) = ((n % 256 : Nat) : Int) := by rw [wu8m]; omega
@[simp] theorem at_nat {α : Type} (xs : List α) (i : Nat) : AM.at? xs (i : Int) = xs[i]? := by simp [AM.at?]
end Pu
end

section
open Go
open Go.AM (loop sumE)
namespace Pu
open Pl

def bits128 (W : Nat) : List Bool := (List.range 128).map W.testBit
theorem bits128_len (W : Nat) : (bits128 W).length = 128 := by simp [bits128]
theorem bits128_get (W i : Nat) (h : i < 128) : (bits128 W)[i]? = some (W.testBit i) := by simp [bits128, h]

theorem tmod2 (a : Nat) : ((a : Int).tmod 2 == 1) = decide (a % 2 = 1) := by
  have : (a : Int).tmod 2 = ((a % 2 : Nat) : Int) := by rw [Int.ofNat_tmod]; rfl
  rw [this]
  by_cases h : a % 2 = 1
  · simp [h]
  · have : a % 2 = 0 := by omega
    simp [this]
theorem tdiv2 (a : Nat) : (a : Int).tdiv 2 = ((a / 2 : Nat) : Int) := by rw [Int.ofNat_tdiv]; rfl

def mkA (h l i : Nat) : List Bool := (List.range 128).map fun j => if j < 64 then decide (j < i) && l.testBit j else decide (j - 64 < i) && h.testBit (j - 64)

theorem mkA_step (h l i : Nat) (hi : i < 64) : List.set (List.set (mkA h l i) i (l.testBit i)) (i + 64) (h.testBit i) = mkA h l (i + 1) := by
  apply List.ext_getElem?
  intro j
  by_cases hj : j < 128
  · simp only [List.getElem?_set, mkA, List.length_set, List.length_map, List.length_range, List.getElem?_map, List.getElem?_range hj, Option.map_some]
    by_cases h1 : i + 64 = j
    · subst h1
      have : ¬ (i + 64 < 64) := by omega
      simp [this, hj]
    · by_cases h2 : i = j
      · subst h2
        have : ¬ (i + 64 = i) := by omega
        simp [hi, show i < 128 by omega]
      · simp only [h1, h2, if_false, Option.some.injEq]
        have e1 : decide (j < i) = decide (j < i + 1) := by simp; omega
        have e2 : ¬ j < 64 → decide (j - 64 < i) = decide (j - 64 < i + 1) := fun _ => by simp; omega
        by_cases h3 : j < 64
        · simp [h3, e1]
        · simp [h3, e2 h3]
  · have l1 : (List.set (List.set (mkA h l i) i (l.testBit i)) (i + 64) (h.testBit i)).length ≤ j := by simp [mkA]; omega
    have l2 : (mkA h l (i + 1)).length ≤ j := by simp [mkA]; omega
    rw [List.getElem?_eq_none l1, List.getElem?_eq_none l2]

theorem mkA_64 (h l : Nat) (hl : l < 2 ^ 64) : mkA h l 64 = bits128 (h * 2 ^ 64 + l) := by
  apply List.map_congr_left
  intro j hj
  have hj : j < 128 := by simpa using hj
  by_cases h3 : j < 64
  · simp only [h3, if_true, decide_true, Bool.true_and]
    rw [Nat.mul_comm, Nat.testBit_two_pow_mul_add _ hl]
    simp [h3]
  · simp only [h3, if_false]
    rw [Nat.mul_comm, Nat.testBit_two_pow_mul_add _ hl]
    simp [h3, show j - 64 < 64 by omega]

theorem ref01_Of (n h l : Nat) (hh : h < 2 ^ 64) (hl : l < 2 ^ 64) (hn : 64 < n) : shunterref01_Of n (h : Int) (l : Int) = some (bits128 (h * 2 ^ 64 + l)) := by
  have key := loop_iter (step := shunterref01_Of.l0.step n) (fun i => ((((h / 2 ^ i : Nat) : Int), ((l / 2 ^ i : Nat) : Int), (i : Int), ()), ((List.replicate 128 false, ()), (mkA h l i, ()), ()))) 64
    (some ((()), ((List.replicate 128 false, ()), (mkA h l 64, ()), ()))) (fun i hi L => ?_) (fun L => ?_) n hn
  · have e0 : mkA h l 0 = List.replicate 128 false := by
      apply List.ext_getElem?
      intro j
      by_cases hj : j < 128
      · simp only [mkA, List.getElem?_map, List.getElem?_range hj, Option.map_some, List.getElem?_replicate, hj, if_true, Nat.not_lt_zero, decide_false, Bool.false_and, ite_self]
      · rw [List.getElem?_eq_none (by simp [mkA]; omega), List.getElem?_eq_none (by simp only [List.length_replicate]; omega)]
    simp only [Nat.pow_zero, Nat.div_one, e0] at key
    unfold shunterref01_Of shunterref01_Of.l0
    have key' := key
    simp only [Int.natCast_zero] at key'
    rw [show ((0 : Nat) : Int) = 0 from rfl] at key
    rw [key, Option.bind_some, mkA_64 h l hl]
  · have hb : h / 2 ^ i ≤ h := Nat.div_le_self _ _
    have lb : l / 2 ^ i ≤ l := Nat.div_le_self _ _
    unfold shunterref01_Of.l0.step
    have e1 : decide ((i : Int) < 64) = true := by simp; omega
    have e2 : (decide (0 ≤ (i : Int)) && decide ((i : Int) < 128)) = true := by simp; omega
    have e3 : IntKind.wrap .i64 ((i : Int) + 64) = ((i + 64 : Nat) : Int) := by rw [wi64 (by omega) (by omega)]; omega
    have e4 : (decide (0 ≤ ((i + 64 : Nat) : Int)) && decide (((i + 64 : Nat) : Int) < 128)) = true := by simp; omega
    have e5 : IntKind.wrap .i64 ((i : Int) + 1) = ((i + 1 : Nat) : Int) := by rw [wi64 (by omega) (by omega)]; omega
    have e6 : IntKind.wrap .u64 (((h / 2 ^ i : Nat) : Int).tdiv 2) = ((h / 2 ^ (i + 1) : Nat) : Int) := by
      rw [tdiv2, wu64n (by omega), Nat.div_div_eq_div_mul, Nat.pow_succ]
    have e7 : IntKind.wrap .u64 (((l / 2 ^ i : Nat) : Int).tdiv 2) = ((l / 2 ^ (i + 1) : Nat) : Int) := by
      rw [tdiv2, wu64n (by omega), Nat.div_div_eq_div_mul, Nat.pow_succ]
    have e8 : (mkA h l i)[i]? = some ((mkA h l i)[i]'(by simp [mkA]; omega)) := List.getElem?_eq_getElem _
    have t1 : decide (l / 2 ^ i % 2 = 1) = l.testBit i := (Nat.testBit_eq_decide_div_mod_eq).symm
    have t2 : decide (h / 2 ^ i % 2 = 1) = h.testBit i := (Nat.testBit_eq_decide_div_mod_eq).symm
    have e9 : ∃ b, (List.set (mkA h l i) i (l.testBit i))[i + 64]? = some b := ⟨_, List.getElem?_eq_getElem (by simp [mkA]; omega)⟩
    obtain ⟨b, e9⟩ := e9
    simp only [e1, e2, e3, e4, e5, e6, e7, tmod2, t1, t2, Int.toNat_natCast, e8, e9, if_true, Option.bind_some, mkA_step h l i hi]
  · unfold shunterref01_Of.l0.step
    rfl
end Pu
end

section
open Go
open Go.AM (loop sumE)
namespace Pu
open Pl

/-- how many bits a number has -/
def bl (W : Nat) : Nat := if W = 0 then 0 else W.log2 + 1
theorem bl_half (x : Nat) (h : x ≠ 0) : bl x = bl (x / 2) + 1 := by
  unfold bl
  rw [if_neg h]
  by_cases h2 : x / 2 = 0
  · have : x = 1 := by omega
    subst this; rfl
  · rw [if_neg h2, Nat.log2_def, if_pos (by omega)]
theorem bl_eq (x : Nat) (h : x < 2 ^ 64) : Lib.bitLen x = bl x := by
  induction x using Nat.strongRecOn with
  | _ x ih =>
    by_cases h0 : x = 0
    · subst h0; rfl
    · rw [Lib.bitLen_half x h0 h, ih (x / 2) (by omega) (by omega), bl_half x h0, Nat.add_comm]
theorem bl_shift (x b : Nat) (h : x / 2 ^ b ≠ 0) : bl x = b + bl (x / 2 ^ b) := by
  induction b generalizing x with
  | zero => simp
  | succ b ih =>
    have h0 : x ≠ 0 := by intro e; subst e; simp at h
    have e : x / 2 ^ (b + 1) = x / 2 / 2 ^ b := by rw [Nat.div_div_eq_div_mul, Nat.pow_succ, Nat.mul_comm]
    rw [e] at h ⊢
    rw [bl_half x h0, ih (x / 2) h]
    omega
theorem bl_le (x b : Nat) (h : x < 2 ^ b) : bl x ≤ b := by
  unfold bl
  split
  · omega
  · rename_i h0
    have := (Nat.log2_lt h0).2 h
    omega

theorem ref01_Len (n W : Nat) (hW : W < 2 ^ 128) (hn : 128 < n) : shunterref01_Len n (bits128 W) = some ((bl W : Nat) : Int) := by
  unfold shunterref01_Len shunterref01_Len.l0
  have step1 : ∀ (i : Nat), i < 128 → W.testBit (127 - i) = false → ∀ L, shunterref01_Len.l0.step n L ((((127 - i : Int), ()), ((bits128 W, ()), ()))) = L ((((127 - ((i + 1 : Nat) : Int) : Int), ()), ((bits128 W, ()), ()))) := by
    intro i hi ht L
    unfold shunterref01_Len.l0.step
    have e1 : decide ((127 - (i : Int)) ≥ 0) = true := by simp; omega
    have e2 : decide ((127 - (i : Int)) < 128) = true := by simp; omega
    have e3 : (127 - (i : Int)).toNat = 127 - i := by omega
    have e4 : IntKind.wrap .i64 ((127 - (i : Int)) - 1) = 127 - ((i + 1 : Nat) : Int) := by rw [wi64 (by omega) (by omega)]; omega
    simp only [e1, e2, e3, e4, bits128_get W (127 - i) (by omega), ht, if_true, Option.bind_some, Bool.and_self]
    rfl
  by_cases h0 : W = 0
  · have key := loop_iter (step := shunterref01_Len.l0.step n) (fun i => ((((127 - i : Int), ()), ((bits128 W, ()), ())))) 128 (some (Sum.inl ((()), (())))) (fun i hi L => step1 i hi (by subst h0; simp) L) (fun L => by unfold shunterref01_Len.l0.step; rfl) n hn
    have key : loop (shunterref01_Len.l0.step n) n (((127 : Int), ()), ((bits128 W, ()), ())) = _ := key
    rw [key]
    subst h0
    rfl
  · have hlt : W.log2 < 128 := (Nat.log2_lt h0).2 hW
    have key := loop_iter (step := shunterref01_Len.l0.step n) (fun i => ((((127 - i : Int), ()), ((bits128 W, ()), ())))) (127 - W.log2) (some (Sum.inr ((((W.log2 + 1 : Nat) : Int), ()), (()))))
      (fun i hi L => step1 i (by omega) (Nat.testBit_lt_two_pow (Nat.lt_of_lt_of_le Nat.lt_log2_self (Nat.pow_le_pow_right (by omega) (by omega)))) L)
      (fun L => by
        unfold shunterref01_Len.l0.step
        have e0 : (127 - ((127 - W.log2 : Nat) : Int)) = (W.log2 : Int) := by omega
        have e1 : decide ((W.log2 : Int) ≥ 0) = true := by simp
        have e2 : decide ((W.log2 : Int) < 128) = true := by simp; omega
        have e4 : IntKind.wrap .i64 ((W.log2 : Int) + 1) = ((W.log2 + 1 : Nat) : Int) := by rw [wi64 (by omega) (by omega)]; omega
        have e5 : W.testBit W.log2 = true := by
          rw [Nat.testBit_eq_decide_div_mod_eq]
          have h1 := Nat.log2_self_le h0
          have h2 : W < 2 ^ W.log2 * 2 := by have := Nat.lt_log2_self (n := W); rwa [Nat.pow_succ] at this
          have : W / 2 ^ W.log2 = 1 := by
            apply Nat.div_eq_of_lt_le <;> omega
          simp [this]
        simp only [e0, e1, e2, e4, e5, bits128_get W W.log2 hlt, Int.toNat_natCast, if_true, Option.bind_some, Bool.and_self]) n (by omega)
    have key : loop (shunterref01_Len.l0.step n) n (((127 : Int), ()), ((bits128 W, ()), ())) = _ := key
    rw [key]
    have : bl W = W.log2 + 1 := by simp [bl, h0]
    rw [this]
    rfl

/-- numbers of 64 bits -/
def U64 (x : Int) : Prop := 0 ≤ x ∧ x ≤ 18446744073709551615
def I64 (x : Int) : Prop := -9223372036854775808 ≤ x ∧ x ≤ 9223372036854775807
def VR (v : T_api_Vec) : Prop := I64 v.1 ∧ U64 v.2.1 ∧ U64 v.2.2.1
/-- a word's number -/
def wnat (v : T_word_Word) : Nat := v.1.toNat * 2 ^ 64 + v.2.1.toNat
def vmay (v : T_api_Vec) : Bool := decide (1 ≤ v.1) && (decide (v.1 ≤ 128) && decide (((bl (wnat v.2) : Nat) : Int) ≤ v.1))

theorem wnat_lt {v : T_word_Word} (h1 : U64 v.1) (h2 : U64 v.2.1) : wnat v < 2 ^ 128 := by
  obtain ⟨a, b, _⟩ := v
  simp only [U64, wnat] at *
  omega

theorem len64_eq {x : Int} (h : U64 x) : AM.len64 x = some ((bl x.toNat : Nat) : Int) := by
  unfold AM.len64
  have h' := h
  unfold U64 at h'
  rw [if_pos h', bl_eq _ (by omega)]
theorem word_Len_eq (n : Nat) {w : T_word_Word} (h1 : U64 w.1) (h2 : U64 w.2.1) : word_Len n w = some ((bl (wnat w) : Nat) : Int) := by
  obtain ⟨a, b, _⟩ := w
  simp only at h1 h2
  unfold word_Len math_bits_Len64
  simp only [len64_eq h1, len64_eq h2, Option.bind_some, wnat]
  by_cases h : a > 0
  · have hd : (a.toNat * 2 ^ 64 + b.toNat) / 2 ^ 64 = a.toNat := by
      unfold U64 at h2
      omega
    have e := bl_shift (a.toNat * 2 ^ 64 + b.toNat) 64 (by rw [hd]; omega)
    rw [hd] at e
    have hl : bl a.toNat ≤ 64 := bl_le _ _ (by unfold U64 at h1; omega)
    simp only [h, decide_true, if_true]
    rw [wi64 (by omega) (by omega), e]
    simp
  · have : a = 0 := by unfold U64 at h1; omega
    subst this
    simp

theorem vec_May_eq (n : Nat) {v : T_api_Vec} (h : VR v) : vec_May n v = some (vmay v) := by
  unfold vec_May vec_width vec_Word vmay
  have e := word_Len_eq n (w := (v.2.1, v.2.2.1, ())) h.2.1 h.2.2
  by_cases h1 : 1 ≤ v.1
  · by_cases h2 : v.1 ≤ 128
    · simp only [h1, h2, ge_iff_le, decide_true, if_true, Option.bind_some, e, Bool.true_and]
    · simp [h1, h2]
  · simp [h1]

theorem ref02_May_eq (n : Nat) (hn : 128 < n) {v : T_api_Vec} (h : VR v) : shunterref02_May n v = some (vmay v) := by
  obtain ⟨w, a, b, _⟩ := v
  obtain ⟨_, h1, h2⟩ := h
  simp only at h1 h2
  unfold shunterref02_May vmay
  obtain ⟨a, rfl⟩ := Int.eq_ofNat_of_zero_le h1.1
  obtain ⟨b, rfl⟩ := Int.eq_ofNat_of_zero_le h2.1
  have ha : a < 2 ^ 64 := by have := h1.2; omega
  have hb : b < 2 ^ 64 := by have := h2.2; omega
  have hW : a * 2 ^ 64 + b < 2 ^ 128 := by omega
  have eo := ref01_Of n a b ha hb (by omega)
  have el := ref01_Len n (a * 2 ^ 64 + b) hW hn
  by_cases h1 : 1 ≤ w
  · by_cases h2 : w ≤ 128
    · simp only [h1, h2, ge_iff_le, decide_true, if_true, eo, el, Option.bind_some, Bool.true_and, wnat, Int.toNat_natCast]
      rfl
    · simp [h1, h2]
  · simp [h1]
end Pu
end

section
open Go
open Go.AM (loop sumE)
namespace Pu
open Pl

/-- a number's bytes, the highest first -/
def beN (k X : Nat) : List Int := (List.range k).map fun i => ((X / 2 ^ (8 * (k - 1 - i)) % 256 : Nat) : Int)
/-- a number's bits, the highest first -/
def revb (T X : Nat) : List Bool := (List.range T).map fun j => X.testBit (T - 1 - j)
def u64 (v : Int) : Nat := (v % 18446744073709551616).toNat
@[simp] theorem beN_len (k X : Nat) : (beN k X).length = k := by simp [beN]
@[simp] theorem revb_len (k X : Nat) : (revb k X).length = k := by simp [revb]
theorem beN_get (k X i : Nat) (h : i < k) : (beN k X)[i]? = some ((X / 2 ^ (8 * (k - 1 - i)) % 256 : Nat) : Int) := by simp [beN, h]
theorem revb_get (k X i : Nat) (h : i < k) : (revb k X)[i]? = some (X.testBit (k - 1 - i)) := by simp [revb, h]
theorem take_succ_get {α : Type} {l : List α} {i : Nat} {x : α} (h : l[i]? = some x) : l.take (i + 1) = l.take i ++ [x] := by
  rw [List.take_add_one, h]; rfl
theorem u64_lt (v : Int) : u64 v < 18446744073709551616 := by unfold u64; omega

theorem byte_of (v : Int) (j : Nat) (hj : j < 8) : IntKind.wrap .u8 (AM.shiftR .i64 v (8 * (j : Int))) = ((u64 v / 2 ^ (8 * j) % 256 : Nat) : Int) := by
  rw [wu8m]
  unfold AM.shiftR u64
  have e : (min (8 * (j : Int)).toNat IntKind.i64.bits) = 8 * j := by simp only [IntKind.bits]; omega
  rw [e, Int.fdiv_eq_ediv_of_nonneg _ (by exact Int.pow_nonneg (by omega))]
  have : j = 0 ∨ j = 1 ∨ j = 2 ∨ j = 3 ∨ j = 4 ∨ j = 5 ∨ j = 6 ∨ j = 7 := by omega
  rcases this with h | h | h | h | h | h | h | h <;> subst h <;> simp only [Nat.reduceMul, Nat.reducePow, Int.reducePow] <;> omega

theorem wire_put_eq (n : Nat) (b : List Int) (v : Int) (s : Nat) (hs : s ≤ 8) (hn : 8 < n) (hb : b.length + s ≤ 140737488355328) : wire_put n b v (s : Int) = some (b ++ beN s (u64 v)) := by
  have key := loop_iter (step := wire_put.l0.step n) (fun i => ((v, (s : Int), (s : Int), (i : Int), ()), (b ++ (beN s (u64 v)).take i, ()))) s (some ((()), (b ++ beN s (u64 v), ()))) (fun i hi L => ?_) (fun L => ?_) n (by omega)
  · unfold wire_put wire_put.l0 bytes_Clone AM.cloneB
    rw [if_pos (by omega), Option.bind_some]
    simp only [List.take_zero, List.append_nil] at key
    have key : loop (wire_put.l0.step n) n ((v, (s : Int), (s : Int), (0 : Int), ()), (b, ())) = _ := key
    rw [key]
    rfl
  · unfold wire_put.l0.step
    have e1 : decide ((i : Int) < (s : Int)) = true := by simp; omega
    have e2 : IntKind.wrap .i64 ((s : Int) - 1) = (s : Int) - 1 := wi64 (by omega) (by omega)
    have e3 : IntKind.wrap .i64 ((s : Int) - 1 - (i : Int)) = ((s - 1 - i : Nat) : Int) := by rw [wi64 (by omega) (by omega)]; omega
    have e4 : IntKind.wrap .i64 ((8 : Int) * ((s - 1 - i : Nat) : Int)) = 8 * ((s - 1 - i : Nat) : Int) := wi64 (by omega) (by omega)
    have e5 : decide (8 * ((s - 1 - i : Nat) : Int) < 0) = false := by simp; omega
    have e6 := byte_of v (s - 1 - i) (by omega)
    have e7 : ((b ++ (beN s (u64 v)).take i).length + ([((u64 v / 2 ^ (8 * (s - 1 - i)) % 256 : Nat) : Int)] : List Int).length ≤ 140737488355328) := by
      simp only [List.length_append, List.length_take, beN_len, List.length_cons, List.length_nil]; omega
    have e8 : IntKind.wrap .i64 ((i : Int) + 1) = ((i + 1 : Nat) : Int) := wi64s (by omega)
    simp only [e1, e2, e3, e4, e5, e6, e8, if_true, Bool.false_eq_true, if_false]
    simp only [e7, decide_true, if_true, take_succ_get (beN_get s (u64 v) i hi), List.append_assoc]
  · unfold wire_put.l0.step
    simp [beN_len, List.take_of_length_le]

theorem wire_Byte_eq (n : Nat) (b : List Int) (v : Int) (hn : 8 < n) (hb : b.length + 1 ≤ 140737488355328) : wire_Byte n b v = some (b ++ beN 1 (u64 v)) := by
  unfold wire_Byte
  rw [show (1 : Int) = ((1 : Nat) : Int) from rfl, wire_put_eq n b v 1 (by omega) hn hb]
  rfl

/-! the document's bits -/
theorem ref02_Bits_eq (n : Nat) (w : Nat) (h l : Int) (hh : U64 h) (hl : U64 l) (hw : w ≤ 128) (hn : 128 < n) : shunterref02_Bits n ((w : Int), h, l, ()) = some ((bits128 (wnat (h, l, ()))).take w) := by
  obtain ⟨a, rfl⟩ := Int.eq_ofNat_of_zero_le hh.1
  obtain ⟨b, rfl⟩ := Int.eq_ofNat_of_zero_le hl.1
  have ha : a < 2 ^ 64 := by have := hh.2; omega
  have hb : b < 2 ^ 64 := by have := hl.2; omega
  have eo := ref01_Of n a b ha hb (by omega)
  unfold shunterref02_Bits
  have e0 : wnat ((a : Int), (b : Int), ()) = a * 2 ^ 64 + b := by simp [wnat]
  rw [e0]
  generalize a * 2 ^ 64 + b = W at *
  have eo : shunterref01_Of n (((w : Int), (a : Int), (b : Int), ()) : T_api_Vec).2.1 (((w : Int), (a : Int), (b : Int), ()) : T_api_Vec).2.2.1 = some (bits128 W) := eo
  rw [eo, Option.bind_some]
  have key := loop_iter (step := shunterref02_Bits.l0.step n) (fun i => (((i : Int), ()), (((w : Int), (a : Int), (b : Int), ()), (bits128 W, ()), (bits128 W).take i, ()))) w (some ((()), ((bits128 W).take w, ()))) (fun i hi L => ?_) (fun L => ?_) n (by omega)
  · simp only [List.take_zero] at key
    have key : loop (shunterref02_Bits.l0.step n) n (((0 : Int), ()), (((w : Int), (a : Int), (b : Int), ()), (bits128 W, ()), ([] : List Bool), ())) = _ := key
    unfold shunterref02_Bits.l0
    have key : loop (shunterref02_Bits.l0.step n) n (((0 : Int), ()), (((w : Int), ((a : Nat) : Int), ((b : Nat) : Int), ()), (bits128 W, ()), ([] : List Bool), ())) = _ := key
    exact congrArg (fun o => Option.bind o fun y7 => some y7.2.1) key
  · unfold shunterref02_Bits.l0.step
    have e1 : decide ((i : Int) < (w : Int)) = true := by simp; omega
    have e2 : decide ((i : Int) < 128) = true := by simp; omega
    have e3 : decide (0 ≤ (i : Int)) = true := by simp
    have e4 : decide (((bits128 W).take i).length + 1 ≤ 140737488355328) = true := by
      simp only [List.length_take, bits128_len, decide_eq_true_eq]; omega
    have e5 : IntKind.wrap .i64 ((i : Int) + 1) = ((i + 1 : Nat) : Int) := wi64s (by omega)
    simp only [e1, e2, e3, e5, if_true, Bool.and_self, Int.toNat_natCast, bits128_get W i (by omega), Option.bind_some, List.length_cons, List.length_nil, Nat.zero_add, e4, take_succ_get (bits128_get W i (by omega))]
  · unfold shunterref02_Bits.l0.step
    have e1 : decide ((w : Int) < (w : Int)) = false := by simp
    simp only [e1, Bool.false_eq_true, if_false]

/-- the bits of a byte, as they come -/
def byteAcc (l : List Bool) (p : Nat) : Nat → Nat
  | 0 => 0
  | q + 1 => 2 * byteAcc l p q + (if l[p + q]? = some true then 1 else 0)
theorem byteAcc_lt (l : List Bool) (p q : Nat) : byteAcc l p q < 2 ^ q := by
  induction q with
  | zero => simp [byteAcc]
  | succ q ih =>
    rw [Nat.pow_succ]
    simp only [byteAcc]
    split <;> omega

theorem bytes_l2 (n : Nat) (l : List Bool) (p : Nat) (out : List Int) (hn : 8 < n) (hp : p < 140737488355328) (hl : l.length ≤ 140737488355328) :
    shunterref03_Bytes.l2 n n ((l, (p : Int), (0 : Int), (p : Int), ()), (out, ())) = some ((l, (p : Int), (byteAcc l p 8 : Int), ()), (out, ())) := by
  refine loop_iter (step := shunterref03_Bytes.l2.step n) (fun i => ((l, (p : Int), (byteAcc l p i : Int), ((p + i : Nat) : Int), ()), (out, ()))) 8 _ (fun i hi L => ?_) (fun L => ?_) n hn
  · have ha := byteAcc_lt l p i
    have ha' : byteAcc l p i < 256 := Nat.lt_of_lt_of_le ha (by have := Nat.pow_le_pow_right (n := 2) (by omega) (show i ≤ 8 by omega); omega)
    unfold shunterref03_Bytes.l2.step
    have e0 : IntKind.wrap .i64 ((p : Int) + 8) = ((p + 8 : Nat) : Int) := by rw [wi64 (by omega) (by omega)]; omega
    have e1 : decide (((p + i : Nat) : Int) < ((p + 8 : Nat) : Int)) = true := by simp; omega
    have e2 : IntKind.wrap .i64 (2 * (byteAcc l p i : Int)) = ((2 * byteAcc l p i : Nat) : Int) := by rw [wi64 (by omega) (by omega)]; omega
    have e3 : IntKind.wrap .i64 (((p + i : Nat) : Int) + 1) = ((p + (i + 1) : Nat) : Int) := by rw [wi64 (by omega) (by omega)]; omega
    have e4 : IntKind.wrap .i64 (((2 * byteAcc l p i : Nat) : Int) + 1) = ((2 * byteAcc l p i + 1 : Nat) : Int) := wi64s (by omega)
    simp only [e0, e1, e2, if_true]
    by_cases h : p + i < l.length
    · have e5 : decide (((p + i : Nat) : Int) < (l.length : Int)) = true := by simp; omega
      obtain ⟨b, hb⟩ : ∃ b, l[p + i]? = some b := ⟨_, List.getElem?_eq_getElem h⟩
      simp only [e5, if_true, at_nat, hb, Option.bind_some]
      unfold shunterref03_Bytes.l2.step.j1
      cases b <;> simp only [e3, e4, Bool.false_eq_true, if_false, if_true, byteAcc, hb, Option.some.injEq, Nat.add_zero]
    · have e5 : decide (((p + i : Nat) : Int) < (l.length : Int)) = false := by simp; omega
      have hb : l[p + i]? = none := List.getElem?_eq_none (by omega)
      simp only [e5, Bool.false_eq_true, if_false]
      unfold shunterref03_Bytes.l2.step.j1
      simp only [e3, Bool.false_eq_true, if_false, byteAcc, hb, reduceCtorEq, Nat.add_zero]
  · unfold shunterref03_Bytes.l2.step
    have e0 : IntKind.wrap .i64 ((p : Int) + 8) = ((p + 8 : Nat) : Int) := by rw [wi64 (by omega) (by omega)]; omega
    simp [e0]

def bytesL (l : List Bool) : List Int := (List.range ((l.length + 7) / 8)).map fun i => (byteAcc l (8 * i) 8 : Int)

theorem ref03_Bytes_eq (n : Nat) (l : List Bool) (hl : l.length ≤ 8000000) (hn : (l.length + 7) / 8 < n) (hn8 : 8 < n) : shunterref03_Bytes n l = some (bytesL l) := by
  have hg : ∀ i, i < (l.length + 7) / 8 → (bytesL l)[i]? = some (byteAcc l (8 * i) 8 : Int) := fun i hi => by simp [bytesL, hi]
  have hln : (bytesL l).length = (l.length + 7) / 8 := by simp [bytesL]
  have key := loop_iter (step := shunterref03_Bytes.l0.step n) (fun i => ((l, ((8 * i : Nat) : Int), ()), ((bytesL l).take i, ()))) ((l.length + 7) / 8) (some ((()), (bytesL l, ()))) (fun i hi L => ?_) (fun L => ?_) n hn
  · simp only [List.take_zero] at key
    have key : loop (shunterref03_Bytes.l0.step n) n ((l, (0 : Int), ()), (([] : List Int), ())) = _ := key
    unfold shunterref03_Bytes shunterref03_Bytes.l0
    rw [key]
    rfl
  · unfold shunterref03_Bytes.l0.step
    have e1 : decide (((8 * i : Nat) : Int) < (l.length : Int)) = true := by simp only [decide_eq_true_eq]; omega
    have ha := byteAcc_lt l (8 * i) 8
    have e2 : IntKind.wrap .u8 (byteAcc l (8 * i) 8 : Int) = (byteAcc l (8 * i) 8 : Int) := by rw [wu8n, Nat.mod_eq_of_lt (by simpa using ha)]
    have e3 : IntKind.wrap .i64 (((8 * i : Nat) : Int) + 8) = ((8 * (i + 1) : Nat) : Int) := by rw [wi64 (by omega) (by omega)]; omega
    have e4 : decide (((bytesL l).take i).length + 1 ≤ 140737488355328) = true := by
      simp only [List.length_take, decide_eq_true_eq, hln]; omega
    simp only [e1, if_true, bytes_l2 n l (8 * i) ((bytesL l).take i) hn8 (by omega) (by omega), Option.bind_some, e2, e3, List.length_cons, List.length_nil, Nat.zero_add, e4, take_succ_get (hg i hi)]
  · unfold shunterref03_Bytes.l0.step
    have e1 : decide (((8 * ((l.length + 7) / 8) : Nat) : Int) < (l.length : Int)) = false := by simp only [decide_eq_false_iff_not]; omega
    simp only [e1, Bool.false_eq_true, if_false]
    rw [List.take_of_length_le (by omega)]

/-- the bytes of a number's bits are its bytes -/
theorem byteAcc_revb (T X p q : Nat) (h : p + q ≤ T) : byteAcc (revb T X) p q = X / 2 ^ (T - p - q) % 2 ^ q := by
  induction q with
  | zero => simp [byteAcc, Nat.mod_one]
  | succ q ih =>
    rw [byteAcc, ih (by omega), revb_get T X (p + q) (by omega)]
    have e : T - p - q = (T - p - (q + 1)) + 1 := by omega
    have e2 : T - 1 - (p + q) = T - p - (q + 1) := by omega
    rw [e2, e]
    generalize T - p - (q + 1) = s
    have e3 : X / 2 ^ (s + 1) = X / 2 ^ s / 2 := by rw [Nat.div_div_eq_div_mul, Nat.pow_succ]
    rw [e3, Nat.testBit_eq_decide_div_mod_eq]
    generalize X / 2 ^ s = Y
    have e4 : 2 * (Y / 2 % 2 ^ q) = 2 * (Y / 2) % 2 ^ (q + 1) := by rw [Nat.pow_succ, Nat.mul_comm (2 ^ q) 2, Nat.mul_mod_mul_left]
    have h1 : Y % 2 ^ (q + 1) % 2 = Y % 2 := Nat.mod_mod_of_dvd _ ⟨2 ^ q, by rw [Nat.pow_succ, Nat.mul_comm]⟩
    have h2 : Y % 2 ^ (q + 1) / 2 = Y / 2 % 2 ^ q := by
      rw [Nat.pow_succ, Nat.mul_comm, Nat.mod_mul_right_div_self]
    by_cases hy : Y % 2 = 1
    · simp only [hy, decide_true, if_true]; omega
    · have : Y % 2 = 0 := by omega
      simp only [this, Nat.zero_ne_one, decide_false, Option.some.injEq, Bool.false_eq_true, if_false]; omega

theorem bytesL_revb (k X : Nat) : bytesL (revb (8 * k) X) = beN k X := by
  unfold bytesL beN
  rw [revb_len, show (8 * k + 7) / 8 = k by omega]
  apply List.map_congr_left
  intro i hi
  have hi : i < k := by simpa using hi
  rw [byteAcc_revb (8 * k) X (8 * i) 8 (by omega), show 8 * k - 8 * i - 8 = 8 * (k - 1 - i) by omega]
end Pu
end

section
open Go
open Go.AM (loop sumE)
namespace Pu
open Pl

theorem wrap_u64 (v : Int) : IntKind.wrap .u64 v = (u64 v : Int) := by rw [wu64m]; unfold u64; omega

theorem wu8_u64 (v : Int) : IntKind.wrap .u8 v = ((u64 v % 256 : Nat) : Int) := by rw [wu8m]; unfold u64; omega
theorem beN1 (X : Nat) : beN 1 X = [((X % 256 : Nat) : Int)] := by simp [beN, List.range_succ]
theorem ref07_Number_eq (n : Nat) (v : Int) (s : Nat) (hs : s ≤ 8) (hn : 128 < n) : shunterref07_Number n v (s : Int) = some (beN s (u64 v)) := by
  have hV := u64_lt v
  unfold shunterref07_Number
  have hB := ref02_Bits_eq n 64 0 (u64 v : Int) ⟨by omega, by omega⟩ ⟨by omega, by omega⟩ (by omega) hn
  have e0 : wnat ((0 : Int), (u64 v : Int), ()) = u64 v := by simp [wnat]
  rw [e0] at hB
  have hB : shunterref02_Bits n ((64 : Int), (0 : Int), IntKind.wrap .u64 v, ()) = some ((bits128 (u64 v)).take 64) := by rw [wrap_u64]; exact hB
  rw [hB, Option.bind_some]
  have c2 : IntKind.wrap .i64 ((8 : Int) * (s : Int)) = ((8 * s : Nat) : Int) := by rw [wi64 (by omega) (by omega)]; omega
  have c3 : IntKind.wrap .i64 (((8 * s : Nat) : Int) - 1) = ((8 * s : Nat) : Int) - 1 := wi64 (by omega) (by omega)
  simp only [c2, c3]
  have hget : ∀ j, j < 64 → ((bits128 (u64 v)).take 64)[j]? = some ((u64 v).testBit j) := fun j hj => by rw [List.getElem?_take_of_lt hj, bits128_get _ j (by omega)]
  generalize (bits128 (u64 v)).take 64 = y1 at *
  have key := loop_iter (step := shunterref07_Number.l0.step n) (fun i => (((((8 * s : Nat) : Int) - 1 - (i : Int)), ()), (y1, (revb (8 * s) (u64 v)).take i, ()))) (8 * s) (some ((()), (revb (8 * s) (u64 v), ()))) (fun i hi L => ?_) (fun L => ?_) n (by omega)
  · simp only [List.take_zero] at key
    have key : loop (shunterref07_Number.l0.step n) n (((((8 * s : Nat) : Int) - 1 - 0), ()), (y1, ([] : List Bool), ())) = _ := key
    rw [Int.sub_zero] at key
    unfold shunterref07_Number.l0
    rw [key, Option.bind_some]
    simp only [ref03_Bytes_eq n (revb (8 * s) (u64 v)) (by simp; omega) (by simp; omega) (by omega), Option.bind_some, bytesL_revb]
  · unfold shunterref07_Number.l0.step
    have e1 : decide (((8 * s : Nat) : Int) - 1 - (i : Int) ≥ 0) = true := by simp only [decide_eq_true_eq]; omega
    have e2 : ((8 * s : Nat) : Int) - 1 - (i : Int) = ((8 * s - 1 - i : Nat) : Int) := by omega
    have e3 : IntKind.wrap .i64 (((8 * s - 1 - i : Nat) : Int) - 1) = ((8 * s : Nat) : Int) - 1 - ((i + 1 : Nat) : Int) := by rw [wi64 (by omega) (by omega)]; omega
    have e4 : decide (((revb (8 * s) (u64 v)).take i).length + 1 ≤ 140737488355328) = true := by
      simp only [List.length_take, decide_eq_true_eq, revb_len]; omega
    rw [e2] at e1
    simp only [e2, e1, if_true, at_nat, Int.toNat_natCast, hget (8 * s - 1 - i) (by omega), Option.bind_some, e3, List.length_cons, List.length_nil, Nat.zero_add, e4, take_succ_get (revb_get (8 * s) (u64 v) i hi)]
  · unfold shunterref07_Number.l0.step
    have e1 : decide (((8 * s : Nat) : Int) - 1 - ((8 * s : Nat) : Int) ≥ 0) = false := by simp only [decide_eq_false_iff_not]; omega
    simp only [e1, Bool.false_eq_true, if_false]
    rw [List.take_of_length_le (by simp)]

theorem n1_eq (n : Nat) (v : Int) (hn : 128 < n) : shunterref11_n1 n v = some (beN 1 (u64 v)) := by
  unfold shunterref11_n1
  rw [show (1 : Int) = ((1 : Nat) : Int) from rfl, ref07_Number_eq n v 1 (by omega) hn]
  rfl

theorem ref03_Of_eq (n : Nat) (w : Nat) (h l : Int) (hh : U64 h) (hl : U64 l) (hw : w ≤ 128) (hn : 128 < n) : shunterref03_Of n ((w : Int), h, l, ()) = some (revb w (wnat (h, l, ()))) := by
  unfold shunterref03_Of
  rw [ref02_Bits_eq n w h l hh hl hw hn, Option.bind_some]
  have hget : ∀ j, j < w → ((bits128 (wnat (h, l, ()))).take w)[j]? = some ((wnat (h, l, ())).testBit j) := fun j hj => by rw [List.getElem?_take_of_lt hj, bits128_get _ j (by omega)]
  have hlen : ((bits128 (wnat (h, l, ()))).take w).length = w := by rw [List.length_take, bits128_len]; omega
  generalize (bits128 (wnat (h, l, ()))).take w = y1 at *
  generalize wnat (h, l, ()) = W at *
  have c2 : IntKind.wrap .i64 ((y1.length : Int) - 1) = (w : Int) - 1 := by rw [hlen, wi64 (by omega) (by omega)]
  simp only [c2]
  have key := loop_iter (step := shunterref03_Of.l0.step n) (fun i => ((((w : Int) - 1 - (i : Int)), ()), (y1, (revb w W).take i, ()))) w (some ((()), (revb w W, ()))) (fun i hi L => ?_) (fun L => ?_) n (by omega)
  · simp only [List.take_zero] at key
    have key : loop (shunterref03_Of.l0.step n) n ((((w : Int) - 1 - 0), ()), (y1, ([] : List Bool), ())) = _ := key
    rw [Int.sub_zero] at key
    unfold shunterref03_Of.l0
    rw [key, Option.bind_some]
  · unfold shunterref03_Of.l0.step
    have e1 : decide ((w : Int) - 1 - (i : Int) ≥ 0) = true := by simp only [decide_eq_true_eq]; omega
    have e2 : (w : Int) - 1 - (i : Int) = ((w - 1 - i : Nat) : Int) := by omega
    have e3 : IntKind.wrap .i64 (((w - 1 - i : Nat) : Int) - 1) = (w : Int) - 1 - ((i + 1 : Nat) : Int) := by rw [wi64 (by omega) (by omega)]; omega
    have e4 : decide (((revb w W).take i).length + 1 ≤ 140737488355328) = true := by
      simp only [List.length_take, decide_eq_true_eq, revb_len]; omega
    rw [e2] at e1
    simp only [e2, e1, if_true, at_nat, Int.toNat_natCast, hget (w - 1 - i) (by omega), Option.bind_some, e3, List.length_cons, List.length_nil, Nat.zero_add, e4, take_succ_get (revb_get w W i hi)]
  · unfold shunterref03_Of.l0.step
    have e1 : decide ((w : Int) - 1 - (w : Int) ≥ 0) = false := by simp only [decide_eq_false_iff_not]; omega
    simp only [e1, Bool.false_eq_true, if_false]
    rw [List.take_of_length_le (by simp)]

theorem revb_pad (T w W : Nat) (hW : W < 2 ^ w) (hT : w ≤ T) : List.replicate (T - w) false ++ revb w W = revb T W := by
  apply List.ext_getElem?
  intro j
  by_cases h1 : j < T - w
  · rw [List.getElem?_append_left (by simpa using h1), revb_get T W j (by omega), List.getElem?_replicate, if_pos h1]
    rw [Nat.testBit_lt_two_pow (Nat.lt_of_lt_of_le hW (Nat.pow_le_pow_right (by omega) (by omega)))]
  · rw [List.getElem?_append_right (by simp; omega), List.length_replicate]
    by_cases h2 : j < T
    · rw [revb_get T W j h2, revb_get w W _ (by omega)]
      congr 2
      omega
    · rw [List.getElem?_eq_none (by simp; omega), List.getElem?_eq_none (by simp; omega)]

/-- a row's bytes -/
def vecB (v : T_api_Vec) : List Int := if vmay v then beN 1 (u64 v.1) ++ beN ((v.1.toNat + 7) / 8) (wnat v.2) else [0]

theorem bl_lt (W w : Nat) (h : bl W ≤ w) : W < 2 ^ w := by
  unfold bl at h
  split at h
  · rename_i h0; subst h0; exact Nat.two_pow_pos w
  · exact Nat.lt_of_lt_of_le Nat.lt_log2_self (Nat.pow_le_pow_right (by omega) h)

theorem ref07_Vec_eq (n : Nat) {v : T_api_Vec} (hv : VR v) (hn : 128 < n) : shunterref07_Vec n v = some (vecB v) := by
  unfold shunterref07_Vec vecB
  rw [ref02_May_eq n hn hv, Option.bind_some]
  by_cases hm : vmay v = true
  · rw [hm]
    simp only [Bool.not_true, Bool.false_eq_true, if_false, if_true]
    obtain ⟨w, h, l, ⟨⟩⟩ := v
    obtain ⟨_, hh, hl⟩ := hv
    simp only at hh hl
    simp only [vmay, Bool.and_eq_true, decide_eq_true_eq] at hm
    obtain ⟨h1, h2, h3⟩ := hm
    obtain ⟨w, rfl⟩ := Int.eq_ofNat_of_zero_le (show 0 ≤ w by omega)
    have h3 : ((bl (wnat (h, l, ())) : Nat) : Int) ≤ (w : Int) := h3
    have hW : wnat (h, l, ()) < 2 ^ w := bl_lt _ _ (by omega)
    have key := loop_iter (step := shunterref07_Vec.l0.step n) (fun i => ((()), (((w : Int), h, l, ()), List.replicate i false, ()))) (8 * ((w + 7) / 8) - w) (some ((()), (((w : Int), h, l, ()), List.replicate (8 * ((w + 7) / 8) - w) false, ()))) (fun i hi L => ?_) (fun L => ?_) n (by omega)
    · have key : loop (shunterref07_Vec.l0.step n) n ((()), (((w : Int), h, l, ()), ([] : List Bool), ())) = _ := key
      unfold shunterref07_Vec.l0
      rw [key, Option.bind_some]
      have hO := ref03_Of_eq n w h l hh hl (by omega) hn
      have hO : shunterref03_Of n ((w : Int), h, l, ()) = _ := hO
      simp only [hO, Option.bind_some, List.length_replicate, revb_len]
      have e1 : decide (8 * ((w + 7) / 8) - w + w ≤ 140737488355328) = true := by simp only [decide_eq_true_eq]; omega
      simp only [e1, if_true, revb_pad _ w _ hW (show w ≤ 8 * ((w + 7) / 8) by omega)]
      rw [ref03_Bytes_eq n _ (by simp; omega) (by simp; omega) (by omega)]
      simp only [Option.bind_some, bytesL_revb, List.length_cons, List.length_nil, beN_len, Int.toNat_natCast, beN1, wu8_u64]
      have e3 : decide (0 + 1 + (w + 7) / 8 ≤ 140737488355328) = true := by simp only [decide_eq_true_eq]; omega
      simp only [e3, if_true]
    · unfold shunterref07_Vec.l0.step
      have c2 : IntKind.wrap .i64 (((List.replicate i false).length : Int) + (w : Int)) = ((i + w : Nat) : Int) := by
        rw [List.length_replicate, wi64 (by omega) (by omega)]; omega
      have c3 : ((((i + w : Nat) : Int).tmod 8) != 0) = true := by
        have : (((i + w : Nat) : Int).tmod 8) = (((i + w) % 8 : Nat) : Int) := by rw [Int.ofNat_tmod]; rfl
        rw [this]
        simp only [bne_iff_ne, ne_eq]
        omega
      have e4 : decide ((List.replicate i false).length + ([false] : List Bool).length ≤ 140737488355328) = true := by
        simp only [List.length_replicate, List.length_cons, List.length_nil, decide_eq_true_eq]; omega
      simp only [c2, c3, e4, if_true, List.replicate_succ']
    · unfold shunterref07_Vec.l0.step
      have c2 : IntKind.wrap .i64 (((List.replicate (8 * ((w + 7) / 8) - w) false).length : Int) + (w : Int)) = ((8 * ((w + 7) / 8) : Nat) : Int) := by
        rw [List.length_replicate, wi64 (by omega) (by omega)]; omega
      have c3 : ((((8 * ((w + 7) / 8) : Nat) : Int).tmod 8) != 0) = false := by
        have : (((8 * ((w + 7) / 8) : Nat) : Int).tmod 8) = ((8 * ((w + 7) / 8) % 8 : Nat) : Int) := by rw [Int.ofNat_tmod]; rfl
        rw [this]
        simp only [bne_eq_false_iff_eq]
        omega
      simp only [c2, c3, Bool.false_eq_true, if_false]
  · simp [hm]

/-! the program's word and row -/
def wd (X : Nat) : T_word_Word := (((X / 2 ^ 64 : Nat) : Int), ((X % 2 ^ 64 : Nat) : Int), ())
theorem shr_u64 (a s : Nat) (hs : s ≤ 64) : AM.shiftR .u64 (a : Int) (s : Int) = ((a / 2 ^ s : Nat) : Int) := by
  unfold AM.shiftR
  have e : min (s : Int).toNat IntKind.u64.bits = s := by simp only [IntKind.bits, Int.toNat_natCast]; omega
  rw [e, Int.fdiv_eq_ediv_of_nonneg _ (by exact Int.pow_nonneg (by omega))]
  norm_cast
theorem shl_u64 (a s : Nat) (hs : s ≤ 64) : AM.shiftL .u64 (a : Int) (s : Int) = ((a * 2 ^ s % 2 ^ 64 : Nat) : Int) := by
  unfold AM.shiftL
  have e : min (s : Int).toNat IntKind.u64.bits = s := by simp only [IntKind.bits, Int.toNat_natCast]; omega
  have e2 : (a : Int) * 2 ^ s = ((a * 2 ^ s : Nat) : Int) := by rw [Int.natCast_mul, Int.natCast_pow]; rfl
  rw [e, wu64m, e2]
  generalize a * 2 ^ s = y
  omega
theorem or_u64 (a b : Nat) (ha : a < 2 ^ 64) (hb : b < 2 ^ 64) : AM.bits .or .u64 (a : Int) (b : Int) = ((a ||| b : Nat) : Int) := by
  have h : a ||| b < 2 ^ 64 := Nat.or_lt_two_pow ha hb
  have e : ((BitVec.ofInt 64 (a : Int)) ||| (BitVec.ofInt 64 (b : Int))).toNat = a ||| b := by
    rw [BitVec.toNat_or, BitVec.ofInt_natCast, BitVec.ofInt_natCast, BitVec.toNat_ofNat, BitVec.toNat_ofNat, Nat.mod_eq_of_lt ha, Nat.mod_eq_of_lt hb]
  show IntKind.wrap .u64 ((((BitVec.ofInt 64 (a : Int)) ||| (BitVec.ofInt 64 (b : Int))).toNat : Nat) : Int) = _
  rw [e]
  exact wu64n h

theorem word_Shr_eq (n X s : Nat) (hX : X < 2 ^ 128) (hs : s < 128) : word_Shr n (wd X) (s : Int) = some (wd (X / 2 ^ s)) := by
  have ha : X / 2 ^ 64 < 2 ^ 64 := by omega
  have hb : X % 2 ^ 64 < 2 ^ 64 := by omega
  unfold word_Shr word_Shr.j1
  have e1 : decide ((s : Int) ≤ -128) = false := by simp only [decide_eq_false_iff_not]; omega
  have e2 : decide ((s : Int) ≥ 128) = false := by simp only [decide_eq_false_iff_not]; omega
  have e3 : decide ((s : Int) < 0) = false := by simp only [decide_eq_false_iff_not]; omega
  simp only [e1, e2, e3, Bool.false_eq_true, if_false]
  by_cases h0 : s = 0
  · subst h0; simp
  · have e4 : ((s : Int) == 0) = false := by simp [h0]
    simp only [e4, Bool.false_eq_true, if_false]
    by_cases h1 : 64 ≤ s
    · have e5 : decide ((s : Int) ≥ 64) = true := by simp only [decide_eq_true_eq]; omega
      have e6 : IntKind.wrap .i64 ((s : Int) - 64) = ((s - 64 : Nat) : Int) := by rw [wi64 (by omega) (by omega)]; omega
      have e7 : decide (((s - 64 : Nat) : Int) < 0) = false := by simp only [decide_eq_false_iff_not]; omega
      simp only [e5, e6, e7, Bool.false_eq_true, if_false, if_true, wd, shr_u64 _ _ (show s - 64 ≤ 64 by omega)]
      have h2 : X / 2 ^ s = X / 2 ^ 64 / 2 ^ (s - 64) := by rw [Nat.div_div_eq_div_mul, ← Nat.pow_add]; congr 2; omega
      have h3 : X / 2 ^ s < 2 ^ 64 := by rw [h2]; exact Nat.lt_of_le_of_lt (Nat.div_le_self _ _) ha
      rw [← h2, Nat.mod_eq_of_lt h3, Nat.div_eq_of_lt h3]
      rfl
    · have e5 : decide ((s : Int) ≥ 64) = false := by simp only [decide_eq_false_iff_not]; omega
      have e6 : IntKind.wrap .i64 ((64 : Int) - (s : Int)) = ((64 - s : Nat) : Int) := by rw [wi64 (by omega) (by omega)]; omega
      have e7 : decide (((64 - s : Nat) : Int) < 0) = false := by simp only [decide_eq_false_iff_not]; omega
      simp only [e5, e6, e7, Bool.false_eq_true, if_false, wd, shr_u64 _ _ (show s ≤ 64 by omega), shl_u64 _ _ (show 64 - s ≤ 64 by omega)]
      rw [or_u64 _ _ (Nat.lt_of_le_of_lt (Nat.div_le_self _ _) hb) (Nat.mod_lt _ (by omega))]
      have hp : 2 ^ 64 = 2 ^ s * 2 ^ (64 - s) := by rw [← Nat.pow_add]; congr 1; omega
      have h1' : X / 2 ^ s / 2 ^ 64 = X / 2 ^ 64 / 2 ^ s := by rw [Nat.div_div_eq_div_mul, Nat.div_div_eq_div_mul, Nat.mul_comm]
      have h2' : X / 2 ^ s % 2 ^ 64 = X % 2 ^ 64 / 2 ^ s ||| X / 2 ^ 64 * 2 ^ (64 - s) % 2 ^ 64 := by
        apply Nat.eq_of_testBit_eq
        intro j
        rw [Nat.testBit_or, Nat.testBit_mod_two_pow, Nat.testBit_mod_two_pow, Nat.testBit_div_two_pow, Nat.testBit_div_two_pow, Nat.testBit_mod_two_pow, Nat.testBit_mul_two_pow, Nat.testBit_div_two_pow]
        by_cases h1 : j < 64
        · by_cases h2 : j + s < 64
          · have : ¬ (64 - s ≤ j) := by omega
            simp [h1, h2, this]
          · have h3 : 64 - s ≤ j := by omega
            simp only [h1, h2, h3, decide_true, decide_false, Bool.true_and, Bool.false_and, Bool.false_or]
            congr 1; omega
        · simp [h1, show ¬ (j + s < 64) by omega]
      rw [h1', h2']
end Pu
end

section
open Go
open Go.AM (loop sumE)
namespace Pu
open Pl

theorem wd_wnat {h l : Int} (hh : U64 h) (hl : U64 l) : (h, l, ()) = wd (wnat (h, l, ())) := by
  obtain ⟨a, rfl⟩ := Int.eq_ofNat_of_zero_le hh.1
  obtain ⟨b, rfl⟩ := Int.eq_ofNat_of_zero_le hl.1
  have ha := hh.2
  have hb := hl.2
  simp only [wnat, wd, Int.toNat_natCast]
  have e1 : (a * 2 ^ 64 + b) / 2 ^ 64 = a := by omega
  have e2 : (a * 2 ^ 64 + b) % 2 ^ 64 = b := by omega
  rw [e1, e2]

theorem vecB_len (v : T_api_Vec) : (vecB v).length ≤ 17 := by
  unfold vecB
  split
  · rename_i h
    simp only [vmay, Bool.and_eq_true, decide_eq_true_eq] at h
    simp only [List.length_append, beN_len]
    omega
  · simp

theorem wire_Vec_eq (n : Nat) (b : List Int) {v : T_api_Vec} (hv : VR v) (hn : 128 < n) (hb : b.length ≤ 140737488355000) : wire_Vec n b v = some (b ++ vecB v) := by
  unfold wire_Vec vecB
  rw [vec_May_eq n hv, Option.bind_some]
  by_cases hm : vmay v = true
  · rw [hm]
    obtain ⟨w, h, l, ⟨⟩⟩ := v
    obtain ⟨_, hh, hl⟩ := hv
    simp only at hh hl
    simp only [vmay, Bool.and_eq_true, decide_eq_true_eq] at hm
    obtain ⟨h1, h2, h3⟩ := hm
    obtain ⟨w, rfl⟩ := Int.eq_ofNat_of_zero_le (show 0 ≤ w by omega)
    have ew := wd_wnat hh hl
    have hW := wnat_lt (v := (h, l, ())) hh hl
    simp only [Bool.not_true, Bool.false_eq_true, if_false, if_true]
    rw [show (1 : Int) = ((1 : Nat) : Int) from rfl, wire_put_eq n b _ 1 (by omega) (by omega) (by omega)]
    simp only [Option.bind_some, Int.toNat_natCast]
    have e4 : wire_room n (w : Int) = some (((w + 7) / 8 : Nat) : Int) := by
      unfold wire_room
      have a1 : IntKind.wrap .i64 ((w : Int) + 8) = ((w + 8 : Nat) : Int) := by rw [wi64 (by omega) (by omega)]; omega
      have a2 : IntKind.wrap .i64 (((w + 8 : Nat) : Int) - 1) = ((w + 7 : Nat) : Int) := by rw [wi64 (by omega) (by omega)]; omega
      have a3 : ((w + 7 : Nat) : Int).tdiv 8 = (((w + 7) / 8 : Nat) : Int) := by rw [Int.ofNat_tdiv]; rfl
      simp only [a1, a2, a3]
      rw [wi64n (by omega)]
    rw [e4, Option.bind_some]
    have hk : (w + 7) / 8 ≤ 16 := by omega
    generalize (w + 7) / 8 = k at *
    generalize hX : wnat (h, l, ()) = X at *
    have hX' : wnat (((w : Int), h, l, ()) : T_api_Vec).2 = X := hX
    have c5 : IntKind.wrap .i64 ((k : Int) - ((1 : Nat) : Int)) = (k : Int) - 1 := by rw [wi64 (by omega) (by omega)]; omega
    simp only [c5]
    have key := loop_iter (step := wire_Vec.l0.step n) (fun i => ((((k : Int) - 1 - (i : Int)), ()), (((w : Int), h, l, ()), (b ++ beN 1 (u64 (w : Int))) ++ (beN k X).take i, ()))) k (some ((()), ((b ++ beN 1 (u64 (w : Int))) ++ beN k X, ()))) (fun i hi L => ?_) (fun L => ?_) n (by omega)
    · simp only [List.take_zero, List.append_nil] at key
      have key : loop (wire_Vec.l0.step n) n ((((k : Int) - 1 - 0), ()), (((w : Int), h, l, ()), (b ++ beN 1 (u64 (w : Int))), ())) = _ := key
      rw [Int.sub_zero] at key
      unfold wire_Vec.l0
      rw [key]
      simp only [Option.bind_some, List.append_assoc]
    · unfold wire_Vec.l0.step vec_Word
      have e1 : decide ((k : Int) - 1 - (i : Int) ≥ 0) = true := by simp only [decide_eq_true_eq]; omega
      have e2 : (k : Int) - 1 - (i : Int) = ((k - 1 - i : Nat) : Int) := by omega
      have e3 : IntKind.wrap .i64 (((k - 1 - i : Nat) : Int) - 1) = (k : Int) - 1 - ((i + 1 : Nat) : Int) := by rw [wi64 (by omega) (by omega)]; omega
      have e7 : IntKind.wrap .i64 (8 * ((k - 1 - i : Nat) : Int)) = ((8 * (k - 1 - i) : Nat) : Int) := by rw [wi64 (by omega) (by omega)]; omega
      rw [e2] at e1
      have e8 : word_Shr n (h, l, ()) ((8 * (k - 1 - i) : Nat) : Int) = some (wd (X / 2 ^ (8 * (k - 1 - i)))) := by
        rw [ew]; exact word_Shr_eq n X _ hW (by omega)
      have e9 : IntKind.wrap .u8 (wd (X / 2 ^ (8 * (k - 1 - i)))).2.1 = ((X / 2 ^ (8 * (k - 1 - i)) % 256 : Nat) : Int) := by
        simp only [wd]
        rw [wu8n]
        generalize X / 2 ^ (8 * (k - 1 - i)) = Y
        omega
      have e4 : decide ((b ++ beN 1 (u64 (w : Int)) ++ (beN k X).take i).length + 1 ≤ 140737488355328) = true := by
        simp only [List.length_append, List.length_take, decide_eq_true_eq, beN_len]; omega
      simp only [e2, e1, if_true, Option.bind_some, e7, e8, e9, e3, List.length_cons, List.length_nil, Nat.zero_add, e4, take_succ_get (beN_get k X i hi), List.append_assoc]
      simp only [List.append_assoc] at e4
      simp only [e4, if_true]
    · unfold wire_Vec.l0.step
      have e1 : decide ((k : Int) - 1 - (k : Int) ≥ 0) = false := by simp only [decide_eq_false_iff_not]; omega
      simp only [e1, Bool.false_eq_true, if_false]
      rw [List.take_of_length_le (by simp)]
  · have hm : vmay v = false := by simpa using hm
    rw [hm]
    simp only [Bool.not_false, if_true, Bool.false_eq_true, if_false]
    rw [show (1 : Int) = ((1 : Nat) : Int) from rfl, wire_put_eq n b _ 1 (by omega) (by omega) (by omega)]
    rfl
end Pu
end

section
open Go
open Go.AM (loop sumE)
namespace Pu
open Pl

def shp (k : Nat) : T_code_shape := match code_shapeOf 0 (k : Int) with | some s => s | none => (false, false, 0, 0, 0, 0, 0, 0, ())
def tab : List T_shunterref09_Row := match shunterref09_Table 0 with | some l => l | none => []
def row (k : Nat) : T_shunterref09_Row := match tab[k]? with | some r => r | none => (⟨#[]⟩, 0, 0, 0, [], [], ⟨#[]⟩, ())
def many (k : Nat) : Int := (row k).2.2.2.1
def pushS : List UInt8 := (⟨#[112, 117, 115, 104]⟩ : ByteArray).toList
def sliceS : List UInt8 := (⟨#[115, 108, 105, 99, 101]⟩ : ByteArray).toList
def chk (k : Nat) : Bool :=
  (code_shapeOf 0 (k : Int)).isSome && (tab[k]?).isSome && decide ((row k).2.2.2.2.1 = [(shp k).2.2.1, (shp k).2.2.2.1]) && decide ((row k).2.2.2.2.2.1 = [(shp k).2.2.2.2.1, (shp k).2.2.2.2.2.1]) &&
    ((row k).1.toList == pushS) == decide (k = 0) && ((row k).1.toList == sliceS) == decide (k = 10) && (many k == 0 || many k == 1 || many k == 2) && (decide (k = 0) → many k == 0)
theorem chk_all : (List.range 35).all chk = true := by kernel_rfl
theorem chk_of {k : Nat} (h : k < 35) : chk k = true := List.all_eq_true.1 chk_all k (by simpa using h)
theorem shape_eq (n : Nat) {k : Nat} (h : k < 35) : code_shapeOf n (k : Int) = some (shp k) := by
  have h1 := chk_of h
  simp only [chk, Bool.and_eq_true] at h1
  have e : code_shapeOf n (k : Int) = code_shapeOf 0 (k : Int) := rfl
  rw [e]
  unfold shp
  cases hs : code_shapeOf 0 (k : Int) with
  | some s => rfl
  | none => simp [hs] at h1
theorem tab_eq (n : Nat) : shunterref09_Table n = some tab := rfl
theorem tab_get {k : Nat} (h : k < 35) : tab[k]? = some (row k) := by
  have h1 := chk_of h
  simp only [chk, Bool.and_eq_true] at h1
  unfold row
  cases hs : tab[k]? with
  | some s => rfl
  | none => simp [hs] at h1
theorem row_A {k : Nat} (h : k < 35) : (row k).2.2.2.2.1 = [(shp k).2.2.1, (shp k).2.2.2.1] := by
  have h1 := chk_of h
  simp only [chk, Bool.and_eq_true, decide_eq_true_eq] at h1
  exact h1.1.1.1.1.1.2
theorem row_B {k : Nat} (h : k < 35) : (row k).2.2.2.2.2.1 = [(shp k).2.2.2.2.1, (shp k).2.2.2.2.2.1] := by
  have h1 := chk_of h
  simp only [chk, Bool.and_eq_true, decide_eq_true_eq] at h1
  exact h1.1.1.1.1.2
theorem row_push {k : Nat} (h : k < 35) : ((row k).1.toList == (⟨#[112, 117, 115, 104]⟩ : ByteArray).toList) = decide (k = 0) := by
  have h1 := chk_of h
  simp only [chk, Bool.and_eq_true] at h1
  have := h1.1.1.1.2
  simpa [pushS] using this
theorem row_slice {k : Nat} (h : k < 35) : ((row k).1.toList == (⟨#[115, 108, 105, 99, 101]⟩ : ByteArray).toList) = decide (k = 10) := by
  have h1 := chk_of h
  simp only [chk, Bool.and_eq_true] at h1
  have := h1.1.1.2
  simpa [sliceS] using this
theorem many_of {k : Nat} (h : k < 35) : (many k = 0 ∨ many k = 1 ∨ many k = 2) ∧ (k = 0 → many k = 0) := by
  have h1 := chk_of h
  simp only [chk, Bool.and_eq_true, Bool.or_eq_true, beq_iff_eq, decide_eq_true_eq] at h1
  refine ⟨?_, h1.2⟩
  rcases h1.1.2 with (h | h) | h
  · exact .inl h
  · exact .inr (.inl h)
  · exact .inr (.inr h)

/-- why an instruction may not be -/
def mayIns (x : T_api_Ins) : Int :=
  if x.1 < 0 ∨ x.1 > 34 then 10
  else if x.2.1 < (shp x.1.toNat).2.2.1 ∨ x.2.1 > (shp x.1.toNat).2.2.2.1 ∨ x.2.2.1 < (shp x.1.toNat).2.2.2.2.1 ∨ x.2.2.1 > (shp x.1.toNat).2.2.2.2.2.1 ∨ (x.1 = 10 ∧ x.2.1 < x.2.2.1) then 7
  else if x.1 = 0 then (if vmay x.2.2.2.1 then 0 else 1)
  else if x.2.2.2.1 = ((0 : Int), (0 : Int), (0 : Int), ()) then 0 else 1

theorem vec_zero (v : T_api_Vec) : ((v.1 == 0) && ((v.2.1 == 0) && ((v.2.2.1 == 0) && true))) = decide (v = ((0 : Int), (0 : Int), (0 : Int), ())) := by
  obtain ⟨a, b, c, ⟨⟩⟩ := v
  rw [Bool.eq_iff_iff]
  simp

theorem code_May_eq (n : Nat) {x : T_api_Ins} (hv : VR x.2.2.2.1) : code_May n x = some (mayIns x) := by
  obtain ⟨o, a, b, v, ⟨⟩⟩ := x
  simp only at hv
  unfold code_May code_known mayIns
  by_cases h1 : o < 0 ∨ o > 34
  · simp only [h1, if_true]
    by_cases h2 : o ≥ 0
    · have : decide (o < 35) = false := by simp only [decide_eq_false_iff_not]; omega
      simp [h2, this]
    · simp [h2]
  · obtain ⟨k, rfl⟩ := Int.eq_ofNat_of_zero_le (show 0 ≤ o by omega)
    have hk : k < 35 := by omega
    have e1 : decide ((k : Int) ≥ 0) = true := by simp
    have e2 : decide ((k : Int) < 35) = true := by simp only [decide_eq_true_eq]; omega
    simp only [h1, e1, e2, if_true, if_false, Option.bind_some, Bool.not_true, Bool.false_eq_true, shape_eq n hk, Int.toNat_natCast]
    generalize shp k = s
    unfold code_within code_May.j2 code_May.j1
    simp only [vec_May_eq n hv, vec_zero, Option.bind_some]
    by_cases ha1 : a < s.2.2.1
    · have : ¬ a ≥ s.2.2.1 := by omega
      simp [ha1, this]
    · have ha1' : a ≥ s.2.2.1 := by omega
      by_cases ha2 : a > s.2.2.2.1
      · have : ¬ a ≤ s.2.2.2.1 := by omega
        simp [ha2, ha1', this]
      · have ha2' : a ≤ s.2.2.2.1 := by omega
        by_cases hb1 : b < s.2.2.2.2.1
        · have : ¬ b ≥ s.2.2.2.2.1 := by omega
          simp [hb1, this, ha1', ha2']
        · have hb1' : b ≥ s.2.2.2.2.1 := by omega
          by_cases hb2 : b > s.2.2.2.2.2.1
          · have : ¬ b ≤ s.2.2.2.2.2.1 := by omega
            simp [hb2, hb1', this, ha1', ha2']
          · have hb2' : b ≤ s.2.2.2.2.2.1 := by omega
            have e3 : ((k : Int) == 10 && decide (b > a)) = decide ((k : Int) = 10 ∧ a < b) := by rw [Bool.eq_iff_iff]; simp
            by_cases h10 : (k : Int) = 10
            · have h0 : ¬ ((k : Int) = 0) := by omega
              by_cases hab : a < b
              · simp [h10, hab, ha1', ha2', hb1', hb2']
              · by_cases hz : v = ((0 : Int), (0 : Int), (0 : Int), ()) <;> simp [h10, hab, ha1', ha2', hb1', hb2', ha1, ha2, hb1, hb2, hz]
            · by_cases h0 : (k : Int) = 0
              · by_cases hz : vmay v = true <;> simp [h10, h0, ha1', ha2', hb1', hb2', ha1, ha2, hb1, hb2, hz]
              · have h0' : ¬ k = 0 := by omega
                by_cases hz : v = ((0 : Int), (0 : Int), (0 : Int), ()) <;> simp [h10, h0, h0', ha1', ha2', hb1', hb2', ha1, ha2, hb1, hb2, hz]

theorem ref09_May_eq (n : Nat) {x : T_api_Ins} (hv : VR x.2.2.2.1) (hn : 128 < n) : shunterref09_May n x = some (mayIns x) := by
  obtain ⟨o, a, b, v, ⟨⟩⟩ := x
  simp only at hv
  unfold shunterref09_May mayIns
  by_cases h1 : o < 0
  · simp [h1]
  · by_cases h2 : o > 34
    · simp [h2]
    · obtain ⟨k, rfl⟩ := Int.eq_ofNat_of_zero_le (show 0 ≤ o by omega)
      have hk : k < 35 := by omega
      simp only [h1, h2, decide_false, Bool.false_eq_true, if_false, tab_eq, Option.bind_some, at_nat, tab_get hk, Int.toNat_natCast, row_A hk, row_B hk, row_slice hk, or_self]
      unfold shunterref09_May.j1
      simp only [row_push hk, ref02_May_eq n hn hv, vec_zero, Option.bind_some]
      generalize shp k = s
      by_cases ha1 : a < s.2.2.1
      · simp [ha1]
      · by_cases ha2 : a > s.2.2.2.1
        · simp [ha1, ha2]
        · by_cases hb1 : b < s.2.2.2.2.1
          · simp [ha1, ha2, hb1]
          · by_cases hb2 : b > s.2.2.2.2.2.1
            · simp [ha1, ha2, hb1, hb2]
            · by_cases h10 : k = 10
              · subst h10
                by_cases hab : a < b
                · simp [hab, ha1, ha2, hb1, hb2]
                · by_cases hz : v = ((0 : Int), (0 : Int), (0 : Int), ()) <;> simp [hab, ha1, ha2, hb1, hb2, hz]
              · have h10' : ¬ ((k : Int) = 10) := by omega
                by_cases h0 : k = 0
                · subst h0
                  by_cases hz : vmay v = true <;> simp [ha1, ha2, hb1, hb2, hz]
                · by_cases hz : v = ((0 : Int), (0 : Int), (0 : Int), ()) <;> simp [h10, h10', h0, ha1, ha2, hb1, hb2, hz]
end Pu
end

section
open Go
open Go.AM (loop sumE)
namespace Pu
open Pl

def argsE (n k : Nat) (a b : Int) (v : T_api_Vec) (y : List Int) : Option (List Int) :=
  if k = 0 then (wire_Vec n y v).bind fun z => some z
  else if many k = 0 then some y
  else if many k = 1 then (wire_Byte n y a).bind fun z => some z
  else (wire_Byte n y a).bind fun z => (wire_Byte n z b).bind fun z => some z

set_option maxRecDepth 100000 in
theorem pack_ins_k (n : Nat) (out : List Int) (a b : Int) (v : T_api_Vec) (k : Nat) (hk : k < 35) (hM : code_May n ((k : Int), a, b, v, ()) = some 0) :
    pack_ins n out ((k : Int), a, b, v, ()) = (wire_Byte n out (k : Int)).bind fun y => argsE n k a b v y := by
  unfold pack_ins code_Make
  rw [hM]
  clear hM
  have : k = 0 ∨ k = 1 ∨ k = 2 ∨ k = 3 ∨ k = 4 ∨ k = 5 ∨ k = 6 ∨ k = 7 ∨ k = 8 ∨ k = 9 ∨ k = 10 ∨ k = 11 ∨ k = 12 ∨ k = 13 ∨ k = 14 ∨ k = 15 ∨ k = 16 ∨ k = 17 ∨ k = 18 ∨ k = 19 ∨ k = 20 ∨ k = 21 ∨ k = 22 ∨ k = 23 ∨ k = 24 ∨ k = 25 ∨ k = 26 ∨ k = 27 ∨ k = 28 ∨ k = 29 ∨ k = 30 ∨ k = 31 ∨ k = 32 ∨ k = 33 ∨ k = 34 := by omega
  rcases this with h | h | h | h | h | h | h | h | h | h | h | h | h | h | h | h | h | h | h | h | h | h | h | h | h | h | h | h | h | h | h | h | h | h | h <;> subst h <;> (refine Eq.trans (?_ : _ = _) rfl; kernel_rfl)

/-- an instruction's bytes -/
def insB (x : T_api_Ins) : List Int :=
  beN 1 (u64 x.1) ++ ((if x.1 = 0 then vecB x.2.2.2.1 else []) ++ ((if many x.1.toNat ≥ 1 then beN 1 (u64 x.2.1) else []) ++ (if many x.1.toNat = 2 then beN 1 (u64 x.2.2.1) else [])))
theorem insB_len (x : T_api_Ins) : (insB x).length ≤ 20 := by
  have := vecB_len x.2.2.2.1
  unfold insB
  simp only [List.length_append, beN_len]
  split <;> split <;> split <;> simp only [beN_len, List.length_nil] <;> omega

theorem may_op {x : T_api_Ins} (h : mayIns x = 0) : 0 ≤ x.1 ∧ x.1 ≤ 34 := by
  unfold mayIns at h
  split at h
  · cases h
  · omega

theorem pack_ins_eq (n : Nat) (out : List Int) {x : T_api_Ins} (hv : VR x.2.2.2.1) (hm : mayIns x = 0) (hn : 128 < n) (ho : out.length ≤ 140737488350000) : pack_ins n out x = some (out ++ insB x) := by
  have hM := code_May_eq n hv
  rw [hm] at hM
  obtain ⟨h1, h2⟩ := may_op hm
  obtain ⟨o, a, b, v, ⟨⟩⟩ := x
  simp only at hv h1 h2
  obtain ⟨k, rfl⟩ := Int.eq_ofNat_of_zero_le h1
  have hk : k < 35 := by omega
  rw [pack_ins_k n out a b v k hk hM, wire_Byte_eq n out _ (by omega) (by omega), Option.bind_some]
  unfold argsE insB
  have l1 : (out ++ beN 1 (u64 (k : Int))).length ≤ 140737488350001 := by simp; omega
  obtain ⟨hmany, h0⟩ := many_of hk
  by_cases hk0 : k = 0
  · subst hk0
    rw [if_pos rfl, wire_Vec_eq n _ hv hn (by omega)]
    simp [h0 rfl]
  · have hk0' : ¬ ((k : Int) = 0) := by omega
    rw [if_neg hk0]
    simp only [hk0', if_false, Int.toNat_natCast]
    rcases hmany with h | h | h
    · simp [h]
    · rw [if_neg (by omega), if_pos h, wire_Byte_eq n _ _ (by omega) (by omega)]
      simp [h]
    · rw [if_neg (by omega), if_neg (by omega), wire_Byte_eq n _ _ (by omega) (by omega), Option.bind_some, wire_Byte_eq n _ _ (by omega) (by simp at l1 ⊢; omega)]
      simp [h]

theorem make_map (n : Nat) {x : T_api_Ins} (hv : VR x.2.2.2.1) : (code_Make n x).map (·.2) = some (mayIns x) := by
  unfold code_Make
  rw [code_May_eq n hv, Option.bind_some]
  by_cases h : mayIns x = 0
  · obtain ⟨h1, h2⟩ := may_op h
    rw [h]
    clear h
    obtain ⟨o, a, b, v, ⟨⟩⟩ := x
    simp only at h1 h2
    obtain ⟨k, rfl⟩ := Int.eq_ofNat_of_zero_le h1
    have : k = 0 ∨ k = 1 ∨ k = 2 ∨ k = 3 ∨ k = 4 ∨ k = 5 ∨ k = 6 ∨ k = 7 ∨ k = 8 ∨ k = 9 ∨ k = 10 ∨ k = 11 ∨ k = 12 ∨ k = 13 ∨ k = 14 ∨ k = 15 ∨ k = 16 ∨ k = 17 ∨ k = 18 ∨ k = 19 ∨ k = 20 ∨ k = 21 ∨ k = 22 ∨ k = 23 ∨ k = 24 ∨ k = 25 ∨ k = 26 ∨ k = 27 ∨ k = 28 ∨ k = 29 ∨ k = 30 ∨ k = 31 ∨ k = 32 ∨ k = 33 ∨ k = 34 := by omega
    rcases this with h | h | h | h | h | h | h | h | h | h | h | h | h | h | h | h | h | h | h | h | h | h | h | h | h | h | h | h | h | h | h | h | h | h | h <;> subst h <;> (refine Eq.trans (?_ : _ = _) rfl; kernel_rfl)
  · have : (mayIns x != 0) = true := by simpa using h
    simp only [this, if_true]
    rfl
theorem make_eq (n : Nat) {x : T_api_Ins} (hv : VR x.2.2.2.1) : ∃ s, code_Make n x = some (s, mayIns x) := by
  have h := make_map n hv
  cases hc : code_Make n x with
  | none => rw [hc] at h; cases h
  | some y =>
    rw [hc] at h
    obtain ⟨s, e⟩ := y
    simp only [Option.map_some, Option.some.injEq] at h
    exact ⟨s, by rw [h]⟩
end Pu
end

section
open Go
open Go.AM (loop sumE)
namespace Pu
open Pl

def VRs (l : List T_api_Ins) : Prop := ∀ x, x ∈ l → VR x.2.2.2.1
def okAll (l : List T_api_Ins) : Bool := l.all fun x => mayIns x == 0
def stepOf (n : Nat) (x : T_api_Ins) : T_code_Step := match code_Make n x with | some y => y.1 | none => Sum.inr (Sum.inr (Sum.inl ()))
theorem make_eq' (n : Nat) {x : T_api_Ins} (hv : VR x.2.2.2.1) : code_Make n x = some (stepOf n x, mayIns x) := by
  obtain ⟨s, h⟩ := make_eq n hv
  unfold stepOf
  rw [h]

theorem all_eq (n : Nat) (l : List T_api_Ins) (hv : VRs l) (hl : l.length ≤ 1048576) (hn : 128 < n) :
    ∃ y, code_All n l = some y ∧ (y.2.2 == 0) = (decide (l.length ≤ 64) && okAll l) ∧ (y.2.2 = 0 → y.1 = l.map (stepOf n)) := by
  unfold code_All
  have c1 : (if (64 : Int) < (l.length : Int) then (64 : Int) else (l.length : Int)) = ((min 64 l.length : Nat) : Int) := by
    split <;> omega
  have c2 : (decide (0 ≤ ((min 64 l.length : Nat) : Int)) && decide (((min 64 l.length : Nat) : Int) ≤ (l.length : Int)) && decide (0 ≤ (0 : Int)) && decide ((0 : Int) ≤ ((min 64 l.length : Nat) : Int))) = true := by
    simp only [Bool.and_eq_true, decide_eq_true_eq]
    omega
  simp only [c1, c2, if_true, Int.toNat_natCast, Int.toNat_zero, List.drop_zero]
  have htl : (l.take (min 64 l.length)).length = min 64 l.length := by rw [List.length_take]; omega
  have htv : VRs (l.take (min 64 l.length)) := fun x hx => hv x (List.mem_of_mem_take hx)
  have hmem : ∀ {i x}, (l.take (min 64 l.length))[i]? = some x → x ∈ l.take (min 64 l.length) := fun h => List.mem_of_getElem? h
  have hall : okAll l = true → ∀ x ∈ l.take (min 64 l.length), mayIns x = 0 := fun h x hx => by
    have := List.all_eq_true.1 h x (List.mem_of_mem_take hx)
    simpa using this
  generalize htk : l.take (min 64 l.length) = t at *
  have hstep : ∀ i, i < t.length → (∀ x, t[i]? = some x → mayIns x = 0) → ∀ L, code_All.l0.step n L ((l, t, (t.length : Int), (i : Int), ()), ((t.take i).map (stepOf n), ())) = L ((l, t, (t.length : Int), ((i + 1 : Nat) : Int), ()), ((t.take (i + 1)).map (stepOf n), ())) := by
    intro i hi hx L
    obtain ⟨x, hxi⟩ : ∃ x, t[i]? = some x := ⟨_, List.getElem?_eq_getElem hi⟩
    have hm := hx x hxi
    unfold code_All.l0.step
    have e1 : decide ((i : Int) < (t.length : Int)) = true := by simp only [decide_eq_true_eq]; omega
    have e2 : decide (((t.take i).map (stepOf n)).length + ([stepOf n x] : List T_code_Step).length ≤ 8796093022208) = true := by
      simp only [List.length_map, List.length_take, List.length_cons, List.length_nil, decide_eq_true_eq]; omega
    have e3 : IntKind.wrap .i64 ((i : Int) + 1) = ((i + 1 : Nat) : Int) := wi64s (by omega)
    simp only [e1, if_true, at_nat, hxi, Option.bind_some, make_eq' n (htv x (hmem hxi)), hm, bne_self_eq_false, Bool.false_eq_true, if_false, e2, e3, take_succ_get hxi, List.map_append, List.map_cons, List.map_nil]
  by_cases hbad : ∃ x ∈ t, mayIns x ≠ 0
  · have hK : t.findIdx (fun x => mayIns x != 0) < t.length := by
      rw [List.findIdx_lt_length]
      obtain ⟨x, hx, hm⟩ := hbad
      exact ⟨x, hx, by simpa using hm⟩
    generalize hKe : t.findIdx (fun x => mayIns x != 0) = K at hK
    obtain ⟨xK, hxK⟩ : ∃ x, t[K]? = some x := ⟨_, List.getElem?_eq_getElem hK⟩
    have hmK : (mayIns xK != 0) = true := by
      have h := List.findIdx_getElem (p := fun x => mayIns x != 0) (xs := t) (w := by rw [hKe]; exact hK)
      have e : t[t.findIdx (fun x => mayIns x != 0)]? = some xK := by rw [hKe]; exact hxK
      rw [List.getElem?_eq_getElem (by rw [hKe]; exact hK)] at e
      rw [Option.some.injEq] at e
      rw [e] at h
      exact h
    have key := loop_iter (step := code_All.l0.step n) (fun i => ((l, t, (t.length : Int), (i : Int), ()), ((t.take i).map (stepOf n), ()))) K (some (Sum.inr ((([] : List T_code_Step), (K : Int), mayIns xK, ()), (())))) (fun i hi L => hstep i (by omega) (fun x hx => by
      have h := List.not_of_lt_findIdx (p := fun x => mayIns x != 0) (xs := t) (i := i) (by rw [hKe]; exact hi)
      have e : t[i]? = some t[i] := List.getElem?_eq_getElem (by omega)
      rw [e, Option.some.injEq] at hx
      rw [hx] at h
      simpa using h) L) (fun L => by
        unfold code_All.l0.step
        have e1 : decide ((K : Int) < (t.length : Int)) = true := by simp only [decide_eq_true_eq]; omega
        simp only [e1, if_true, at_nat, hxK, Option.bind_some, make_eq' n (htv xK (hmem hxK)), hmK]) n (by omega)
    simp only [List.take_zero, List.map_nil] at key
    have key : loop (code_All.l0.step n) n ((l, t, (t.length : Int), (0 : Int), ()), (([] : List T_code_Step), ())) = _ := key
    unfold code_All.l0
    rw [key]
    refine ⟨_, rfl, ?_, ?_⟩
    · have h1 : (mayIns xK == 0) = false := by simpa using hmK
      have h2 : okAll l = false := by
        rcases Bool.eq_false_or_eq_true (okAll l) with h | h
        · have := hall h xK (hmem hxK)
          simp [this] at hmK
        · exact h
      simp only [h1, h2, Bool.and_false]
    · intro h
      have h : mayIns xK = 0 := h
      simp [h] at hmK
  · have hgood : ∀ x ∈ t, mayIns x = 0 := fun x hx => by
      rcases Classical.em (mayIns x = 0) with h | h
      · exact h
      · exact absurd ⟨x, hx, h⟩ hbad
    have key := loop_iter (step := code_All.l0.step n) (fun i => ((l, t, (t.length : Int), (i : Int), ()), ((t.take i).map (stepOf n), ()))) t.length (some (Sum.inl ((l, ()), (t.map (stepOf n), ())))) (fun i hi L => hstep i hi (fun x hx => hgood x (hmem hx)) L) (fun L => by
        unfold code_All.l0.step
        have e1 : decide ((t.length : Int) < (t.length : Int)) = false := by simp
        simp only [e1, Bool.false_eq_true, if_false, List.take_length]) n (by omega)
    simp only [List.take_zero, List.map_nil] at key
    have key : loop (code_All.l0.step n) n ((l, t, (t.length : Int), (0 : Int), ()), (([] : List T_code_Step), ())) = _ := key
    unfold code_All.l0
    rw [key, Option.bind_some]
    unfold sumE
    by_cases h64 : l.length ≤ 64
    · have e1 : decide ((l.length : Int) > 64) = false := by simp only [decide_eq_false_iff_not]; omega
      have ht : t = l := by rw [← htk, List.take_of_length_le (by omega)]
      simp only [e1, Bool.false_eq_true, if_false]
      refine ⟨_, rfl, ?_, fun _ => by rw [ht]⟩
      have : okAll l = true := List.all_eq_true.2 fun x hx => by simpa using hgood x (by rw [ht]; exact hx)
      simp [this, h64]
    · have e1 : decide ((l.length : Int) > 64) = true := by simp only [decide_eq_true_eq]; omega
      simp only [e1, if_true]
      refine ⟨_, rfl, ?_, fun h => by cases h⟩
      simp [h64]

def insBs (l : List T_api_Ins) : List Int := (l.map insB).flatten
theorem insBs_len (l : List T_api_Ins) : (insBs l).length ≤ 20 * l.length := by
  unfold insBs
  induction l with
  | nil => simp
  | cons x l ih =>
    have := insB_len x
    simp only [List.map_cons, List.flatten_cons, List.length_append, List.length_cons]
    omega
theorem insBs_take {l : List T_api_Ins} {i : Nat} {x : T_api_Ins} (h : l[i]? = some x) : insBs (l.take (i + 1)) = insBs (l.take i) ++ insB x := by
  rw [take_succ_get h]
  simp [insBs]
theorem insBs_take_len (l : List T_api_Ins) (i : Nat) : (insBs (l.take i)).length ≤ 20 * l.length := by
  have := insBs_len (l.take i)
  have h : (l.take i).length ≤ l.length := by rw [List.length_take]; omega
  omega
/-- code's bytes -/
def codeB (l : List T_api_Ins) : List Int := beN 1 (u64 (l.length : Int)) ++ insBs l

theorem list_Ins_eq (n : Nat) (b : List Int) (l : List T_api_Ins) (hv : VRs l) (hok : okAll l = true) (hb : b.length ≤ 100000000) (hl : l.length ≤ 1048576) (hn : 1048576 < n) :
    pack_list_api_Ins n b l (some (fun n x => pack_ins n x.1 x.2.1)) = some (b ++ codeB l) := by
  unfold pack_list_api_Ins
  rw [wire_Byte_eq n b _ (by omega) (by omega), Option.bind_some]
  have key := loop_iter (step := pack_list_api_Ins.l0.step n) (fun i => (((b ++ beN 1 (u64 (l.length : Int))) ++ insBs (l.take i), some (fun n x => pack_ins n x.1 x.2.1), l, (l.length : Int), (i : Int), ()), (()))) l.length
    (some (((b ++ beN 1 (u64 (l.length : Int))) ++ insBs l, ()), (()))) (fun i hi L => ?_) (fun L => ?_) n (by omega)
  · have e0 : insBs (l.take 0) = [] := rfl
    simp only [e0, List.append_nil] at key
    have key : loop (pack_list_api_Ins.l0.step n) n ((b ++ beN 1 (u64 (l.length : Int)), some (fun n x => pack_ins n x.1 x.2.1), l, (l.length : Int), (0 : Int), ()), (())) = _ := key
    unfold pack_list_api_Ins.l0
    rw [key]
    simp [codeB]
  · obtain ⟨x, hx⟩ : ∃ x, l[i]? = some x := ⟨_, List.getElem?_eq_getElem hi⟩
    have hxm := List.mem_of_getElem? hx
    have hm : mayIns x = 0 := by simpa using List.all_eq_true.1 hok x hxm
    unfold pack_list_api_Ins.l0.step
    have e1 : decide ((i : Int) < (l.length : Int)) = true := by simp only [decide_eq_true_eq]; omega
    have e3 : IntKind.wrap .i64 ((i : Int) + 1) = ((i + 1 : Nat) : Int) := wi64s (by omega)
    have hlen : ((b ++ beN 1 (u64 (l.length : Int))) ++ insBs (l.take i)).length ≤ 140737488350000 := by
      have := insBs_take_len l i
      simp only [List.length_append, beN_len]
      omega
    have e4 := pack_ins_eq n ((b ++ beN 1 (u64 (l.length : Int))) ++ insBs (l.take i)) (hv x hxm) hm (by omega) hlen
    simp only [e1, if_true, at_nat, hx, Option.bind_some, e4, e3, insBs_take hx]
    simp only [List.append_assoc]
  · unfold pack_list_api_Ins.l0.step
    have e1 : decide ((l.length : Int) < (l.length : Int)) = false := by simp
    simp only [e1, Bool.false_eq_true, if_false, List.take_length]

theorem pack_Code_eq (n : Nat) (b : List Int) (l : List T_api_Ins) (hv : VRs l) (hb : b.length ≤ 100000000) (hl : l.length ≤ 1048576) (hn : 1048576 < n) :
    pack_Code n b l = some (b ++ if decide (l.length ≤ 64) && okAll l then codeB l else [0]) := by
  obtain ⟨y, h1, h2, _⟩ := all_eq n l hv hl (by omega)
  unfold pack_Code
  rw [h1, Option.bind_some]
  cases hc : (decide (l.length ≤ 64) && okAll l) with
  | true =>
    rw [hc] at h2
    have : y.2.2 = 0 := by simpa using h2
    have hok : okAll l = true := by simp only [Bool.and_eq_true] at hc; exact hc.2
    simp only [this, bne_self_eq_false, Bool.false_eq_true, if_false, if_true, list_Ins_eq n b l hv hok hb hl hn, Option.bind_some]
  | false =>
    rw [hc] at h2
    have : (y.2.2 != 0) = true := by simpa using h2
    simp only [this, if_true, wire_Byte_eq n b 0 (by omega) (by omega), Option.bind_some, Bool.false_eq_true, if_false]
    rfl

theorem ref11_Code_eq (n : Nat) (l : List T_api_Ins) (hv : VRs l) (hok : okAll l = true) (hl : l.length ≤ 1048576) (hn : 1048576 < n) : shunterref11_Code n l = some (codeB l) := by
  unfold shunterref11_Code
  rw [n1_eq n _ (by omega), Option.bind_some]
  have key := loop_iter (step := shunterref11_Code.l0.step n) (fun i => ((l, (i : Int), ()), (beN 1 (u64 (l.length : Int)) ++ insBs (l.take i), ()))) l.length
    (some ((()), (beN 1 (u64 (l.length : Int)) ++ insBs l, ()))) (fun i hi L => ?_) (fun L => ?_) n (by omega)
  · have e0 : insBs (l.take 0) = [] := rfl
    simp only [e0, List.append_nil] at key
    have key : loop (shunterref11_Code.l0.step n) n ((l, (0 : Int), ()), (beN 1 (u64 (l.length : Int)), ())) = _ := key
    unfold shunterref11_Code.l0
    rw [key]
    rfl
  · obtain ⟨x, hx⟩ : ∃ x, l[i]? = some x := ⟨_, List.getElem?_eq_getElem hi⟩
    have hxm := List.mem_of_getElem? hx
    have hm : mayIns x = 0 := by simpa using List.all_eq_true.1 hok x hxm
    have hvx := hv x hxm
    obtain ⟨h1, h2⟩ := may_op hm
    have hlen := insBs_take_len l i
    obtain ⟨o, a, b, v, ⟨⟩⟩ := x
    simp only at hvx h1 h2
    obtain ⟨k, rfl⟩ := Int.eq_ofNat_of_zero_le h1
    have hk : k < 35 := by omega
    obtain ⟨hmany, h0⟩ := many_of hk
    have hvl := vecB_len v
    unfold shunterref11_Code.l0.step shunterref11_Code.l0.step.j1 shunterref11_Code.l0.step.j2
    have e1 : decide ((i : Int) < (l.length : Int)) = true := by simp only [decide_eq_true_eq]; omega
    have e3 : IntKind.wrap .i64 ((i : Int) + 1) = ((i + 1 : Nat) : Int) := wi64s (by omega)
    have g1 : decide ((beN 1 (u64 (l.length : Int)) ++ insBs (l.take i)).length + 1 ≤ 140737488355328) = true := by simp only [List.length_append, beN_len, decide_eq_true_eq]; omega
    have g2 : decide ((beN 1 (u64 (l.length : Int)) ++ insBs (l.take i) ++ beN 1 (u64 (k : Int))).length + (vecB v).length ≤ 140737488355328) = true := by simp only [List.length_append, beN_len, decide_eq_true_eq]; omega
    have g3 : decide ((beN 1 (u64 (l.length : Int)) ++ insBs (l.take i) ++ beN 1 (u64 (k : Int))).length + 1 ≤ 140737488355328) = true := by simp only [List.length_append, beN_len, decide_eq_true_eq]; omega
    have g4 : decide ((beN 1 (u64 (l.length : Int)) ++ insBs (l.take i) ++ beN 1 (u64 (k : Int)) ++ beN 1 (u64 a)).length + 1 ≤ 140737488355328) = true := by simp only [List.length_append, beN_len, decide_eq_true_eq]; omega
    have hrow : (row k).2.2.2.1 = many k := rfl
    simp only [e1, if_true, tab_eq, at_nat, hx, tab_get hk, Int.toNat_natCast, Option.bind_some, n1_eq n _ (show 128 < n by omega), beN_len, g1, row_push hk, hrow, insBs_take hx, e3]
    by_cases hk0 : k = 0
    · subst hk0
      have hz := h0 rfl
      have z1 : decide (many 0 ≥ 1) = false := by rw [hz]; rfl
      have z2 : (many 0 == 2) = false := by rw [hz]; rfl
      simp only [decide_true, if_true, ref07_Vec_eq n hvx (show 128 < n by omega), Option.bind_some, g2, z1, z2, Bool.false_eq_true, if_false]
      simp [insB, hz]
    · have hk0' : ¬ ((k : Int) = 0) := by omega
      simp only [hk0, decide_false, Bool.false_eq_true, if_false]
      rcases hmany with h | h | h
      · have z1 : decide (many k ≥ 1) = false := by rw [h]; rfl
        have z2 : (many k == 2) = false := by rw [h]; rfl
        simp only [z1, z2, Bool.false_eq_true, if_false]
        simp [insB, h, hk0', hk0]
      · have z1 : decide (many k ≥ 1) = true := by rw [h]; rfl
        have z2 : (many k == 2) = false := by rw [h]; rfl
        simp only [z1, z2, Bool.false_eq_true, if_false, if_true, g3]
        simp [insB, h, hk0', hk0]
      · have z1 : decide (many k ≥ 1) = true := by rw [h]; rfl
        have z2 : (many k == 2) = true := by rw [h]; rfl
        simp only [z1, z2, Bool.false_eq_true, if_false, if_true, g3, g4]
        simp [insB, h, hk0', hk0]
  · unfold shunterref11_Code.l0.step
    have e1 : decide ((l.length : Int) < (l.length : Int)) = false := by simp
    simp only [e1, Bool.false_eq_true, if_false, List.take_length]
end Pu
end

section
open Go
open Go.AM (loop sumE)
namespace Pu
open Pl

theorem strOf_append (a b : List Int) : AM.strOf (a ++ b) = AM.strOf a ++ AM.strOf b := by
  apply ByteArray.ext
  simp [AM.strOf, ByteArray.data_append]
theorem strOf_size (a : List Int) : (AM.strOf a).size = a.length := by
  simp [AM.strOf, ByteArray.size]

theorem lives_eq : shunterlaw11_lives 4194304 = some true := by kernel_rfl

theorem law_PackCodes (b : List Int) (l : List T_api_Ins) (hv : VRs l) : shunterlaw11_PackCodes 4194304 b l = some true := by
  unfold shunterlaw11_PackCodes
  by_cases hb : (b.length : Int) > 500
  · have e1 : decide ((b.length : Int) > 500) = true := by simp only [decide_eq_true_eq]; omega
    simp only [e1, if_true]
    unfold shunterlaw11_PackCodes.j1
    simp only [if_true, lives_eq, Option.bind_some]
  · have e1 : decide ((b.length : Int) > 500) = false := by simp only [decide_eq_false_iff_not]; omega
    simp only [e1, Bool.false_eq_true, if_false]
    by_cases hl : (l.length : Int) > 200
    · have e2 : decide ((l.length : Int) > 200) = true := by simp only [decide_eq_true_eq]; omega
      simp only [e2]
      unfold shunterlaw11_PackCodes.j1
      simp only [if_true, lives_eq, Option.bind_some]
    · have e2 : decide ((l.length : Int) > 200) = false := by simp only [decide_eq_false_iff_not]; omega
      simp only [e2]
      unfold shunterlaw11_PackCodes.j1
      simp only [Bool.false_eq_true, if_false]
      have e3 : decide ((l.length : Int) ≤ 64) = decide (l.length ≤ 64) := by rw [Bool.eq_iff_iff]; simp only [decide_eq_true_eq]; omega
      simp only [e3]
      have key := loop_iter (step := shunterlaw11_PackCodes.l0.step 4194304) (fun i => ((b, l, AM.strOf b, decide (l.length ≤ 64) && okAll (l.take i), (i : Int), ()), (()))) l.length
        (some ((b, l, AM.strOf b, decide (l.length ≤ 64) && okAll l, ()), (()))) (fun i hi L => ?_) (fun L => ?_) 4194304 (by omega)
      · have e0 : (decide (l.length ≤ 64) && okAll (l.take 0)) = decide (l.length ≤ 64) := by simp [okAll]
        simp only [e0] at key
        have key : loop (shunterlaw11_PackCodes.l0.step 4194304) 4194304 ((b, l, AM.strOf b, decide (l.length ≤ 64), (0 : Int), ()), (())) = _ := key
        unfold shunterlaw11_PackCodes.l0
        rw [key, Option.bind_some]
        have s0 : (⟨#[0]⟩ : ByteArray) = AM.strOf [0] := rfl
        have hp := pack_Code_eq 4194304 b l hv (by omega) (by omega) (by omega)
        have g1 : decide ((AM.strOf b).size + (⟨#[0]⟩ : ByteArray).size ≤ 9223372036854775807) = true := by
          rw [s0]
          simp only [strOf_size, List.length_cons, List.length_nil, decide_eq_true_eq]
          omega
        simp only [g1, if_true]
        unfold shunterlaw11_PackCodes.j2
        simp only [hp, Option.bind_some, beq_self_eq_true, if_true, lives_eq]
        cases hc : (decide (l.length ≤ 64) && okAll l) with
        | true =>
          have hok : okAll l = true := by simp only [Bool.and_eq_true] at hc; exact hc.2
          have g2 : decide ((AM.strOf b).size + (AM.strOf (codeB l)).size ≤ 9223372036854775807) = true := by
            have := insBs_len l
            simp only [strOf_size, codeB, List.length_append, beN_len, decide_eq_true_eq]
            omega
          simp only [if_true, ref11_Code_eq 4194304 l hv hok (by omega) (by omega), Option.bind_some, g2, strOf_append, beq_self_eq_true]
        | false =>
          simp only [Bool.false_eq_true, if_false, s0, strOf_append, beq_self_eq_true, if_true]
      · obtain ⟨x, hx⟩ : ∃ x, l[i]? = some x := ⟨_, List.getElem?_eq_getElem hi⟩
        have hxm := List.mem_of_getElem? hx
        unfold shunterlaw11_PackCodes.l0.step
        have e1 : decide ((i : Int) < (l.length : Int)) = true := by simp only [decide_eq_true_eq]; omega
        have e3 : IntKind.wrap .i64 ((i : Int) + 1) = ((i + 1 : Nat) : Int) := wi64s (by omega)
        have e4 : okAll (l.take (i + 1)) = (okAll (l.take i) && (mayIns x == 0)) := by
          rw [take_succ_get hx]; simp [okAll]
        simp only [e1, if_true, at_nat, hx, Option.bind_some, ref09_May_eq 4194304 (hv x hxm) (by omega), e3, e4]
        cases hc : (decide (l.length ≤ 64) && okAll (l.take i)) with
        | true => rw [← Bool.and_assoc, hc]; simp only [if_true, Bool.true_and]
        | false => rw [← Bool.and_assoc, hc]; simp only [Bool.false_eq_true, if_false, Bool.false_and]
      · unfold shunterlaw11_PackCodes.l0.step
        have e1 : decide ((l.length : Int) < (l.length : Int)) = false := by simp
        simp only [e1, Bool.false_eq_true, if_false, List.take_length]
end Pu
end
