import Derived.Test.YtlgejmkkehfllaaGreatZ4
import Derived.Test.YtlgejmkkehfllaaGreatProg
/- Numbers as rows of digits to the base 2^64. Nothing of a program. -/
namespace Iso
open Go

def B64 : Nat := 18446744073709551616

def val : List Nat → Nat
  | [] => 0
  | d :: r => d + B64 * val r
def Dig (ds : List Nat) : Prop := ∀ d ∈ ds, d < B64

theorem val_append (a b : List Nat) : val (a ++ b) = val a + B64 ^ a.length * val b := by
  induction a with
  | nil => simp [val]
  | cons d r ih =>
    simp only [List.cons_append, val, ih, List.length_cons, Nat.pow_succ]
    rw [Nat.mul_add, Nat.mul_comm (B64 ^ r.length) B64, Nat.mul_assoc]; omega

theorem Dig.append {a b : List Nat} (h : Dig a) (k : Dig b) : Dig (a ++ b) := fun d hd => (List.mem_append.1 hd).elim (h d) (k d)
theorem Dig.left {a b : List Nat} (h : Dig (a ++ b)) : Dig a := fun d hd => h d (List.mem_append_left _ hd)
theorem Dig.right {a b : List Nat} (h : Dig (a ++ b)) : Dig b := fun d hd => h d (List.mem_append_right _ hd)
theorem Dig.take {a : List Nat} (h : Dig a) (n : Nat) : Dig (a.take n) := fun d hd => h d (List.mem_of_mem_take hd)
theorem Dig.drop {a : List Nat} (h : Dig a) (n : Nat) : Dig (a.drop n) := fun d hd => h d (List.mem_of_mem_drop hd)
theorem Dig.nil : Dig [] := fun _ h => by cases h
theorem Dig.cons {d : Nat} {r : List Nat} (h : d < B64) (k : Dig r) : Dig (d :: r) := fun e he => by
  rcases List.mem_cons.1 he with rfl | he
  · exact h
  · exact k e he

theorem val_lt {ds : List Nat} (h : Dig ds) : val ds < B64 ^ ds.length := by
  induction ds with
  | nil => simp [val]
  | cons d r ih =>
    have h1 := h d (List.mem_cons_self ..)
    have h2 := ih fun e he => h e (List.mem_cons_of_mem _ he)
    simp only [val, List.length_cons, Nat.pow_succ]
    have h3 : B64 * (val r + 1) ≤ B64 * B64 ^ r.length := Nat.mul_le_mul_left _ h2
    rw [Nat.mul_comm (B64 ^ r.length)]
    rw [Nat.mul_add] at h3
    omega

/-- Without the noughts at the end. -/
def trim : List Nat → List Nat
  | [] => []
  | d :: r => match trim r with
    | [] => if d = 0 then [] else [d]
    | l => d :: l

theorem trim_zero (ds : List Nat) : trim (ds ++ [0]) = trim ds := by
  induction ds with
  | nil => rfl
  | cons d r ih => simp only [List.cons_append, trim, ih]
theorem trim_last (ds : List Nat) {d : Nat} (h : d ≠ 0) : trim (ds ++ [d]) = ds ++ [d] := by
  induction ds with
  | nil => simp [trim, h]
  | cons e r ih =>
    simp only [List.cons_append, trim, ih]
    cases r <;> rfl
theorem trim_cases (ds : List Nat) : trim ds = [] ∨ ∃ fs d, trim ds = fs ++ [d] ∧ d ≠ 0 := by
  induction ds with
  | nil => exact .inl rfl
  | cons e r ih =>
    simp only [trim]
    rcases ih with h | ⟨fs, d, h, hd⟩
    · rw [h]
      by_cases he : e = 0
      · simp [he]
      · exact .inr ⟨[], e, by simp [he], he⟩
    · rw [h]
      refine .inr ⟨e :: fs, d, ?_, hd⟩
      cases fs <;> rfl
theorem trim_trim (ds : List Nat) : trim (trim ds) = trim ds := by
  rcases trim_cases ds with h | ⟨fs, d, h, hd⟩
  · rw [h]; rfl
  · rw [h, trim_last _ hd]
theorem val_trim (ds : List Nat) : val (trim ds) = val ds := by
  induction ds with
  | nil => rfl
  | cons d r ih =>
    simp only [trim, val]
    cases h : trim r with
    | nil =>
      rw [h] at ih
      simp only [val] at ih
      by_cases hd : d = 0
      · simp [hd, val, ← ih]
      · simp [hd, val, ← ih]
    | cons e l => rw [h] at ih; simp only [val] at ih ⊢; rw [← ih]
theorem Dig.trim {ds : List Nat} (h : Dig ds) : Dig (trim ds) := by
  induction ds with
  | nil => exact h
  | cons d r ih =>
    have h1 := h d (List.mem_cons_self ..)
    have h2 := ih fun e he => h e (List.mem_cons_of_mem _ he)
    simp only [Iso.trim]
    cases ht : Iso.trim r with
    | nil =>
      by_cases hd : d = 0
      · simp [hd, Dig]
      · simp only [hd, if_false]; exact Dig.cons h1 Dig.nil
    | cons e l => rw [ht] at h2; exact Dig.cons h1 h2
theorem trim_length (ds : List Nat) : (trim ds).length ≤ ds.length := by
  induction ds with
  | nil => simp [trim]
  | cons d r ih =>
    simp only [trim]
    cases h : trim r with
    | nil => by_cases hd : d = 0 <;> simp [hd]
    | cons e l => rw [h] at ih; simpa using ih

/-- Trimmed: as great as its length says. -/
theorem pow_le_val {ds : List Nat} (h : trim ds = ds) (hne : ds ≠ []) : B64 ^ (ds.length - 1) ≤ val ds := by
  rcases trim_cases ds with h1 | ⟨fs, d, h1, hd⟩
  · rw [h] at h1; exact absurd h1 hne
  · rw [h] at h1
    rw [h1, val_append]
    simp only [val, List.length_append, List.length_cons, List.length_nil, Nat.zero_add, Nat.add_sub_cancel, Nat.mul_zero, Nat.add_zero]
    have : B64 ^ fs.length * 1 ≤ B64 ^ fs.length * d := Nat.mul_le_mul_left _ (Nat.pos_of_ne_zero hd)
    omega

theorem val_eq_zero {ds : List Nat} (h : trim ds = ds) : val ds = 0 ↔ ds = [] := by
  constructor
  · intro h0
    rcases trim_cases ds with h1 | ⟨fs, d, h1, hd⟩
    · rw [h] at h1; exact h1
    · have hne : ds ≠ [] := by rw [h] at h1; rw [h1]; simp
      have := pow_le_val h hne
      have h2 : 0 < B64 ^ (ds.length - 1) := Nat.pow_pos (by decide)
      omega
  · rintro rfl; rfl

def cmpI (a b : Nat) : Int := if a < b then -1 else if b < a then 1 else 0

theorem lt_of_len {a b : List Nat} (ha : Dig a) (hb : trim b = b) (h : a.length < b.length) : val a < val b := by
  have h1 := val_lt ha
  have h2 := pow_le_val hb (by intro h0; rw [h0] at h; simp at h)
  have h3 : B64 ^ a.length ≤ B64 ^ (b.length - 1) := Nat.pow_le_pow_right (by decide) (by omega)
  omega

theorem split_at {a : List Nat} {i : Nat} (h : i < a.length) : a = a.take i ++ a[i] :: a.drop (i + 1) := by
  rw [List.getElem_cons_drop, List.take_append_drop]

/-- The digits above being alike, the first that differ decide. -/
theorem lt_of_digit {a b : List Nat} {i : Nat} (ha : Dig a) (h1 : i < a.length) (h2 : i < b.length) (h : a.drop (i + 1) = b.drop (i + 1)) (hlt : a[i] < b[i]) : val a < val b := by
  rw [split_at h1, split_at h2, val_append, val_append, h]
  have l1 : (a.take i).length = i := by simp; omega
  have l2 : (b.take i).length = i := by simp; omega
  have h3 := val_lt (ha.take i)
  rw [l1] at h3
  simp only [val, l1, l2]
  have h4 : B64 ^ i * (a[i] + B64 * val (b.drop (i + 1)) + 1) ≤ B64 ^ i * (b[i] + B64 * val (b.drop (i + 1))) := Nat.mul_le_mul_left _ (by omega)
  rw [Nat.mul_add, Nat.mul_one] at h4
  omega

/-! ### As values of the layer -/
def digV (ds : List Nat) : List V := ds.map fun (d : Nat) => V.lit (.int .u64 (d : Int))
def IsSl (ds : List Nat) (v : V) : Prop := v = .vs (digV ds) ds.length ∨ (ds = [] ∧ v = .lit (.slice none 0 0))

theorem digV_length (ds : List Nat) : (digV ds).length = ds.length := by simp [digV]
theorem IsSl.vs {ds : List Nat} {v : V} (h : IsSl ds v) (hne : ds ≠ []) : v = .vs (digV ds) ds.length := h.resolve_right fun h => hne h.1

section
variable {A : Env} {L : Loc} {H : AH} {d : Option Nat} {ev : Opd → T} {Lg : Nat → Option (List V)}

theorem len_sl {x : Opd} {ds : List Nat} {v : V} (hx : ev x = .v v) (h : IsSl ds v) : ∀ H, aopE [] d (.len x) ev Lg H = some ⟨True, .v (.lit (.int .i64 ds.length)), {}⟩ := fun H => by
  rcases h with rfl | ⟨rfl, rfl⟩ <;> simp only [aopE, hx] <;> rfl
theorem ld_vp {x : Opd} {cs : List V} {u : V} {sz : Nat} (hx : ev x = .v (.vp cs)) (h : cs.head? = some u) : ∀ H, aopE [] d (.ld false sz x) ev Lg H = some ⟨True, .v u, {}⟩ := fun H => by
  simp only [aopE, hx, rd, Bool.false_eq_true, if_false, h]; rfl
theorem iad_dig {x i : Opd} {ds : List Nat} {n j : Nat} {k : IntKind} (e : Nat) (r : List Nat) (hx : ev x = .v (.vs (digV ds) n)) (hi : ev i = .v (.lit (.int k (j : Int)))) (h : ds.drop j = e :: r) :
    ∀ H, aopE [] d (.iad 1 x i) ev Lg H = some ⟨0 ≤ (j : Int) ∧ (j : Int) < n, .v (.vp (digV (e :: r))), {}⟩ := fun H => by
  simp only [aopE, hx, hi]
  rw [show List.drop ((j : Int).toNat * 1) (digV ds) = digV (ds.drop j) by simp [digV], h]
theorem sls_to {x i : Opd} {ds : List Nat} {j : Nat} {k : IntKind} (hx : ev x = .v (.vs (digV ds) ds.length)) (hi : ev i = .v (.lit (.int k (j : Int)))) :
    ∀ H, aopE [] d (.sls 1 x none (some i)) ev Lg H = some ⟨(0 ≤ (j : Int) ∧ (j : Int) ≤ ds.length) ∧ True, .v (.vs (digV (ds.take j)) j), {}⟩ := fun H => by
  simp only [aopE, hx, slLen, bdE, hi, slV, digV_length]
  simp [digV]
end
end Iso

/- Rows of digits under construction: a named block that is written. Nothing of a program. -/
namespace Iso
open Go

theorem AH.ext {H K : AH} (h1 : H.next = K.next) (h2 : ∀ i, H.get i = K.get i) : H = K := by
  cases H; cases K; simp only at h1; subst h1; congr; funext i; exact h2 i
theorem AH.push_get (H : AH) (k : Blk) : (H.push k).get H.next = some k := by simp [AH.push]
theorem AH.push_set (H : AH) (k k' : Blk) : (H.push k).set H.next k' = H.push k' :=
  AH.ext rfl fun i => by simp only [AH.set, AH.push]; split <;> rfl
theorem AH.push_lt {H : AH} {k : Blk} {b : Nat} (h : b < H.next) : (H.push k).get b = H.get b := by
  simp only [AH.push]; rw [if_neg (by omega)]
theorem AH.push_ne {H : AH} {k : Blk} {b : Nat} (h : b ≠ H.next) : (H.push k).get b = H.get b := by
  simp only [AH.push]; rw [if_neg h]

def zeros (n : Nat) : List Nat := List.replicate n 0
theorem rep_zeros (n : Nat) : rep [V.lit (.int .u64 0)] n = digV (zeros n) := by
  induction n with
  | zero => rfl
  | succ n ih => simp only [rep, ih, zeros, List.replicate_succ, digV, List.map_cons, List.singleton_append]; rfl
theorem zeros_length (n : Nat) : (zeros n).length = n := by simp [zeros]
theorem zeros_succ (n : Nat) : zeros (n + 1) = 0 :: zeros n := by simp [zeros, List.replicate_succ]
theorem dig_zeros (n : Nat) : Dig (zeros n) := fun d hd => by simp [zeros] at hd; rw [hd.2]; decide
theorem val_zeros (n : Nat) : val (zeros n) = 0 := by
  induction n with
  | zero => rfl
  | succ n ih => simp [zeros_succ, val, ih]

theorem splice_dig (ds : List Nat) (j e : Nat) (h : j < ds.length) : splice (digV ds) j [V.lit (.int .u64 (e : Int))] = digV (ds.set j e) := by
  simp only [splice, digV, List.length_cons, List.length_nil, Nat.zero_add]
  rw [List.set_eq_take_append_cons_drop, if_pos h]
  simp

section
variable {ev : Opd → T} {Lg : Nat → Option (List V)} {H : AH} {G : List Nat} {d : Option Nat} {x a i : Opd} {b n j : Nat}

theorem mks_dig {l c : Opd} {k : Nat} {by_ : Nat} (h1 : ev l = .v (.lit (.int .i64 (k : Int)))) (h2 : ev c = .v (.lit (.int .i64 (k : Int)))) :
    aopE G d (.mks 1 by_ [.lit (.int .u64 0)] l c) ev Lg H = some ⟨0 ≤ (k : Int) ∧ (k : Int) ≤ k ∧ by_ * (k : Int) ≤ 2 ^ 47 ∧ (k : Int) ≤ 2 ^ 47, .v (.hs H.next 0 k 1), { heap := some (H.push (.cells (digV (zeros k)))) }⟩ := by
  simp only [aopE, h1, h2, Int.toNat_natCast, rep_zeros]
theorem iad_hs {k : IntKind} {B : Blk} (hx : ev x = .v (.hs b 0 n 1)) (hi : ev i = .v (.lit (.int k (j : Int)))) (hg : H.get b = some B) :
    aopE G d (.iad 1 x i) ev Lg H = some ⟨0 ≤ (j : Int) ∧ (j : Int) < n ∧ 1 = 1, .v (.ptr b j), {}⟩ := by
  simp only [aopE, hx, hi, hg, Int.toNat_natCast, Nat.mul_one, Nat.zero_add]
theorem st_dig {e : Nat} {ds : List Nat} (ha : ev a = .v (.ptr b j)) (hx : ev x = .v (.lit (.int .u64 (e : Int)))) (hg : H.get b = some (.cells (digV ds))) (hj : j < ds.length) :
    aopE G d (.st 1 a x) ev Lg H = some ⟨1 = 1 ∧ j + 1 ≤ (digV ds).length, .v .any, { heap := some (H.set b (.cells (digV (ds.set j e)))) }⟩ := by
  simp only [aopE, hx, ha, hg, V.cells?, V.one, flat, if_true, List.length_cons, List.length_nil, splice_dig ds j e hj]
theorem ld_dig {ds : List Nat} {e : Nat} (hx : ev x = .v (.ptr b j)) (hg : H.get b = some (.cells (digV ds))) (hj : ds[j]? = some e) :
    aopE G d (.ld false 1 x) ev Lg H = some ⟨True, .v (.lit (.int .u64 (e : Int))), {}⟩ := by
  simp only [aopE, hx, hg, rd, Bool.false_eq_true, if_false, digV, List.head?_drop, List.getElem?_map, hj, Option.map_some, outV]
theorem len_hs {B : Blk} (hx : ev x = .v (.hs b 0 n 1)) (hg : H.get b = some B) : aopE G d (.len x) ev Lg H = some ⟨True, .v (.lit (.int .i64 n)), {}⟩ := by
  simp only [aopE, hx, hg]
theorem adc_nat {y c : Opd} {p q r : Nat} (hx : ev x = .v (.lit (.int .u64 (p : Int)))) (hy : ev y = .v (.lit (.int .u64 (q : Int)))) (hc : ev c = .v (.lit (.int .u64 (r : Int)))) :
    ∀ H, aopE [] d (.adc x y c) ev Lg H = some ⟨0 ≤ (p : Int) ∧ 0 ≤ (q : Int) ∧ 0 ≤ (r : Int) ∧ (r : Int) ≤ 1, .v (.tup [.lit (.int .u64 (((p + q + r) % B64 : Nat) : Int)), .lit (.int .u64 (((p + q + r) / B64 : Nat) : Int))]), {}⟩ := fun H => by
  simp only [aopE, hx, hy, hc, B64]
  rfl
theorem sbb_nat {y c : Opd} {p q r : Nat} (hx : ev x = .v (.lit (.int .u64 (p : Int)))) (hy : ev y = .v (.lit (.int .u64 (q : Int)))) (hc : ev c = .v (.lit (.int .u64 (r : Int)))) (hp : p < B64) (hq : q < B64) (hr : r ≤ 1) :
    ∀ H, aopE [] d (.sbb x y c) ev Lg H = some ⟨0 ≤ (p : Int) ∧ 0 ≤ (q : Int) ∧ 0 ≤ (r : Int) ∧ (r : Int) ≤ 1 ∧ (p : Int) < 18446744073709551616 ∧ (q : Int) < 18446744073709551616,
      .v (.tup [.lit (.int .u64 (((p + B64 - q - r) % B64 : Nat) : Int)), .lit (.int .u64 ((if p < q + r then 1 else 0 : Nat) : Int))]), {}⟩ := fun H => by
  simp only [aopE, hx, hy, hc]
  simp only [B64] at *
  have h1 : ((p : Int) - q - r) % 18446744073709551616 = (((p + 18446744073709551616 - q - r) % 18446744073709551616 : Nat) : Int) := by omega
  have h2 : (if (p : Int) < q + r then (1 : Int) else 0) = ((if p < q + r then 1 else 0 : Nat) : Int) := by
    by_cases h : p < q + r
    · rw [if_pos h, if_pos (by omega)]; rfl
    · rw [if_neg h, if_neg (by omega)]; rfl
  rw [h1, h2]
end

theorem take_succ {a : List Nat} {i : Nat} (h : i < a.length) : a.take (i + 1) = a.take i ++ [a[i]] := by
  rw [List.take_add_one, List.getElem?_eq_getElem h]; rfl

theorem set_mid {r : List Nat} (z : List Nat) (o e : Nat) : (r ++ o :: z).set r.length e = (r ++ [e]) ++ z := by
  rw [List.set_append_right _ _ (Nat.le_refl _)]; simp

theorem set_at {r : List Nat} {i : Nat} (h : r.length = i) (z : List Nat) (o e : Nat) : (r ++ o :: z).set i e = (r ++ [e]) ++ z := by
  subst h; exact set_mid z o e

/-- One digit more, with its carry. -/
theorem val_snoc (r : List Nat) (e : Nat) : val (r ++ [e]) = val r + B64 ^ r.length * e := by rw [val_append]; simp [val]

end Iso

/- Arithmetic on words, as steps: with natural numbers. Nothing of a program. -/
namespace Iso
open Go

section
variable {ev : Opd → T} {Lg : Nat → Option (List V)} {d : Option Nat} {x y : Opd} {p q : Nat}

theorem u64_add (hx : ev x = .v (.lit (.int .u64 (p : Int)))) (hy : ev y = .v (.lit (.int .u64 (q : Int)))) (h : p + q < B64) :
    ∀ H, aopE [] d (.bin .add x y) ev Lg H = some ⟨True, .v (.lit (.int .u64 ((p + q : Nat) : Int))), {}⟩ := fun H => by
  have : IntKind.u64.wrap ((p : Int) + (q : Int)) = ((p + q : Nat) : Int) := by rw [wrap_u64 (by omega) (by simp only [B64] at h; omega)]; omega
  rw [← this]; simp only [aopE, hx, hy]; rfl
theorem u64_sub (hx : ev x = .v (.lit (.int .u64 (p : Int)))) (hy : ev y = .v (.lit (.int .u64 (q : Int)))) (h : q ≤ p) (hp : p < B64) :
    ∀ H, aopE [] d (.bin .sub x y) ev Lg H = some ⟨True, .v (.lit (.int .u64 ((p - q : Nat) : Int))), {}⟩ := fun H => by
  have : IntKind.u64.wrap ((p : Int) - (q : Int)) = ((p - q : Nat) : Int) := by rw [wrap_u64 (by omega) (by simp only [B64] at hp; omega)]; omega
  rw [← this]; simp only [aopE, hx, hy]; rfl
theorem u64_mul (hx : ev x = .v (.lit (.int .u64 (p : Int)))) (hy : ev y = .v (.lit (.int .u64 (q : Int)))) (h : p * q < B64) :
    ∀ H, aopE [] d (.bin .mul x y) ev Lg H = some ⟨True, .v (.lit (.int .u64 ((p * q : Nat) : Int))), {}⟩ := fun H => by
  have : IntKind.u64.wrap ((p : Int) * (q : Int)) = ((p * q : Nat) : Int) := by
    rw [← Int.natCast_mul, wrap_u64 (by omega) (by simp only [B64] at h; omega)]
  rw [← this]; simp only [aopE, hx, hy]; rfl
theorem u64_mulw (hx : ev x = .v (.lit (.int .u64 (p : Int)))) (hy : ev y = .v (.lit (.int .u64 (q : Int)))) :
    ∀ H, aopE [] d (.bin .mul x y) ev Lg H = some ⟨True, .v (.lit (.int .u64 ((p * q % B64 : Nat) : Int))), {}⟩ := fun H => by
  have : IntKind.u64.wrap ((p : Int) * (q : Int)) = ((p * q % B64 : Nat) : Int) := by
    rw [IntKind.wrap_u64, ← Int.natCast_mul]; rfl
  rw [← this]; simp only [aopE, hx, hy]; rfl
theorem u64_shr {k : IntKind} (n : Nat) (hx : ev x = .v (.lit (.int .u64 (p : Int)))) (hy : ev y = .v (.lit (.int k (n : Int)))) (hn : n ≤ 64) :
    ∀ H, aopE [] d (.bin .shr x y) ev Lg H = some ⟨0 ≤ (n : Int), .v (.lit (.int .u64 ((p / 2 ^ n : Nat) : Int))), {}⟩ := fun H => by
  have : (p : Int).fdiv (2 ^ (min (n : Int).toNat IntKind.u64.bits)) = ((p / 2 ^ n : Nat) : Int) := by
    rw [Int.toNat_natCast, show min n IntKind.u64.bits = n from Nat.min_eq_left hn]
    rw [show (2 : Int) ^ n = ((2 ^ n : Nat) : Int) by simp]
    exact Int.ofNat_fdiv p (2 ^ n) |>.symm
  rw [← this]; simp only [aopE, hx, hy]; rfl
theorem u64_shr32 {k : IntKind} (hx : ev x = .v (.lit (.int .u64 (p : Int)))) (hy : ev y = .v (.lit (.int k (32 : Int)))) :
    ∀ H, aopE [] d (.bin .shr x y) ev Lg H = some ⟨0 ≤ (32 : Int), .v (.lit (.int .u64 ((p / 4294967296 : Nat) : Int))), {}⟩ := u64_shr 32 hx hy (by decide)
theorem u64_low32 (hx : ev x = .v (.lit (.int .u64 (p : Int)))) (hy : ev y = .v (.lit (.int .u64 4294967295))) (hp : p < B64) :
    ∀ H, aopE [] d (.bin .and x y) ev Lg H = some ⟨True, .v (.lit (.int .u64 ((p % 4294967296 : Nat) : Int))), {}⟩ := fun H => by
  have : IntKind.u64.wrap ((BitVec.ofInt IntKind.u64.bits (p : Int) &&& BitVec.ofInt IntKind.u64.bits 4294967295).toNat : Int) = ((p % 4294967296 : Nat) : Int) := by
    have h1 : (BitVec.ofInt 64 (p : Int)).toNat = p := by
      rw [BitVec.ofInt_natCast, BitVec.toNat_ofNat]; exact Nat.mod_eq_of_lt hp
    show IntKind.u64.wrap ((BitVec.ofInt 64 (p : Int) &&& BitVec.ofInt 64 4294967295).toNat : Int) = _
    rw [BitVec.toNat_and, h1, show (BitVec.ofInt 64 4294967295).toNat = 2 ^ 32 - 1 from rfl, Nat.and_two_pow_sub_one_eq_mod]
    rw [wrap_u64 (by omega) (by omega)]
  rw [← this]; simp only [aopE, hx, hy]; rfl
theorem i64_add (hx : ev x = .v (.lit (.int .i64 (p : Int)))) (hy : ev y = .v (.lit (.int .i64 (q : Int)))) (h : p + q < 9223372036854775808) :
    ∀ H, aopE [] d (.bin .add x y) ev Lg H = some ⟨True, .v (.lit (.int .i64 ((p + q : Nat) : Int))), {}⟩ := fun H => by
  have : IntKind.i64.wrap ((p : Int) + (q : Int)) = ((p + q : Nat) : Int) := by rw [wrap_i64 (by omega) (by omega)]; omega
  rw [← this]; simp only [aopE, hx, hy]; rfl
theorem i64_sub (hx : ev x = .v (.lit (.int .i64 (p : Int)))) (hy : ev y = .v (.lit (.int .i64 (q : Int)))) (h : q ≤ p) (hp : p < 9223372036854775808) :
    ∀ H, aopE [] d (.bin .sub x y) ev Lg H = some ⟨True, .v (.lit (.int .i64 ((p - q : Nat) : Int))), {}⟩ := fun H => by
  have : IntKind.i64.wrap ((p : Int) - (q : Int)) = ((p - q : Nat) : Int) := by rw [wrap_i64 (by omega) (by omega)]; omega
  rw [← this]; simp only [aopE, hx, hy]; rfl
theorem i64_inc (hx : ev x = .v (.lit (.int .i64 (p : Int)))) (hy : ev y = .v (.lit (.int .i64 1))) (h : p + 1 < 9223372036854775808) :
    ∀ H, aopE [] d (.bin .add x y) ev Lg H = some ⟨True, .v (.lit (.int .i64 ((p + 1 : Nat) : Int))), {}⟩ := i64_add (q := 1) hx hy h
end

theorem lt32 {a b : Nat} (ha : a < 4294967296) (hb : b < 4294967296) : a * b ≤ 18446744065119617025 := by
  have := Nat.mul_le_mul (Nat.le_of_lt_succ ha) (Nat.le_of_lt_succ hb)
  simpa using this

theorem mul64_hi (x y : Nat) (hx : x < B64) (hy : y < B64) :
    let t := x / 4294967296 * (y % 4294967296) + x % 4294967296 * (y % 4294967296) / 4294967296
    x / 4294967296 * (y / 4294967296) + t / 4294967296 + (t % 4294967296 + x % 4294967296 * (y / 4294967296)) / 4294967296 = x * y / B64 := by
  intro t
  have e : x * y = x / 4294967296 * (y / 4294967296) * 18446744073709551616 + (x / 4294967296 * (y % 4294967296) + x % 4294967296 * (y / 4294967296)) * 4294967296 + x % 4294967296 * (y % 4294967296) := by
    conv => lhs; rw [← Nat.div_add_mod x 4294967296, ← Nat.div_add_mod y 4294967296]
    generalize x / 4294967296 = a
    generalize x % 4294967296 = b
    generalize y / 4294967296 = c
    generalize y % 4294967296 = f
    grind
  rw [e]
  simp only [t, B64]
  generalize x / 4294967296 * (y / 4294967296) = a
  generalize x / 4294967296 * (y % 4294967296) = b
  generalize x % 4294967296 * (y / 4294967296) = c
  generalize x % 4294967296 * (y % 4294967296) = f
  omega

end Iso

/- Structures whose cells nobody writes, as steps. Nothing of a program. -/
namespace Iso
open Go

def Imm (v : V) : Prop := ∀ H, v.one H = true
def Imms (vs : List V) : Prop := ∀ H, V.ones H vs = true
theorem Imms.nil : Imms [] := fun _ => rfl
theorem Imms.cons {v : V} {vs : List V} (h : Imm v) (k : Imms vs) : Imms (v :: vs) := fun H => by simp [V.ones, h H, k H]
theorem imm_int (k : IntKind) (n : Int) : Imm (.lit (.int k n)) := fun _ => rfl
theorem imm_bool (b : Bool) : Imm (.lit (.bool b)) := fun _ => rfl
theorem IsSl.imm {ds : List Nat} {v : V} (h : IsSl ds v) : Imm v := fun H => by
  rcases h with rfl | ⟨_, rfl⟩ <;> rfl
theorem Imm.cells {v : V} (h : Imm v) (H : AH) (hne : ∀ cs, v ≠ .agg cs) : v.cells? H = some [v] := by
  have := h H
  unfold V.cells?
  split
  · rename_i cs; exact absurd rfl (hne cs)
  · simp [this]
theorem Imm.nagg {v : V} (h : Imm v) : ∀ cs, v ≠ .agg cs := fun cs hc => by
  subst hc; have := h ⟨0, fun _ => none⟩; simp [V.one] at this
theorem Imm.cell {v : V} (h : Imm v) (H : AH) : v.cells? H = some [v] := h.cells H h.nagg
theorem Imms.cells {cs : List V} (h : Imms cs) (H : AH) : (V.agg cs).cells? H = some cs := by simp [V.cells?, h H]

section
variable {ev : Opd → T} {Lg : Nat → Option (List V)} {d : Option Nat} {x y : Opd}

/-- A structure, built of its parts. -/
theorem bld_of {z : List V} {ps : List (Nat × Nat × Opd)} (cs : List V) (h : ∀ H, fillE ev H ps z = some cs) : ∀ H, aopE [] d (.bld z ps) ev Lg H = some ⟨True, .v (.agg cs), {}⟩ := fun H => by
  simp only [aopE, h H]
theorem fill_nil {cs : List V} : ∀ H, fillE ev H [] cs = some cs := fun _ => rfl
theorem fill_cons {off sz : Nat} {ps : List (Nat × Nat × Opd)} {cs cs' r : List V} {u : V} {l : List V} (hx : ev x = .v u) (hu : ∀ H, u.cells? H = some l) (hl : l.length = sz ∧ off + sz ≤ cs.length) (hs : splice cs off l = cs')
    (k : ∀ H, fillE ev H ps cs' = some r) : ∀ H, fillE ev H ((off, sz, x) :: ps) cs = some r := fun H => by
  simp only [fillE, hx, hu H, if_pos hl, hs, k H]
/-- A local variable out of a structure. -/
theorem box_agg {t : Nat} {cs : List V} (hx : ev x = .v (.agg cs)) (hc : Imms cs) (hn : Lg t = none) : ∀ H, aopE [] (some t) (.box x) ev Lg H = some ⟨True, .lp t 0, { slot := some (t, some cs) }⟩ := fun H => by
  simp only [aopE, hx, hc.cells H, hn, List.contains_nil]
theorem box_imm {t : Nat} {u : V} (hx : ev x = .v u) (hu : Imm u) (hn : Lg t = none) : ∀ H, aopE [] (some t) (.box x) ev Lg H = some ⟨True, .lp t 0, { slot := some (t, some [u]) }⟩ := fun H => by
  simp only [aopE, hx, hu.cell H, hn, List.contains_nil]
theorem ld_agg {t o sz : Nat} {cs : List V} (r : List V) (hx : ev x = .lp t o) (hL : Lg t = some cs) (hr : (cs.drop o).take sz = r) (hl : sz ≤ (cs.drop o).length) : ∀ H, aopE [] d (.ld true sz x) ev Lg H = some ⟨True, .v (.agg r), {}⟩ := fun H => by
  simp only [aopE, hx, hL, rd, if_true, if_pos hl, hr, outV]
theorem st_agg {t o sz : Nat} {cs old : List V} (new : List V) (ha : ev x = .lp t o) (hx : ev y = .v (.agg cs)) (hc : Imms cs) (hL : Lg t = some old) (hn : splice old o cs = new) : ∀ H, aopE [] d (.st sz x y) ev Lg H = some ⟨cs.length = sz ∧ o + sz ≤ old.length, .v .any, { slot := some (t, some new) }⟩ := fun H => by
  simp only [aopE, hx, ha, hc.cells H, hL, hn]
theorem st_imm {t o sz : Nat} {old : List V} {u : V} (new : List V) (ha : ev x = .lp t o) (hx : ev y = .v u) (hc : Imm u) (hL : Lg t = some old) (hn : splice old o [u] = new) : ∀ H, aopE [] d (.st sz x y) ev Lg H = some ⟨1 = sz ∧ o + sz ≤ old.length, .v .any, { slot := some (t, some new) }⟩ := fun H => by
  simp only [aopE, hx, ha, hc.cell H, hL, hn]; rfl
theorem fld_agg {off sz : Nat} {cs : List V} (r : List V) (hx : ev x = .v (.agg cs)) (hr : (cs.drop off).take sz = r) (hl : sz ≤ (cs.drop off).length) : ∀ H, aopE [] d (.fld off sz true x) ev Lg H = some ⟨True, .v (.agg r), {}⟩ := fun H => by
  simp only [aopE, hx, rd, if_true, if_pos hl, hr, outV]
end

end Iso

/- The compiled code of the functions on magnitudes. -/
namespace Iso
open Go Go.Proofs

def ac106 : AC := (.seq 
  (.reg false [] [⟨(some 2), none, (.mv (.k (.lit (.slice none 0 0))))⟩]) (.seq (.block 0 (.loop (.seq (.seq 
  (.reg false [] [⟨(some 3), none, (.mv (.t 0))⟩,
    ⟨(some 4), none, (.len (.t 3))⟩,
    ⟨(some 5), none, (.bin .gtr (.t 4) (.k (.lit (.int .i64 0))))⟩,
    ⟨(some 6), none, (.mv (.t 5))⟩,
    ⟨(some 7), (some (6, true)), (.mv (.t 0))⟩,
    ⟨(some 8), (some (6, true)), (.mv (.t 0))⟩,
    ⟨(some 9), (some (6, true)), (.len (.t 8))⟩,
    ⟨(some 10), (some (6, true)), (.bin .sub (.t 9) (.k (.lit (.int .i64 1))))⟩,
    ⟨(some 11), (some (6, true)), (.iad 1 (.t 7) (.t 10))⟩,
    ⟨(some 12), (some (6, true)), (.ld false 1 (.t 11))⟩,
    ⟨(some 13), (some (6, true)), (.bin .eql (.t 12) (.k (.lit (.int .u64 0))))⟩,
    ⟨(some 14), none, (.pick (.t 6) (.t 13) (.k (.lit (.bool false))))⟩]) (.cond (.t 14) .skip (.exit 0))) (.block 1 
  (.reg false [] [⟨(some 15), none, (.mv (.t 0))⟩,
    ⟨(some 16), none, (.mv (.t 0))⟩,
    ⟨(some 17), none, (.len (.t 16))⟩,
    ⟨(some 18), none, (.bin .sub (.t 17) (.k (.lit (.int .i64 1))))⟩,
    ⟨(some 19), none, (.sls 1 (.t 15) none (some (.t 18)))⟩,
    ⟨(some 0), none, (.mv (.t 19))⟩]))))) (.seq 
  (.reg false [] [⟨(some 20), none, (.mv (.t 0))⟩,
    ⟨(some 2), none, (.mv (.t 20))⟩]) .ret)))
theorem cf106 : compF Tryz.prog 106 = some ⟨21, ac106, [(.tmp 2)]⟩ := by kernel_rfl

def ac107 : AC := (.seq 
  (.reg false [] [⟨(some 4), none, (.mv (.k (.lit (.int .i64 0))))⟩]) (.seq 
  (.reg false [] [⟨(some 6), none, (.mv (.t 0))⟩,
    ⟨(some 7), none, (.call 106 [(.t 6)])⟩,
    ⟨(some 8), none, (.mv (.t 1))⟩,
    ⟨(some 9), none, (.call 106 [(.t 8)])⟩,
    ⟨(some 0), none, (.mv (.t 7))⟩,
    ⟨(some 1), none, (.mv (.t 9))⟩]) (.seq (.seq 
  (.reg false [] [⟨(some 10), none, (.mv (.t 0))⟩,
    ⟨(some 11), none, (.len (.t 10))⟩,
    ⟨(some 12), none, (.mv (.t 1))⟩,
    ⟨(some 13), none, (.len (.t 12))⟩,
    ⟨(some 14), none, (.bin .neq (.t 11) (.t 13))⟩]) (.cond (.t 14) (.seq (.seq 
  (.reg false [] [⟨(some 15), none, (.mv (.t 0))⟩,
    ⟨(some 16), none, (.len (.t 15))⟩,
    ⟨(some 17), none, (.mv (.t 1))⟩,
    ⟨(some 18), none, (.len (.t 17))⟩,
    ⟨(some 19), none, (.bin .lss (.t 16) (.t 18))⟩]) (.cond (.t 19) (.seq 
  (.reg false [] [⟨(some 4), none, (.mv (.k (.lit (.int .i64 (-1)))))⟩]) .ret) .skip)) (.seq 
  (.reg false [] [⟨(some 4), none, (.mv (.k (.lit (.int .i64 1))))⟩]) .ret)) .skip)) (.seq (.seq 
  (.reg false [] [⟨(some 20), none, (.mv (.t 0))⟩,
    ⟨(some 21), none, (.len (.t 20))⟩,
    ⟨(some 22), none, (.bin .sub (.t 21) (.k (.lit (.int .i64 1))))⟩,
    ⟨(some 5), none, (.mv (.t 22))⟩]) (.block 0 (.loop (.seq (.seq 
  (.reg false [] [⟨(some 23), none, (.mv (.t 5))⟩,
    ⟨(some 24), none, (.bin .geq (.t 23) (.k (.lit (.int .i64 0))))⟩]) (.cond (.t 24) .skip (.exit 0))) (.seq (.block 1 (.seq 
  (.reg true [[], [], [0, 1], [2], [], [], [4, 5], [6], [3, 7]] [⟨(some 27), none, (.mv (.t 0))⟩,
    ⟨(some 28), none, (.mv (.t 5))⟩,
    ⟨(some 29), none, (.iad 1 (.t 27) (.t 28))⟩,
    ⟨(some 30), none, (.ld false 1 (.t 29))⟩,
    ⟨(some 31), none, (.mv (.t 1))⟩,
    ⟨(some 32), none, (.mv (.t 5))⟩,
    ⟨(some 33), none, (.iad 1 (.t 31) (.t 32))⟩,
    ⟨(some 34), none, (.ld false 1 (.t 33))⟩,
    ⟨(some 35), none, (.bin .neq (.t 30) (.t 34))⟩]) (.cond (.t 35) (.seq (.seq 
  (.reg true [[], [], [0, 1], [2], [], [], [4, 5], [6], [3, 7]] [⟨(some 36), none, (.mv (.t 0))⟩,
    ⟨(some 37), none, (.mv (.t 5))⟩,
    ⟨(some 38), none, (.iad 1 (.t 36) (.t 37))⟩,
    ⟨(some 39), none, (.ld false 1 (.t 38))⟩,
    ⟨(some 40), none, (.mv (.t 1))⟩,
    ⟨(some 41), none, (.mv (.t 5))⟩,
    ⟨(some 42), none, (.iad 1 (.t 40) (.t 41))⟩,
    ⟨(some 43), none, (.ld false 1 (.t 42))⟩,
    ⟨(some 44), none, (.bin .lss (.t 39) (.t 43))⟩]) (.cond (.t 44) (.seq 
  (.reg false [] [⟨(some 4), none, (.mv (.k (.lit (.int .i64 (-1)))))⟩]) .ret) .skip)) (.seq 
  (.reg false [] [⟨(some 4), none, (.mv (.k (.lit (.int .i64 1))))⟩]) .ret)) .skip))) 
  (.reg false [] [⟨(some 25), none, (.mv (.t 5))⟩,
    ⟨(some 26), none, (.bin .sub (.t 25) (.k (.lit (.int .i64 1))))⟩,
    ⟨(some 5), none, (.mv (.t 26))⟩])))))) (.seq 
  (.reg false [] [⟨(some 4), none, (.mv (.k (.lit (.int .i64 0))))⟩]) .ret)))))
theorem cf107 : compF Tryz.prog 107 = some ⟨45, ac107, [(.tmp 4)]⟩ := by kernel_rfl

def ac101 : AC := (.seq 
  (.reg false [] [⟨(some 4), none, (.mv (.k (.lit (.slice none 0 0))))⟩]) (.seq (.seq 
  (.reg false [] [⟨(some 10), none, (.mv (.t 0))⟩,
    ⟨(some 11), none, (.len (.t 10))⟩,
    ⟨(some 12), none, (.mv (.t 1))⟩,
    ⟨(some 13), none, (.len (.t 12))⟩,
    ⟨(some 14), none, (.bin .lss (.t 11) (.t 13))⟩]) (.cond (.t 14) 
  (.reg false [] [⟨(some 15), none, (.mv (.t 1))⟩,
    ⟨(some 16), none, (.mv (.t 0))⟩,
    ⟨(some 0), none, (.mv (.t 15))⟩,
    ⟨(some 1), none, (.mv (.t 16))⟩]) .skip)) (.seq 
  (.reg false [] [⟨(some 17), none, (.mv (.t 0))⟩,
    ⟨(some 18), none, (.len (.t 17))⟩,
    ⟨(some 19), none, (.bin .add (.t 18) (.k (.lit (.int .i64 1))))⟩,
    ⟨(some 20), none, (.mks 1 8 [(.lit (.int .u64 0))] (.t 19) (.t 19))⟩,
    ⟨(some 5), none, (.mv (.t 20))⟩]) (.seq 
  (.reg false [] [⟨(some 6), none, (.mv (.k (.lit (.int .u64 0))))⟩]) (.seq (.seq 
  (.reg false [] [⟨(some 21), none, (.mv (.t 0))⟩,
    ⟨(some 22), none, (.len (.t 21))⟩,
    ⟨(some 23), none, (.mv (.k (.lit (.int .i64 0))))⟩]) (.block 0 (.loop (.seq 
  (.reg false [] [⟨(some 24), none, (.bin .lss (.t 23) (.t 22))⟩]) (.seq (.cond (.t 24) .skip (.exit 0)) (.seq (.block 1 (.seq 
  (.reg false [] [⟨(some 25), none, (.mv (.t 23))⟩,
    ⟨(some 26), none, (.iad 1 (.t 21) (.t 23))⟩,
    ⟨(some 27), none, (.ld false 1 (.t 26))⟩,
    ⟨(some 7), none, (.mv (.t 25))⟩,
    ⟨(some 8), none, (.mv (.t 27))⟩]) (.seq 
  (.reg false [] [⟨(some 9), none, (.mv (.k (.lit (.int .u64 0))))⟩]) (.seq (.seq 
  (.reg false [] [⟨(some 28), none, (.mv (.t 7))⟩,
    ⟨(some 29), none, (.mv (.t 1))⟩,
    ⟨(some 30), none, (.len (.t 29))⟩,
    ⟨(some 31), none, (.bin .lss (.t 28) (.t 30))⟩]) (.cond (.t 31) 
  (.reg false [] [⟨(some 32), none, (.mv (.t 1))⟩,
    ⟨(some 33), none, (.mv (.t 7))⟩,
    ⟨(some 34), none, (.iad 1 (.t 32) (.t 33))⟩,
    ⟨(some 35), none, (.ld false 1 (.t 34))⟩,
    ⟨(some 9), none, (.mv (.t 35))⟩]) .skip)) 
  (.reg false [] [⟨(some 37), none, (.mv (.t 5))⟩,
    ⟨(some 38), none, (.mv (.t 7))⟩,
    ⟨(some 39), none, (.mv (.t 8))⟩,
    ⟨(some 40), none, (.mv (.t 9))⟩,
    ⟨(some 41), none, (.mv (.t 6))⟩,
    ⟨(some 42), none, (.adc (.t 39) (.t 40) (.t 41))⟩,
    ⟨(some 36), none, (.mv (.t 42))⟩,
    ⟨(some 43), none, (.ext (.t 36) 0)⟩,
    ⟨(some 44), none, (.ext (.t 36) 1)⟩,
    ⟨(some 45), none, (.iad 1 (.t 37) (.t 38))⟩,
    ⟨none, none, (.st 1 (.t 45) (.t 43))⟩,
    ⟨(some 6), none, (.mv (.t 44))⟩]))))) 
  (.reg false [] [⟨(some 46), none, (.bin .add (.t 23) (.k (.lit (.int .i64 1))))⟩,
    ⟨(some 23), none, (.mv (.t 46))⟩]))))))) (.seq 
  (.reg false [] [⟨(some 47), none, (.mv (.t 5))⟩,
    ⟨(some 48), none, (.mv (.t 0))⟩,
    ⟨(some 49), none, (.len (.t 48))⟩,
    ⟨(some 50), none, (.mv (.t 6))⟩,
    ⟨(some 51), none, (.iad 1 (.t 47) (.t 49))⟩,
    ⟨none, none, (.st 1 (.t 51) (.t 50))⟩]) (.seq 
  (.reg false [] [⟨(some 52), none, (.mv (.t 5))⟩,
    ⟨(some 53), none, (.call 106 [(.t 52)])⟩,
    ⟨(some 4), none, (.mv (.t 53))⟩]) .ret)))))))
theorem cf101 : compF Tryz.prog 101 = some ⟨54, ac101, [(.tmp 4)]⟩ := by kernel_rfl

def ac108 : AC := (.seq 
  (.reg false [] [⟨(some 4), none, (.mv (.k (.lit (.slice none 0 0))))⟩]) (.seq 
  (.reg false [] [⟨(some 10), none, (.mv (.t 0))⟩,
    ⟨(some 11), none, (.call 106 [(.t 10)])⟩,
    ⟨(some 12), none, (.mv (.t 1))⟩,
    ⟨(some 13), none, (.call 106 [(.t 12)])⟩,
    ⟨(some 0), none, (.mv (.t 11))⟩,
    ⟨(some 1), none, (.mv (.t 13))⟩]) (.seq (.seq 
  (.reg false [] [⟨(some 14), none, (.mv (.t 0))⟩,
    ⟨(some 15), none, (.mv (.t 1))⟩,
    ⟨(some 16), none, (.call 107 [(.t 14), (.t 15)])⟩,
    ⟨(some 17), none, (.bin .leq (.t 16) (.k (.lit (.int .i64 0))))⟩]) (.cond (.t 17) (.seq 
  (.reg false [] [⟨(some 4), none, (.mv (.k (.lit (.slice none 0 0))))⟩]) .ret) .skip)) (.seq 
  (.reg false [] [⟨(some 18), none, (.mv (.t 0))⟩,
    ⟨(some 19), none, (.len (.t 18))⟩,
    ⟨(some 20), none, (.mks 1 8 [(.lit (.int .u64 0))] (.t 19) (.t 19))⟩,
    ⟨(some 5), none, (.mv (.t 20))⟩]) (.seq 
  (.reg false [] [⟨(some 6), none, (.mv (.k (.lit (.int .u64 0))))⟩]) (.seq (.seq 
  (.reg false [] [⟨(some 21), none, (.mv (.t 0))⟩,
    ⟨(some 22), none, (.len (.t 21))⟩,
    ⟨(some 23), none, (.mv (.k (.lit (.int .i64 0))))⟩]) (.block 0 (.loop (.seq 
  (.reg false [] [⟨(some 24), none, (.bin .lss (.t 23) (.t 22))⟩]) (.seq (.cond (.t 24) .skip (.exit 0)) (.seq (.block 1 (.seq 
  (.reg false [] [⟨(some 25), none, (.mv (.t 23))⟩,
    ⟨(some 26), none, (.iad 1 (.t 21) (.t 23))⟩,
    ⟨(some 27), none, (.ld false 1 (.t 26))⟩,
    ⟨(some 7), none, (.mv (.t 25))⟩,
    ⟨(some 8), none, (.mv (.t 27))⟩]) (.seq 
  (.reg false [] [⟨(some 9), none, (.mv (.k (.lit (.int .u64 0))))⟩]) (.seq (.seq 
  (.reg false [] [⟨(some 28), none, (.mv (.t 7))⟩,
    ⟨(some 29), none, (.mv (.t 1))⟩,
    ⟨(some 30), none, (.len (.t 29))⟩,
    ⟨(some 31), none, (.bin .lss (.t 28) (.t 30))⟩]) (.cond (.t 31) 
  (.reg false [] [⟨(some 32), none, (.mv (.t 1))⟩,
    ⟨(some 33), none, (.mv (.t 7))⟩,
    ⟨(some 34), none, (.iad 1 (.t 32) (.t 33))⟩,
    ⟨(some 35), none, (.ld false 1 (.t 34))⟩,
    ⟨(some 9), none, (.mv (.t 35))⟩]) .skip)) 
  (.reg false [] [⟨(some 37), none, (.mv (.t 5))⟩,
    ⟨(some 38), none, (.mv (.t 7))⟩,
    ⟨(some 39), none, (.mv (.t 8))⟩,
    ⟨(some 40), none, (.mv (.t 9))⟩,
    ⟨(some 41), none, (.mv (.t 6))⟩,
    ⟨(some 42), none, (.sbb (.t 39) (.t 40) (.t 41))⟩,
    ⟨(some 36), none, (.mv (.t 42))⟩,
    ⟨(some 43), none, (.ext (.t 36) 0)⟩,
    ⟨(some 44), none, (.ext (.t 36) 1)⟩,
    ⟨(some 45), none, (.iad 1 (.t 37) (.t 38))⟩,
    ⟨none, none, (.st 1 (.t 45) (.t 43))⟩,
    ⟨(some 6), none, (.mv (.t 44))⟩]))))) 
  (.reg false [] [⟨(some 46), none, (.bin .add (.t 23) (.k (.lit (.int .i64 1))))⟩,
    ⟨(some 23), none, (.mv (.t 46))⟩]))))))) (.seq 
  (.reg false [] [⟨(some 47), none, (.mv (.t 5))⟩,
    ⟨(some 48), none, (.call 106 [(.t 47)])⟩,
    ⟨(some 4), none, (.mv (.t 48))⟩]) .ret)))))))
theorem cf108 : compF Tryz.prog 108 = some ⟨49, ac108, [(.tmp 4)]⟩ := by kernel_rfl

def ac63 : AC := (.seq 
  (.reg false [] [⟨(some 4), none, (.mv (.k (.lit (.slice none 0 0))))⟩]) (.seq 
  (.reg false [] [⟨(some 14), none, (.mv (.t 0))⟩,
    ⟨(some 15), none, (.len (.t 14))⟩,
    ⟨(some 16), none, (.mv (.t 1))⟩,
    ⟨(some 17), none, (.len (.t 16))⟩,
    ⟨(some 18), none, (.bin .add (.t 15) (.t 17))⟩,
    ⟨(some 19), none, (.mks 1 8 [(.lit (.int .u64 0))] (.t 18) (.t 18))⟩,
    ⟨(some 5), none, (.mv (.t 19))⟩]) (.seq (.seq 
  (.reg false [] [⟨(some 20), none, (.mv (.t 0))⟩,
    ⟨(some 21), none, (.len (.t 20))⟩,
    ⟨(some 22), none, (.mv (.k (.lit (.int .i64 0))))⟩]) (.block 0 (.loop (.seq 
  (.reg false [] [⟨(some 23), none, (.bin .lss (.t 22) (.t 21))⟩]) (.seq (.cond (.t 23) .skip (.exit 0)) (.seq (.block 1 (.seq 
  (.reg false [] [⟨(some 24), none, (.mv (.t 22))⟩,
    ⟨(some 25), none, (.iad 1 (.t 20) (.t 22))⟩,
    ⟨(some 26), none, (.ld false 1 (.t 25))⟩,
    ⟨(some 6), none, (.mv (.t 24))⟩,
    ⟨(some 7), none, (.mv (.t 26))⟩]) (.seq 
  (.reg false [] [⟨(some 8), none, (.mv (.k (.lit (.int .u64 0))))⟩]) (.seq (.seq 
  (.reg false [] [⟨(some 27), none, (.mv (.t 1))⟩,
    ⟨(some 28), none, (.len (.t 27))⟩,
    ⟨(some 29), none, (.mv (.k (.lit (.int .i64 0))))⟩]) (.block 2 (.loop (.seq 
  (.reg false [] [⟨(some 30), none, (.bin .lss (.t 29) (.t 28))⟩]) (.seq (.cond (.t 30) .skip (.exit 2)) (.seq (.block 3 (.seq 
  (.reg false [] [⟨(some 31), none, (.mv (.t 29))⟩,
    ⟨(some 32), none, (.iad 1 (.t 27) (.t 29))⟩,
    ⟨(some 33), none, (.ld false 1 (.t 32))⟩,
    ⟨(some 9), none, (.mv (.t 31))⟩,
    ⟨(some 10), none, (.mv (.t 33))⟩]) (.seq 
  (.reg false [] [⟨(some 35), none, (.mv (.t 7))⟩,
    ⟨(some 36), none, (.mv (.t 10))⟩,
    ⟨(some 37), none, (.call 104 [(.t 35), (.t 36)])⟩,
    ⟨(some 34), none, (.mv (.t 37))⟩,
    ⟨(some 38), none, (.ext (.t 34) 0)⟩,
    ⟨(some 39), none, (.ext (.t 34) 1)⟩,
    ⟨(some 11), none, (.mv (.t 38))⟩,
    ⟨(some 12), none, (.mv (.t 39))⟩]) (.seq 
  (.reg false [] [⟨(some 13), none, (.mv (.k (.lit (.int .u64 0))))⟩]) (.seq 
  (.reg false [] [⟨(some 41), none, (.mv (.t 12))⟩,
    ⟨(some 42), none, (.mv (.t 8))⟩,
    ⟨(some 43), none, (.adc (.t 41) (.t 42) (.k (.lit (.int .u64 0))))⟩,
    ⟨(some 40), none, (.mv (.t 43))⟩,
    ⟨(some 44), none, (.ext (.t 40) 0)⟩,
    ⟨(some 45), none, (.ext (.t 40) 1)⟩,
    ⟨(some 12), none, (.mv (.t 44))⟩,
    ⟨(some 13), none, (.mv (.t 45))⟩]) (.seq 
  (.reg false [] [⟨(some 46), none, (.mv (.t 11))⟩,
    ⟨(some 47), none, (.mv (.t 13))⟩,
    ⟨(some 48), none, (.bin .add (.t 46) (.t 47))⟩,
    ⟨(some 11), none, (.mv (.t 48))⟩]) (.seq 
  (.reg false [] [⟨(some 50), none, (.mv (.t 5))⟩,
    ⟨(some 51), none, (.mv (.t 6))⟩,
    ⟨(some 52), none, (.mv (.t 9))⟩,
    ⟨(some 53), none, (.bin .add (.t 51) (.t 52))⟩,
    ⟨(some 54), none, (.mv (.t 5))⟩,
    ⟨(some 55), none, (.mv (.t 6))⟩,
    ⟨(some 56), none, (.mv (.t 9))⟩,
    ⟨(some 57), none, (.bin .add (.t 55) (.t 56))⟩,
    ⟨(some 58), none, (.iad 1 (.t 54) (.t 57))⟩,
    ⟨(some 59), none, (.ld false 1 (.t 58))⟩,
    ⟨(some 60), none, (.mv (.t 12))⟩,
    ⟨(some 61), none, (.adc (.t 59) (.t 60) (.k (.lit (.int .u64 0))))⟩,
    ⟨(some 49), none, (.mv (.t 61))⟩,
    ⟨(some 62), none, (.ext (.t 49) 0)⟩,
    ⟨(some 63), none, (.ext (.t 49) 1)⟩,
    ⟨(some 64), none, (.iad 1 (.t 50) (.t 53))⟩,
    ⟨none, none, (.st 1 (.t 64) (.t 62))⟩,
    ⟨(some 13), none, (.mv (.t 63))⟩]) 
  (.reg false [] [⟨(some 65), none, (.mv (.t 11))⟩,
    ⟨(some 66), none, (.mv (.t 13))⟩,
    ⟨(some 67), none, (.bin .add (.t 65) (.t 66))⟩,
    ⟨(some 8), none, (.mv (.t 67))⟩])))))))) 
  (.reg false [] [⟨(some 68), none, (.bin .add (.t 29) (.k (.lit (.int .i64 1))))⟩,
    ⟨(some 29), none, (.mv (.t 68))⟩]))))))) 
  (.reg false [] [⟨(some 69), none, (.mv (.t 5))⟩,
    ⟨(some 70), none, (.mv (.t 6))⟩,
    ⟨(some 71), none, (.mv (.t 1))⟩,
    ⟨(some 72), none, (.len (.t 71))⟩,
    ⟨(some 73), none, (.bin .add (.t 70) (.t 72))⟩,
    ⟨(some 74), none, (.mv (.t 8))⟩,
    ⟨(some 75), none, (.iad 1 (.t 69) (.t 73))⟩,
    ⟨none, none, (.st 1 (.t 75) (.t 74))⟩]))))) 
  (.reg false [] [⟨(some 76), none, (.bin .add (.t 22) (.k (.lit (.int .i64 1))))⟩,
    ⟨(some 22), none, (.mv (.t 76))⟩]))))))) (.seq 
  (.reg false [] [⟨(some 77), none, (.mv (.t 5))⟩,
    ⟨(some 78), none, (.call 106 [(.t 77)])⟩,
    ⟨(some 4), none, (.mv (.t 78))⟩]) .ret))))
theorem cf63 : compF Tryz.prog 63 = some ⟨79, ac63, [(.tmp 4)]⟩ := by kernel_rfl

def ac82 : AC := (.seq 
  (.reg false [] [⟨(some 2), none, (.mv (.k (.lit (.slice none 0 0))))⟩]) (.seq 
  (.reg false [] [⟨(some 3), none, (.mv (.t 0))⟩,
    ⟨(some 4), none, (.bsl 1 1 [(.lit (.int .u64 0))] [(0, (1, (.t 3)))])⟩,
    ⟨(some 5), none, (.call 106 [(.t 4)])⟩,
    ⟨(some 2), none, (.mv (.t 5))⟩]) .ret))
theorem cf82 : compF Tryz.prog 82 = some ⟨6, ac82, [(.tmp 2)]⟩ := by kernel_rfl

def ac103 : AC := (.seq 
  (.reg false [] [⟨(some 2), none, (.mv (.k (.lit (.int .i64 0))))⟩]) (.seq 
  (.reg false [] [⟨(some 3), none, (.mv (.t 0))⟩,
    ⟨(some 4), none, (.call 106 [(.t 3)])⟩,
    ⟨(some 0), none, (.mv (.t 4))⟩]) (.seq (.seq 
  (.reg false [] [⟨(some 5), none, (.mv (.t 0))⟩,
    ⟨(some 6), none, (.len (.t 5))⟩,
    ⟨(some 7), none, (.bin .eql (.t 6) (.k (.lit (.int .i64 0))))⟩]) (.cond (.t 7) (.seq 
  (.reg false [] [⟨(some 2), none, (.mv (.k (.lit (.int .i64 0))))⟩]) .ret) .skip)) (.seq 
  (.reg false [] [⟨(some 8), none, (.mv (.t 0))⟩,
    ⟨(some 9), none, (.len (.t 8))⟩,
    ⟨(some 10), none, (.bin .sub (.t 9) (.k (.lit (.int .i64 1))))⟩,
    ⟨(some 11), none, (.bin .mul (.k (.lit (.int .i64 64))) (.t 10))⟩,
    ⟨(some 12), none, (.mv (.t 0))⟩,
    ⟨(some 13), none, (.mv (.t 0))⟩,
    ⟨(some 14), none, (.len (.t 13))⟩,
    ⟨(some 15), none, (.bin .sub (.t 14) (.k (.lit (.int .i64 1))))⟩,
    ⟨(some 16), none, (.iad 1 (.t 12) (.t 15))⟩,
    ⟨(some 17), none, (.ld false 1 (.t 16))⟩,
    ⟨(some 18), none, (.call 146 [(.t 17)])⟩,
    ⟨(some 19), none, (.bin .add (.t 11) (.t 18))⟩,
    ⟨(some 2), none, (.mv (.t 19))⟩]) .ret))))
theorem cf103 : compF Tryz.prog 103 = some ⟨20, ac103, [(.tmp 2)]⟩ := by kernel_rfl

def ac150 : AC := (.seq 
  (.reg false [] [⟨(some 4), none, (.mv (.k (.lit (.slice none 0 0))))⟩,
    ⟨(some 5), none, (.mv (.k (.lit (.int .u64 0))))⟩]) (.seq 
  (.reg false [] [⟨(some 9), none, (.mv (.t 0))⟩,
    ⟨(some 10), none, (.len (.t 9))⟩,
    ⟨(some 11), none, (.mks 1 8 [(.lit (.int .u64 0))] (.t 10) (.t 10))⟩,
    ⟨(some 6), none, (.mv (.t 11))⟩]) (.seq 
  (.reg false [] [⟨(some 7), none, (.mv (.k (.lit (.int .u64 0))))⟩]) (.seq (.seq 
  (.reg false [] [⟨(some 12), none, (.mv (.t 0))⟩,
    ⟨(some 13), none, (.len (.t 12))⟩,
    ⟨(some 14), none, (.bin .sub (.t 13) (.k (.lit (.int .i64 1))))⟩,
    ⟨(some 8), none, (.mv (.t 14))⟩]) (.block 0 (.loop (.seq (.seq 
  (.reg false [] [⟨(some 15), none, (.mv (.t 8))⟩,
    ⟨(some 16), none, (.bin .geq (.t 15) (.k (.lit (.int .i64 0))))⟩]) (.cond (.t 16) .skip (.exit 0))) (.seq (.block 1 
  (.reg false [] [⟨(some 20), none, (.mv (.t 6))⟩,
    ⟨(some 21), none, (.mv (.t 8))⟩,
    ⟨(some 22), none, (.mv (.t 7))⟩,
    ⟨(some 23), none, (.mv (.t 0))⟩,
    ⟨(some 24), none, (.mv (.t 8))⟩,
    ⟨(some 25), none, (.iad 1 (.t 23) (.t 24))⟩,
    ⟨(some 26), none, (.ld false 1 (.t 25))⟩,
    ⟨(some 27), none, (.mv (.t 1))⟩,
    ⟨(some 28), none, (.call 171 [(.t 22), (.t 26), (.t 27)])⟩,
    ⟨(some 19), none, (.mv (.t 28))⟩,
    ⟨(some 29), none, (.ext (.t 19) 0)⟩,
    ⟨(some 30), none, (.ext (.t 19) 1)⟩,
    ⟨(some 31), none, (.iad 1 (.t 20) (.t 21))⟩,
    ⟨none, none, (.st 1 (.t 31) (.t 29))⟩,
    ⟨(some 7), none, (.mv (.t 30))⟩])) 
  (.reg false [] [⟨(some 17), none, (.mv (.t 8))⟩,
    ⟨(some 18), none, (.bin .sub (.t 17) (.k (.lit (.int .i64 1))))⟩,
    ⟨(some 8), none, (.mv (.t 18))⟩])))))) (.seq 
  (.reg false [] [⟨(some 32), none, (.mv (.t 6))⟩,
    ⟨(some 33), none, (.call 106 [(.t 32)])⟩,
    ⟨(some 34), none, (.mv (.t 7))⟩,
    ⟨(some 4), none, (.mv (.t 33))⟩,
    ⟨(some 5), none, (.mv (.t 34))⟩]) .ret)))))
theorem cf150 : compF Tryz.prog 150 = some ⟨35, ac150, [(.tmp 4), (.tmp 5)]⟩ := by kernel_rfl

def ac102 : AC := (.seq 
  (.reg false [] [⟨(some 4), none, (.mv (.k (.lit (.slice none 0 0))))⟩,
    ⟨(some 5), none, (.mv (.k (.lit (.slice none 0 0))))⟩]) (.seq 
  (.reg false [] [⟨(some 15), none, (.mv (.t 0))⟩,
    ⟨(some 16), none, (.call 106 [(.t 15)])⟩,
    ⟨(some 17), none, (.mv (.t 1))⟩,
    ⟨(some 18), none, (.call 106 [(.t 17)])⟩,
    ⟨(some 0), none, (.mv (.t 16))⟩,
    ⟨(some 1), none, (.mv (.t 18))⟩]) (.seq (.block 0 (.seq 
  (.reg false [] [⟨(some 20), none, (.mv (.t 1))⟩,
    ⟨(some 21), none, (.len (.t 20))⟩,
    ⟨(some 22), none, (.bin .eql (.t 21) (.k (.lit (.int .i64 0))))⟩,
    ⟨(some 23), none, (.mv (.t 22))⟩,
    ⟨(some 24), (some (23, false)), (.mv (.t 0))⟩,
    ⟨(some 25), (some (23, false)), (.mv (.t 1))⟩,
    ⟨(some 26), (some (23, false)), (.call 107 [(.t 24), (.t 25)])⟩,
    ⟨(some 27), (some (23, false)), (.bin .lss (.t 26) (.k (.lit (.int .i64 0))))⟩,
    ⟨(some 28), none, (.pick (.t 23) (.k (.lit (.bool true))) (.t 27))⟩,
    ⟨(some 19), none, (.mv (.t 28))⟩]) (.cond (.t 19) (.seq 
  (.reg false [] [⟨(some 29), none, (.mv (.t 0))⟩,
    ⟨(some 30), none, (.app 1 8 (.k (.lit (.slice none 0 0))) (.t 29))⟩,
    ⟨(some 4), none, (.mv (.k (.lit (.slice none 0 0))))⟩,
    ⟨(some 5), none, (.mv (.t 30))⟩]) .ret) (.seq 
  (.reg false [] [⟨(some 32), none, (.mv (.t 1))⟩,
    ⟨(some 33), none, (.len (.t 32))⟩,
    ⟨(some 34), none, (.bin .eql (.t 33) (.k (.lit (.int .i64 1))))⟩,
    ⟨(some 31), none, (.mv (.t 34))⟩]) (.cond (.t 31) (.seq 
  (.reg false [] [⟨(some 36), none, (.mv (.t 0))⟩,
    ⟨(some 37), none, (.mv (.t 1))⟩,
    ⟨(some 38), none, (.iad 1 (.t 37) (.k (.lit (.int .i64 0))))⟩,
    ⟨(some 39), none, (.ld false 1 (.t 38))⟩,
    ⟨(some 40), none, (.call 150 [(.t 36), (.t 39)])⟩,
    ⟨(some 35), none, (.mv (.t 40))⟩,
    ⟨(some 41), none, (.ext (.t 35) 0)⟩,
    ⟨(some 42), none, (.ext (.t 35) 1)⟩,
    ⟨(some 6), none, (.mv (.t 41))⟩,
    ⟨(some 7), none, (.mv (.t 42))⟩]) (.seq 
  (.reg false [] [⟨(some 43), none, (.mv (.t 6))⟩,
    ⟨(some 44), none, (.mv (.t 7))⟩,
    ⟨(some 45), none, (.call 82 [(.t 44)])⟩,
    ⟨(some 4), none, (.mv (.t 43))⟩,
    ⟨(some 5), none, (.mv (.t 45))⟩]) .ret)) .skip))))) (.seq 
  (.reg false [] [⟨(some 46), none, (.mv (.t 1))⟩,
    ⟨(some 47), none, (.len (.t 46))⟩,
    ⟨(some 48), none, (.bin .mul (.k (.lit (.int .i64 64))) (.t 47))⟩,
    ⟨(some 49), none, (.mv (.t 1))⟩,
    ⟨(some 50), none, (.call 103 [(.t 49)])⟩,
    ⟨(some 51), none, (.bin .sub (.t 48) (.t 50))⟩,
    ⟨(some 8), none, (.mv (.t 51))⟩]) (.seq 
  (.reg false [] [⟨(some 52), none, (.mv (.t 1))⟩,
    ⟨(some 53), none, (.mv (.t 8))⟩,
    ⟨(some 54), none, (.call 151 [(.t 52), (.t 53)])⟩,
    ⟨(some 9), none, (.mv (.t 54))⟩]) (.seq 
  (.reg false [] [⟨(some 55), none, (.mv (.t 0))⟩,
    ⟨(some 56), none, (.len (.t 55))⟩,
    ⟨(some 57), none, (.bin .add (.t 56) (.k (.lit (.int .i64 1))))⟩,
    ⟨(some 58), none, (.mks 1 8 [(.lit (.int .u64 0))] (.t 57) (.t 57))⟩,
    ⟨(some 10), none, (.mv (.t 58))⟩]) (.seq 
  (.reg false [] [⟨(some 59), none, (.mv (.t 10))⟩,
    ⟨(some 60), none, (.mv (.t 0))⟩,
    ⟨(some 61), none, (.mv (.t 8))⟩,
    ⟨(some 62), none, (.call 151 [(.t 60), (.t 61)])⟩,
    ⟨(some 63), none, (.cpy 1 (.t 59) (.t 62))⟩]) (.seq 
  (.reg false [] [⟨(some 64), none, (.mv (.t 9))⟩,
    ⟨(some 65), none, (.len (.t 64))⟩,
    ⟨(some 11), none, (.mv (.t 65))⟩]) (.seq 
  (.reg false [] [⟨(some 66), none, (.mv (.t 10))⟩,
    ⟨(some 67), none, (.len (.t 66))⟩,
    ⟨(some 68), none, (.mv (.t 11))⟩,
    ⟨(some 69), none, (.bin .sub (.t 67) (.t 68))⟩,
    ⟨(some 70), none, (.mks 1 8 [(.lit (.int .u64 0))] (.t 69) (.t 69))⟩,
    ⟨(some 12), none, (.mv (.t 70))⟩]) (.seq (.seq 
  (.reg false [] [⟨(some 71), none, (.mv (.t 12))⟩,
    ⟨(some 72), none, (.len (.t 71))⟩,
    ⟨(some 73), none, (.bin .sub (.t 72) (.k (.lit (.int .i64 1))))⟩,
    ⟨(some 13), none, (.mv (.t 73))⟩]) (.block 1 (.loop (.seq (.seq 
  (.reg false [] [⟨(some 74), none, (.mv (.t 13))⟩,
    ⟨(some 75), none, (.bin .geq (.t 74) (.k (.lit (.int .i64 0))))⟩]) (.cond (.t 75) .skip (.exit 1))) (.seq (.block 2 (.seq 
  (.reg false [] [⟨(some 78), none, (.mv (.t 10))⟩,
    ⟨(some 79), none, (.mv (.t 13))⟩,
    ⟨(some 80), none, (.mv (.t 13))⟩,
    ⟨(some 81), none, (.mv (.t 11))⟩,
    ⟨(some 82), none, (.bin .add (.t 80) (.t 81))⟩,
    ⟨(some 83), none, (.bin .add (.t 82) (.k (.lit (.int .i64 1))))⟩,
    ⟨(some 84), none, (.sls 1 (.t 78) (some (.t 79)) (some (.t 83)))⟩,
    ⟨(some 14), none, (.mv (.t 84))⟩]) (.seq 
  (.reg false [] [⟨(some 85), none, (.mv (.t 12))⟩,
    ⟨(some 86), none, (.mv (.t 13))⟩,
    ⟨(some 87), none, (.mv (.t 14))⟩,
    ⟨(some 88), none, (.mv (.t 9))⟩,
    ⟨(some 89), none, (.call 152 [(.t 87), (.t 88)])⟩,
    ⟨(some 90), none, (.iad 1 (.t 85) (.t 86))⟩,
    ⟨none, none, (.st 1 (.t 90) (.t 89))⟩]) (.seq 
  (.reg false [] [⟨(some 91), none, (.mv (.t 14))⟩,
    ⟨(some 92), none, (.mv (.t 9))⟩,
    ⟨(some 93), none, (.mv (.t 12))⟩,
    ⟨(some 94), none, (.mv (.t 13))⟩,
    ⟨(some 95), none, (.iad 1 (.t 93) (.t 94))⟩,
    ⟨(some 96), none, (.ld false 1 (.t 95))⟩,
    ⟨(some 97), none, (.call 153 [(.t 91), (.t 92), (.t 96)])⟩]) (.cond (.t 97) (.seq 
  (.reg false [] [⟨(some 98), none, (.mv (.t 12))⟩,
    ⟨(some 99), none, (.mv (.t 13))⟩,
    ⟨(some 100), none, (.iad 1 (.t 98) (.t 99))⟩,
    ⟨(some 101), none, (.ld false 1 (.t 100))⟩,
    ⟨(some 102), none, (.bin .sub (.t 101) (.k (.lit (.int .u64 1))))⟩,
    ⟨(some 103), none, (.iad 1 (.t 98) (.t 99))⟩,
    ⟨none, none, (.st 1 (.t 103) (.t 102))⟩]) 
  (.reg false [] [⟨(some 104), none, (.mv (.t 14))⟩,
    ⟨(some 105), none, (.mv (.t 9))⟩,
    ⟨(some 106), none, (.call 154 [(.t 104), (.t 105)])⟩])) .skip))))) 
  (.reg false [] [⟨(some 76), none, (.mv (.t 13))⟩,
    ⟨(some 77), none, (.bin .sub (.t 76) (.k (.lit (.int .i64 1))))⟩,
    ⟨(some 13), none, (.mv (.t 77))⟩])))))) (.seq 
  (.reg true [[], [0], [], [], [2, 3], [4, 1], [], [5, 6, 5], [1, 7, 0, 1], [7, 8, 0, 1, 2, 3, 4, 5, 6, 7, 8]] [⟨(some 107), none, (.mv (.t 12))⟩,
    ⟨(some 108), none, (.call 106 [(.t 107)])⟩,
    ⟨(some 109), none, (.mv (.t 10))⟩,
    ⟨(some 110), none, (.mv (.t 11))⟩,
    ⟨(some 111), none, (.sls 1 (.t 109) none (some (.t 110)))⟩,
    ⟨(some 112), none, (.call 106 [(.t 111)])⟩,
    ⟨(some 113), none, (.mv (.t 8))⟩,
    ⟨(some 114), none, (.call 155 [(.t 112), (.t 113)])⟩,
    ⟨(some 4), none, (.mv (.t 108))⟩,
    ⟨(some 5), none, (.mv (.t 114))⟩]) .ret)))))))))))
theorem cf102 : compF Tryz.prog 102 = some ⟨115, ac102, [(.tmp 4), (.tmp 5)]⟩ := by kernel_rfl

def ac100 : AC := (.seq 
  (.reg false [] [⟨(some 4), none, (.mv (.k (.lit (.slice none 0 0))))⟩]) (.seq 
  (.reg false [] [⟨(some 9), none, (.mv (.t 0))⟩,
    ⟨(some 10), none, (.call 106 [(.t 9)])⟩,
    ⟨(some 11), none, (.mv (.t 1))⟩,
    ⟨(some 12), none, (.call 106 [(.t 11)])⟩,
    ⟨(some 0), none, (.mv (.t 10))⟩,
    ⟨(some 1), none, (.mv (.t 12))⟩]) (.seq (.block 0 (.seq 
  (.reg false [] [⟨(some 14), none, (.mv (.t 0))⟩,
    ⟨(some 15), none, (.len (.t 14))⟩,
    ⟨(some 16), none, (.bin .eql (.t 15) (.k (.lit (.int .i64 0))))⟩,
    ⟨(some 13), none, (.mv (.t 16))⟩]) (.cond (.t 13) (.seq 
  (.reg false [] [⟨(some 17), none, (.mv (.t 1))⟩,
    ⟨(some 18), none, (.app 1 8 (.k (.lit (.slice none 0 0))) (.t 17))⟩,
    ⟨(some 4), none, (.mv (.t 18))⟩]) .ret) (.seq 
  (.reg false [] [⟨(some 20), none, (.mv (.t 1))⟩,
    ⟨(some 21), none, (.len (.t 20))⟩,
    ⟨(some 22), none, (.bin .eql (.t 21) (.k (.lit (.int .i64 0))))⟩,
    ⟨(some 19), none, (.mv (.t 22))⟩]) (.cond (.t 19) (.seq 
  (.reg false [] [⟨(some 23), none, (.mv (.t 0))⟩,
    ⟨(some 24), none, (.app 1 8 (.k (.lit (.slice none 0 0))) (.t 23))⟩,
    ⟨(some 4), none, (.mv (.t 24))⟩]) .ret) .skip))))) (.seq (.block 1 (.loop (.seq (.seq 
  (.reg false [] [⟨(some 25), none, (.mv (.t 1))⟩,
    ⟨(some 26), none, (.len (.t 25))⟩,
    ⟨(some 27), none, (.bin .gtr (.t 26) (.k (.lit (.int .i64 1))))⟩,
    ⟨(some 28), none, (.mv (.t 27))⟩,
    ⟨(some 29), (some (28, false)), (.mv (.t 1))⟩,
    ⟨(some 30), (some (28, false)), (.len (.t 29))⟩,
    ⟨(some 31), (some (28, false)), (.bin .eql (.t 30) (.k (.lit (.int .i64 1))))⟩,
    ⟨(some 32), (some (28, false)), (.mv (.t 31))⟩,
    ⟨(some 33), (some (32, true)), (.mv (.t 0))⟩,
    ⟨(some 34), (some (32, true)), (.len (.t 33))⟩,
    ⟨(some 35), (some (32, true)), (.bin .gtr (.t 34) (.k (.lit (.int .i64 1))))⟩,
    ⟨(some 36), (some (28, false)), (.pick (.t 32) (.t 35) (.k (.lit (.bool false))))⟩,
    ⟨(some 37), none, (.pick (.t 28) (.k (.lit (.bool true))) (.t 36))⟩]) (.cond (.t 37) .skip (.exit 1))) (.block 2 (.seq 
  (.reg false [] [⟨(some 39), none, (.mv (.t 0))⟩,
    ⟨(some 40), none, (.mv (.t 1))⟩,
    ⟨(some 41), none, (.call 102 [(.t 39), (.t 40)])⟩,
    ⟨(some 38), none, (.mv (.t 41))⟩,
    ⟨(some 42), none, (.ext (.t 38) 0)⟩,
    ⟨(some 43), none, (.ext (.t 38) 1)⟩,
    ⟨(some 5), none, (.mv (.t 42))⟩,
    ⟨(some 6), none, (.mv (.t 43))⟩]) 
  (.reg false [] [⟨(some 44), none, (.mv (.t 1))⟩,
    ⟨(some 45), none, (.mv (.t 6))⟩,
    ⟨(some 0), none, (.mv (.t 44))⟩,
    ⟨(some 1), none, (.mv (.t 45))⟩])))))) (.seq (.seq 
  (.reg false [] [⟨(some 46), none, (.mv (.t 1))⟩,
    ⟨(some 47), none, (.len (.t 46))⟩,
    ⟨(some 48), none, (.bin .eql (.t 47) (.k (.lit (.int .i64 0))))⟩]) (.cond (.t 48) (.seq 
  (.reg false [] [⟨(some 49), none, (.mv (.t 0))⟩,
    ⟨(some 50), none, (.app 1 8 (.k (.lit (.slice none 0 0))) (.t 49))⟩,
    ⟨(some 4), none, (.mv (.t 50))⟩]) .ret) .skip)) (.seq 
  (.reg true [[], [0], [1], [], [3], [4], [2, 0, 1, 2], [5, 6, 0, 1, 2, 3, 4, 5, 6]] [⟨(some 51), none, (.mv (.t 0))⟩,
    ⟨(some 52), none, (.iad 1 (.t 51) (.k (.lit (.int .i64 0))))⟩,
    ⟨(some 53), none, (.ld false 1 (.t 52))⟩,
    ⟨(some 54), none, (.mv (.t 1))⟩,
    ⟨(some 55), none, (.iad 1 (.t 54) (.k (.lit (.int .i64 0))))⟩,
    ⟨(some 56), none, (.ld false 1 (.t 55))⟩,
    ⟨(some 7), none, (.mv (.t 53))⟩,
    ⟨(some 8), none, (.mv (.t 56))⟩]) (.seq (.block 3 (.loop (.seq (.seq 
  (.reg false [] [⟨(some 57), none, (.mv (.t 8))⟩,
    ⟨(some 58), none, (.bin .gtr (.t 57) (.k (.lit (.int .u64 0))))⟩]) (.cond (.t 58) .skip (.exit 3))) (.block 4 
  (.reg true [[], [], [], [1, 2], [0, 0, 1], [3, 4, 0, 1, 2, 3, 4]] [⟨(some 59), none, (.mv (.t 8))⟩,
    ⟨(some 60), none, (.mv (.t 7))⟩,
    ⟨(some 61), none, (.mv (.t 8))⟩,
    ⟨(some 62), none, (.bin .rem (.t 60) (.t 61))⟩,
    ⟨(some 7), none, (.mv (.t 59))⟩,
    ⟨(some 8), none, (.mv (.t 62))⟩]))))) (.seq 
  (.reg false [] [⟨(some 63), none, (.mv (.t 7))⟩,
    ⟨(some 64), none, (.call 82 [(.t 63)])⟩,
    ⟨(some 4), none, (.mv (.t 64))⟩]) .ret))))))))
theorem cf100 : compF Tryz.prog 100 = some ⟨65, ac100, [(.tmp 4)]⟩ := by kernel_rfl

def ac104 : AC := (.seq 
  (.reg false [] [⟨(some 4), none, (.mv (.k (.lit (.int .u64 0))))⟩,
    ⟨(some 5), none, (.mv (.k (.lit (.int .u64 0))))⟩]) (.seq 
  (.reg false [] [⟨(some 14), none, (.mv (.t 0))⟩,
    ⟨(some 15), none, (.bin .and (.t 14) (.k (.lit (.int .u64 4294967295))))⟩,
    ⟨(some 6), none, (.mv (.t 15))⟩]) (.seq 
  (.reg false [] [⟨(some 16), none, (.mv (.t 0))⟩,
    ⟨(some 17), none, (.bin .shr (.t 16) (.k (.lit (.int .u64 32))))⟩,
    ⟨(some 7), none, (.mv (.t 17))⟩]) (.seq 
  (.reg false [] [⟨(some 18), none, (.mv (.t 1))⟩,
    ⟨(some 19), none, (.bin .and (.t 18) (.k (.lit (.int .u64 4294967295))))⟩,
    ⟨(some 8), none, (.mv (.t 19))⟩]) (.seq 
  (.reg false [] [⟨(some 20), none, (.mv (.t 1))⟩,
    ⟨(some 21), none, (.bin .shr (.t 20) (.k (.lit (.int .u64 32))))⟩,
    ⟨(some 9), none, (.mv (.t 21))⟩]) (.seq 
  (.reg false [] [⟨(some 22), none, (.mv (.t 6))⟩,
    ⟨(some 23), none, (.mv (.t 8))⟩,
    ⟨(some 24), none, (.bin .mul (.t 22) (.t 23))⟩,
    ⟨(some 10), none, (.mv (.t 24))⟩]) (.seq 
  (.reg false [] [⟨(some 25), none, (.mv (.t 7))⟩,
    ⟨(some 26), none, (.mv (.t 8))⟩,
    ⟨(some 27), none, (.bin .mul (.t 25) (.t 26))⟩,
    ⟨(some 28), none, (.mv (.t 10))⟩,
    ⟨(some 29), none, (.bin .shr (.t 28) (.k (.lit (.int .u64 32))))⟩,
    ⟨(some 30), none, (.bin .add (.t 27) (.t 29))⟩,
    ⟨(some 11), none, (.mv (.t 30))⟩]) (.seq 
  (.reg false [] [⟨(some 31), none, (.mv (.t 11))⟩,
    ⟨(some 32), none, (.bin .and (.t 31) (.k (.lit (.int .u64 4294967295))))⟩,
    ⟨(some 12), none, (.mv (.t 32))⟩]) (.seq 
  (.reg false [] [⟨(some 33), none, (.mv (.t 11))⟩,
    ⟨(some 34), none, (.bin .shr (.t 33) (.k (.lit (.int .u64 32))))⟩,
    ⟨(some 13), none, (.mv (.t 34))⟩]) (.seq 
  (.reg false [] [⟨(some 35), none, (.mv (.t 12))⟩,
    ⟨(some 36), none, (.mv (.t 6))⟩,
    ⟨(some 37), none, (.mv (.t 9))⟩,
    ⟨(some 38), none, (.bin .mul (.t 36) (.t 37))⟩,
    ⟨(some 39), none, (.bin .add (.t 35) (.t 38))⟩,
    ⟨(some 12), none, (.mv (.t 39))⟩]) (.seq 
  (.reg false [] [⟨(some 40), none, (.mv (.t 7))⟩,
    ⟨(some 41), none, (.mv (.t 9))⟩,
    ⟨(some 42), none, (.bin .mul (.t 40) (.t 41))⟩,
    ⟨(some 43), none, (.mv (.t 13))⟩,
    ⟨(some 44), none, (.bin .add (.t 42) (.t 43))⟩,
    ⟨(some 45), none, (.mv (.t 12))⟩,
    ⟨(some 46), none, (.bin .shr (.t 45) (.k (.lit (.int .u64 32))))⟩,
    ⟨(some 47), none, (.bin .add (.t 44) (.t 46))⟩,
    ⟨(some 4), none, (.mv (.t 47))⟩]) (.seq 
  (.reg false [] [⟨(some 48), none, (.mv (.t 0))⟩,
    ⟨(some 49), none, (.mv (.t 1))⟩,
    ⟨(some 50), none, (.bin .mul (.t 48) (.t 49))⟩,
    ⟨(some 5), none, (.mv (.t 50))⟩]) .ret))))))))))))
theorem cf104 : compF Tryz.prog 104 = some ⟨51, ac104, [(.tmp 4), (.tmp 5)]⟩ := by kernel_rfl

def ac171 : AC := (.seq 
  (.reg false [] [⟨(some 6), none, (.mv (.k (.lit (.int .u64 0))))⟩,
    ⟨(some 7), none, (.mv (.k (.lit (.int .u64 0))))⟩]) (.seq (.seq 
  (.reg false [] [⟨(some 19), none, (.mv (.t 2))⟩,
    ⟨(some 20), none, (.bin .eql (.t 19) (.k (.lit (.int .u64 0))))⟩]) (.cond (.t 20) .no .skip)) (.seq (.seq 
  (.reg false [] [⟨(some 22), none, (.mv (.t 2))⟩,
    ⟨(some 23), none, (.mv (.t 0))⟩,
    ⟨(some 24), none, (.bin .leq (.t 22) (.t 23))⟩]) (.cond (.t 24) .no .skip)) (.seq (.seq 
  (.reg false [] [⟨(some 26), none, (.mv (.t 0))⟩,
    ⟨(some 27), none, (.bin .eql (.t 26) (.k (.lit (.int .u64 0))))⟩]) (.cond (.t 27) (.seq 
  (.reg true [[], [], [0, 1], [], [], [3, 4], [2, 0, 1, 2], [5, 6, 0, 1, 2, 3, 4, 5, 6]] [⟨(some 28), none, (.mv (.t 1))⟩,
    ⟨(some 29), none, (.mv (.t 2))⟩,
    ⟨(some 30), none, (.bin .quo (.t 28) (.t 29))⟩,
    ⟨(some 31), none, (.mv (.t 1))⟩,
    ⟨(some 32), none, (.mv (.t 2))⟩,
    ⟨(some 33), none, (.bin .rem (.t 31) (.t 32))⟩,
    ⟨(some 6), none, (.mv (.t 30))⟩,
    ⟨(some 7), none, (.mv (.t 33))⟩]) .ret) .skip)) (.seq 
  (.reg false [] [⟨(some 34), none, (.mv (.t 2))⟩,
    ⟨(some 35), none, (.call 175 [(.t 34)])⟩,
    ⟨(some 36), none, (.cv .u64 (.t 35))⟩,
    ⟨(some 8), none, (.mv (.t 36))⟩]) (.seq 
  (.reg false [] [⟨(some 37), none, (.mv (.t 2))⟩,
    ⟨(some 38), none, (.mv (.t 8))⟩,
    ⟨(some 39), none, (.bin .shl (.t 37) (.t 38))⟩,
    ⟨(some 2), none, (.mv (.t 39))⟩]) (.seq 
  (.reg false [] [⟨(some 40), none, (.mv (.t 2))⟩,
    ⟨(some 41), none, (.bin .shr (.t 40) (.k (.lit (.int .u64 32))))⟩,
    ⟨(some 9), none, (.mv (.t 41))⟩]) (.seq 
  (.reg false [] [⟨(some 42), none, (.mv (.t 2))⟩,
    ⟨(some 43), none, (.bin .and (.t 42) (.k (.lit (.int .u64 4294967295))))⟩,
    ⟨(some 10), none, (.mv (.t 43))⟩]) (.seq 
  (.reg false [] [⟨(some 44), none, (.mv (.t 0))⟩,
    ⟨(some 45), none, (.mv (.t 8))⟩,
    ⟨(some 46), none, (.bin .shl (.t 44) (.t 45))⟩,
    ⟨(some 47), none, (.mv (.t 1))⟩,
    ⟨(some 48), none, (.mv (.t 8))⟩,
    ⟨(some 49), none, (.bin .sub (.k (.lit (.int .u64 64))) (.t 48))⟩,
    ⟨(some 50), none, (.bin .shr (.t 47) (.t 49))⟩,
    ⟨(some 51), none, (.bin .or (.t 46) (.t 50))⟩,
    ⟨(some 11), none, (.mv (.t 51))⟩]) (.seq 
  (.reg false [] [⟨(some 52), none, (.mv (.t 1))⟩,
    ⟨(some 53), none, (.mv (.t 8))⟩,
    ⟨(some 54), none, (.bin .shl (.t 52) (.t 53))⟩,
    ⟨(some 12), none, (.mv (.t 54))⟩]) (.seq 
  (.reg false [] [⟨(some 55), none, (.mv (.t 12))⟩,
    ⟨(some 56), none, (.bin .shr (.t 55) (.k (.lit (.int .u64 32))))⟩,
    ⟨(some 13), none, (.mv (.t 56))⟩]) (.seq 
  (.reg false [] [⟨(some 57), none, (.mv (.t 12))⟩,
    ⟨(some 58), none, (.bin .and (.t 57) (.k (.lit (.int .u64 4294967295))))⟩,
    ⟨(some 14), none, (.mv (.t 58))⟩]) (.seq 
  (.reg false [] [⟨(some 59), none, (.mv (.t 11))⟩,
    ⟨(some 60), none, (.mv (.t 9))⟩,
    ⟨(some 61), none, (.bin .quo (.t 59) (.t 60))⟩,
    ⟨(some 15), none, (.mv (.t 61))⟩]) (.seq 
  (.reg false [] [⟨(some 62), none, (.mv (.t 11))⟩,
    ⟨(some 63), none, (.mv (.t 15))⟩,
    ⟨(some 64), none, (.mv (.t 9))⟩,
    ⟨(some 65), none, (.bin .mul (.t 63) (.t 64))⟩,
    ⟨(some 66), none, (.bin .sub (.t 62) (.t 65))⟩,
    ⟨(some 16), none, (.mv (.t 66))⟩]) (.seq (.block 0 (.loop (.seq (.seq 
  (.reg false [] [⟨(some 67), none, (.mv (.t 15))⟩,
    ⟨(some 68), none, (.bin .geq (.t 67) (.k (.lit (.int .u64 4294967296))))⟩,
    ⟨(some 69), none, (.mv (.t 68))⟩,
    ⟨(some 70), (some (69, false)), (.mv (.t 15))⟩,
    ⟨(some 71), (some (69, false)), (.mv (.t 10))⟩,
    ⟨(some 72), (some (69, false)), (.bin .mul (.t 70) (.t 71))⟩,
    ⟨(some 73), (some (69, false)), (.mv (.t 16))⟩,
    ⟨(some 74), (some (69, false)), (.bin .mul (.k (.lit (.int .u64 4294967296))) (.t 73))⟩,
    ⟨(some 75), (some (69, false)), (.mv (.t 13))⟩,
    ⟨(some 76), (some (69, false)), (.bin .add (.t 74) (.t 75))⟩,
    ⟨(some 77), (some (69, false)), (.bin .gtr (.t 72) (.t 76))⟩,
    ⟨(some 78), none, (.pick (.t 69) (.k (.lit (.bool true))) (.t 77))⟩]) (.cond (.t 78) .skip (.exit 0))) (.block 1 (.seq 
  (.reg false [] [⟨(some 79), none, (.mv (.t 15))⟩,
    ⟨(some 80), none, (.bin .sub (.t 79) (.k (.lit (.int .u64 1))))⟩,
    ⟨(some 15), none, (.mv (.t 80))⟩]) (.seq 
  (.reg false [] [⟨(some 81), none, (.mv (.t 16))⟩,
    ⟨(some 82), none, (.mv (.t 9))⟩,
    ⟨(some 83), none, (.bin .add (.t 81) (.t 82))⟩,
    ⟨(some 16), none, (.mv (.t 83))⟩]) (.seq 
  (.reg false [] [⟨(some 84), none, (.mv (.t 16))⟩,
    ⟨(some 85), none, (.bin .geq (.t 84) (.k (.lit (.int .u64 4294967296))))⟩]) (.cond (.t 85) (.exit 0) .skip)))))))) (.seq 
  (.reg false [] [⟨(some 86), none, (.mv (.t 11))⟩,
    ⟨(some 87), none, (.bin .mul (.t 86) (.k (.lit (.int .u64 4294967296))))⟩,
    ⟨(some 88), none, (.mv (.t 13))⟩,
    ⟨(some 89), none, (.bin .add (.t 87) (.t 88))⟩,
    ⟨(some 90), none, (.mv (.t 15))⟩,
    ⟨(some 91), none, (.mv (.t 2))⟩,
    ⟨(some 92), none, (.bin .mul (.t 90) (.t 91))⟩,
    ⟨(some 93), none, (.bin .sub (.t 89) (.t 92))⟩,
    ⟨(some 17), none, (.mv (.t 93))⟩]) (.seq 
  (.reg false [] [⟨(some 94), none, (.mv (.t 17))⟩,
    ⟨(some 95), none, (.mv (.t 9))⟩,
    ⟨(some 96), none, (.bin .quo (.t 94) (.t 95))⟩,
    ⟨(some 18), none, (.mv (.t 96))⟩]) (.seq 
  (.reg false [] [⟨(some 97), none, (.mv (.t 17))⟩,
    ⟨(some 98), none, (.mv (.t 18))⟩,
    ⟨(some 99), none, (.mv (.t 9))⟩,
    ⟨(some 100), none, (.bin .mul (.t 98) (.t 99))⟩,
    ⟨(some 101), none, (.bin .sub (.t 97) (.t 100))⟩,
    ⟨(some 16), none, (.mv (.t 101))⟩]) (.seq (.block 2 (.loop (.seq (.seq 
  (.reg false [] [⟨(some 102), none, (.mv (.t 18))⟩,
    ⟨(some 103), none, (.bin .geq (.t 102) (.k (.lit (.int .u64 4294967296))))⟩,
    ⟨(some 104), none, (.mv (.t 103))⟩,
    ⟨(some 105), (some (104, false)), (.mv (.t 18))⟩,
    ⟨(some 106), (some (104, false)), (.mv (.t 10))⟩,
    ⟨(some 107), (some (104, false)), (.bin .mul (.t 105) (.t 106))⟩,
    ⟨(some 108), (some (104, false)), (.mv (.t 16))⟩,
    ⟨(some 109), (some (104, false)), (.bin .mul (.k (.lit (.int .u64 4294967296))) (.t 108))⟩,
    ⟨(some 110), (some (104, false)), (.mv (.t 14))⟩,
    ⟨(some 111), (some (104, false)), (.bin .add (.t 109) (.t 110))⟩,
    ⟨(some 112), (some (104, false)), (.bin .gtr (.t 107) (.t 111))⟩,
    ⟨(some 113), none, (.pick (.t 104) (.k (.lit (.bool true))) (.t 112))⟩]) (.cond (.t 113) .skip (.exit 2))) (.block 3 (.seq 
  (.reg false [] [⟨(some 114), none, (.mv (.t 18))⟩,
    ⟨(some 115), none, (.bin .sub (.t 114) (.k (.lit (.int .u64 1))))⟩,
    ⟨(some 18), none, (.mv (.t 115))⟩]) (.seq 
  (.reg false [] [⟨(some 116), none, (.mv (.t 16))⟩,
    ⟨(some 117), none, (.mv (.t 9))⟩,
    ⟨(some 118), none, (.bin .add (.t 116) (.t 117))⟩,
    ⟨(some 16), none, (.mv (.t 118))⟩]) (.seq 
  (.reg false [] [⟨(some 119), none, (.mv (.t 16))⟩,
    ⟨(some 120), none, (.bin .geq (.t 119) (.k (.lit (.int .u64 4294967296))))⟩]) (.cond (.t 120) (.exit 2) .skip)))))))) (.seq 
  (.reg false [] [⟨(some 121), none, (.mv (.t 15))⟩,
    ⟨(some 122), none, (.bin .mul (.t 121) (.k (.lit (.int .u64 4294967296))))⟩,
    ⟨(some 123), none, (.mv (.t 18))⟩,
    ⟨(some 124), none, (.bin .add (.t 122) (.t 123))⟩,
    ⟨(some 125), none, (.mv (.t 17))⟩,
    ⟨(some 126), none, (.bin .mul (.t 125) (.k (.lit (.int .u64 4294967296))))⟩,
    ⟨(some 127), none, (.mv (.t 14))⟩,
    ⟨(some 128), none, (.bin .add (.t 126) (.t 127))⟩,
    ⟨(some 129), none, (.mv (.t 18))⟩,
    ⟨(some 130), none, (.mv (.t 2))⟩,
    ⟨(some 131), none, (.bin .mul (.t 129) (.t 130))⟩,
    ⟨(some 132), none, (.bin .sub (.t 128) (.t 131))⟩,
    ⟨(some 133), none, (.mv (.t 8))⟩,
    ⟨(some 134), none, (.bin .shr (.t 132) (.t 133))⟩,
    ⟨(some 6), none, (.mv (.t 124))⟩,
    ⟨(some 7), none, (.mv (.t 134))⟩]) .ret))))))))))))))))))))
theorem cf171 : compF Tryz.prog 171 = some ⟨135, ac171, [(.tmp 6), (.tmp 7)]⟩ := by kernel_rfl

end Iso

/- The compiled code of functions. -/
namespace Iso
open Go Go.Proofs

def ac96 : AC := (.seq 
  (.reg false [] [⟨(some 4), none, (.new [(.lit (.bool false)), (.lit (.slice none 0 0))])⟩]) (.seq 
  (.reg false [] [⟨(some 5), none, (.mv (.t 1))⟩,
    ⟨(some 6), none, (.call 101 [(.t 5), (.k (.lit (.slice none 0 0)))])⟩,
    ⟨(some 1), none, (.mv (.t 6))⟩]) (.seq 
  (.reg false [] [⟨(some 7), none, (.mv (.t 0))⟩,
    ⟨(some 8), none, (.mv (.t 7))⟩,
    ⟨(some 9), (some (8, true)), (.mv (.t 1))⟩,
    ⟨(some 10), (some (8, true)), (.len (.t 9))⟩,
    ⟨(some 11), (some (8, true)), (.bin .gtr (.t 10) (.k (.lit (.int .i64 0))))⟩,
    ⟨(some 12), none, (.pick (.t 8) (.t 11) (.k (.lit (.bool false))))⟩,
    ⟨(some 13), none, (.mv (.t 1))⟩,
    ⟨(some 14), none, (.bld [(.lit (.bool false)), (.lit (.slice none 0 0))] [(0, (1, (.t 12))), (1, (1, (.t 13)))])⟩,
    ⟨none, none, (.st 2 (.t 4) (.t 14))⟩]) .ret)))
theorem cf96 : compF Tryz.prog 96 = some ⟨15, ac96, [(.cell 4 true 2)]⟩ := by kernel_rfl

def ac45 : AC := (.seq 
  (.reg false [] [⟨(some 2), none, (.new [(.lit (.bool false)), (.lit (.slice none 0 0))])⟩]) (.seq (.seq 
  (.reg false [] [⟨(some 3), none, (.mv (.t 0))⟩,
    ⟨(some 4), none, (.bin .lss (.t 3) (.k (.lit (.int .i64 0))))⟩]) (.cond (.t 4) (.seq 
  (.reg false [] [⟨(some 5), none, (.mv (.t 0))⟩,
    ⟨(some 6), none, (.cv .u64 (.t 5))⟩,
    ⟨(some 7), none, (.un .neg (.t 6))⟩,
    ⟨(some 8), none, (.call 82 [(.t 7)])⟩,
    ⟨(some 9), none, (.bld [(.lit (.bool false)), (.lit (.slice none 0 0))] [(0, (1, (.k (.lit (.bool true))))), (1, (1, (.t 8)))])⟩,
    ⟨none, none, (.st 2 (.t 2) (.t 9))⟩]) .ret) .skip)) (.seq 
  (.reg false [] [⟨(some 10), none, (.mv (.t 0))⟩,
    ⟨(some 11), none, (.cv .u64 (.t 10))⟩,
    ⟨(some 12), none, (.call 82 [(.t 11)])⟩,
    ⟨(some 13), none, (.bld [(.lit (.bool false)), (.lit (.slice none 0 0))] [(0, (1, (.k (.lit (.bool false))))), (1, (1, (.t 12)))])⟩,
    ⟨none, none, (.st 2 (.t 2) (.t 13))⟩]) .ret)))
theorem cf45 : compF Tryz.prog 45 = some ⟨14, ac45, [(.cell 2 true 2)]⟩ := by kernel_rfl

def ac61 : AC := (.seq 
  (.reg false [] [⟨(some 1), none, (.box (.t 0))⟩,
    ⟨(some 2), none, (.new [(.lit (.bool false)), (.lit (.slice none 0 0))])⟩]) (.seq 
  (.reg false [] [⟨(some 3), none, (.fad 0 (.t 1))⟩,
    ⟨(some 4), none, (.ld false 1 (.t 3))⟩,
    ⟨(some 5), none, (.un .not (.t 4))⟩,
    ⟨(some 6), none, (.fad 1 (.t 1))⟩,
    ⟨(some 7), none, (.ld false 1 (.t 6))⟩,
    ⟨(some 8), none, (.call 96 [(.t 5), (.t 7)])⟩,
    ⟨none, none, (.st 2 (.t 2) (.t 8))⟩]) .ret))
theorem cf61 : compF Tryz.prog 61 = some ⟨9, ac61, [(.cell 2 true 2)]⟩ := by kernel_rfl

def ac64 : AC := (.seq 
  (.reg false [] [⟨(some 2), none, (.box (.t 0))⟩,
    ⟨(some 3), none, (.box (.t 1))⟩,
    ⟨(some 4), none, (.new [(.lit (.bool false)), (.lit (.slice none 0 0))])⟩]) (.seq (.seq 
  (.reg false [] [⟨(some 5), none, (.fad 0 (.t 2))⟩,
    ⟨(some 6), none, (.ld false 1 (.t 5))⟩,
    ⟨(some 7), none, (.fad 0 (.t 3))⟩,
    ⟨(some 8), none, (.ld false 1 (.t 7))⟩,
    ⟨(some 9), none, (.eqb false (.t 6) (.t 8))⟩]) (.cond (.t 9) (.seq 
  (.reg true [[], [0], [], [2], [], [4], [3, 5], [1, 6, 6], [7, 7, 0, 1, 2, 3, 4, 5, 6, 7]] [⟨(some 10), none, (.fad 0 (.t 2))⟩,
    ⟨(some 11), none, (.ld false 1 (.t 10))⟩,
    ⟨(some 12), none, (.fad 1 (.t 2))⟩,
    ⟨(some 13), none, (.ld false 1 (.t 12))⟩,
    ⟨(some 14), none, (.fad 1 (.t 3))⟩,
    ⟨(some 15), none, (.ld false 1 (.t 14))⟩,
    ⟨(some 16), none, (.call 101 [(.t 13), (.t 15)])⟩,
    ⟨(some 17), none, (.call 96 [(.t 11), (.t 16)])⟩,
    ⟨none, none, (.st 2 (.t 4) (.t 17))⟩]) .ret) .skip)) (.seq (.seq 
  (.reg false [] [⟨(some 18), none, (.fad 1 (.t 2))⟩,
    ⟨(some 19), none, (.ld false 1 (.t 18))⟩,
    ⟨(some 20), none, (.fad 1 (.t 3))⟩,
    ⟨(some 21), none, (.ld false 1 (.t 20))⟩,
    ⟨(some 22), none, (.call 107 [(.t 19), (.t 21)])⟩,
    ⟨(some 23), none, (.bin .geq (.t 22) (.k (.lit (.int .i64 0))))⟩]) (.cond (.t 23) (.seq 
  (.reg true [[], [0], [], [2], [], [4], [3, 5], [1, 6, 6], [7, 7, 0, 1, 2, 3, 4, 5, 6, 7]] [⟨(some 24), none, (.fad 0 (.t 2))⟩,
    ⟨(some 25), none, (.ld false 1 (.t 24))⟩,
    ⟨(some 26), none, (.fad 1 (.t 2))⟩,
    ⟨(some 27), none, (.ld false 1 (.t 26))⟩,
    ⟨(some 28), none, (.fad 1 (.t 3))⟩,
    ⟨(some 29), none, (.ld false 1 (.t 28))⟩,
    ⟨(some 30), none, (.call 108 [(.t 27), (.t 29)])⟩,
    ⟨(some 31), none, (.call 96 [(.t 25), (.t 30)])⟩,
    ⟨none, none, (.st 2 (.t 4) (.t 31))⟩]) .ret) .skip)) (.seq 
  (.reg true [[], [0], [], [2], [], [4], [3, 5], [1, 6, 6], [7, 7, 0, 1, 2, 3, 4, 5, 6, 7]] [⟨(some 32), none, (.fad 0 (.t 3))⟩,
    ⟨(some 33), none, (.ld false 1 (.t 32))⟩,
    ⟨(some 34), none, (.fad 1 (.t 3))⟩,
    ⟨(some 35), none, (.ld false 1 (.t 34))⟩,
    ⟨(some 36), none, (.fad 1 (.t 2))⟩,
    ⟨(some 37), none, (.ld false 1 (.t 36))⟩,
    ⟨(some 38), none, (.call 108 [(.t 35), (.t 37)])⟩,
    ⟨(some 39), none, (.call 96 [(.t 33), (.t 38)])⟩,
    ⟨none, none, (.st 2 (.t 4) (.t 39))⟩]) .ret))))
theorem cf64 : compF Tryz.prog 64 = some ⟨40, ac64, [(.cell 4 true 2)]⟩ := by kernel_rfl

def ac56 : AC := (.seq 
  (.reg false [] [⟨(some 2), none, (.box (.t 0))⟩,
    ⟨(some 3), none, (.box (.t 1))⟩,
    ⟨(some 4), none, (.new [(.lit (.bool false)), (.lit (.slice none 0 0))])⟩]) (.seq 
  (.reg true [[], [0], [], [2], [1, 3], [], [5], [], [7], [6, 8], [4, 9, 9], [10, 10, 0, 1, 2, 3, 4, 5, 6, 7, 8, 9, 10]] [⟨(some 5), none, (.fad 0 (.t 2))⟩,
    ⟨(some 6), none, (.ld false 1 (.t 5))⟩,
    ⟨(some 7), none, (.fad 0 (.t 3))⟩,
    ⟨(some 8), none, (.ld false 1 (.t 7))⟩,
    ⟨(some 9), none, (.eqb true (.t 6) (.t 8))⟩,
    ⟨(some 10), none, (.fad 1 (.t 2))⟩,
    ⟨(some 11), none, (.ld false 1 (.t 10))⟩,
    ⟨(some 12), none, (.fad 1 (.t 3))⟩,
    ⟨(some 13), none, (.ld false 1 (.t 12))⟩,
    ⟨(some 14), none, (.call 63 [(.t 11), (.t 13)])⟩,
    ⟨(some 15), none, (.call 96 [(.t 9), (.t 14)])⟩,
    ⟨none, none, (.st 2 (.t 4) (.t 15))⟩]) .ret))
theorem cf56 : compF Tryz.prog 56 = some ⟨16, ac56, [(.cell 4 true 2)]⟩ := by kernel_rfl

def ac66 : AC := (.seq 
  (.reg false [] [⟨(some 1), none, (.box (.t 0))⟩,
    ⟨(some 2), none, (.mv (.k (.lit (.int .i64 0))))⟩]) (.seq (.block 0 (.seq 
  (.reg false [] [⟨(some 4), none, (.fad 1 (.t 1))⟩,
    ⟨(some 5), none, (.ld false 1 (.t 4))⟩,
    ⟨(some 6), none, (.call 103 [(.t 5)])⟩,
    ⟨(some 7), none, (.bin .eql (.t 6) (.k (.lit (.int .i64 0))))⟩,
    ⟨(some 3), none, (.mv (.t 7))⟩]) (.cond (.t 3) (.seq 
  (.reg false [] [⟨(some 2), none, (.mv (.k (.lit (.int .i64 0))))⟩]) .ret) (.seq 
  (.reg false [] [⟨(some 9), none, (.fad 0 (.t 1))⟩,
    ⟨(some 10), none, (.ld false 1 (.t 9))⟩,
    ⟨(some 8), none, (.mv (.t 10))⟩]) (.cond (.t 8) (.seq 
  (.reg false [] [⟨(some 2), none, (.mv (.k (.lit (.int .i64 (-1)))))⟩]) .ret) .skip))))) (.seq 
  (.reg false [] [⟨(some 2), none, (.mv (.k (.lit (.int .i64 1))))⟩]) .ret)))
theorem cf66 : compF Tryz.prog 66 = some ⟨11, ac66, [(.tmp 2)]⟩ := by kernel_rfl

def ac98 : AC := (.seq 
  (.reg false [] [⟨(some 2), none, (.box (.t 0))⟩,
    ⟨(some 3), none, (.box (.t 1))⟩,
    ⟨(some 4), none, (.new [(.lit (.bool false)), (.lit (.slice none 0 0))])⟩]) (.seq 
  (.reg true [[], [], [1], [0, 2, 2], [3, 3, 0, 1, 2, 3]] [⟨(some 5), none, (.ld true 2 (.t 2))⟩,
    ⟨(some 6), none, (.ld true 2 (.t 3))⟩,
    ⟨(some 7), none, (.call 61 [(.t 6)])⟩,
    ⟨(some 8), none, (.call 64 [(.t 5), (.t 7)])⟩,
    ⟨none, none, (.st 2 (.t 4) (.t 8))⟩]) .ret))
theorem cf98 : compF Tryz.prog 98 = some ⟨9, ac98, [(.cell 4 true 2)]⟩ := by kernel_rfl

def ac80 : AC := (.seq 
  (.reg false [] [⟨(some 2), none, (.box (.t 0))⟩,
    ⟨(some 3), none, (.box (.t 1))⟩,
    ⟨(some 4), none, (.mv (.k (.lit (.int .i64 0))))⟩]) (.seq 
  (.reg true [[], [0], [], [2, 1], [1, 3, 0, 1], [3, 4, 0, 1, 2, 3, 4]] [⟨(some 7), none, (.ld true 2 (.t 2))⟩,
    ⟨(some 8), none, (.call 66 [(.t 7)])⟩,
    ⟨(some 9), none, (.ld true 2 (.t 3))⟩,
    ⟨(some 10), none, (.call 66 [(.t 9)])⟩,
    ⟨(some 5), none, (.mv (.t 8))⟩,
    ⟨(some 6), none, (.mv (.t 10))⟩]) (.seq (.block 0 (.seq 
  (.reg false [] [⟨(some 12), none, (.mv (.t 5))⟩,
    ⟨(some 13), none, (.mv (.t 6))⟩,
    ⟨(some 14), none, (.bin .lss (.t 12) (.t 13))⟩,
    ⟨(some 11), none, (.mv (.t 14))⟩]) (.cond (.t 11) (.seq 
  (.reg false [] [⟨(some 4), none, (.mv (.k (.lit (.int .i64 (-1)))))⟩]) .ret) (.seq 
  (.reg false [] [⟨(some 16), none, (.mv (.t 5))⟩,
    ⟨(some 17), none, (.mv (.t 6))⟩,
    ⟨(some 18), none, (.bin .gtr (.t 16) (.t 17))⟩,
    ⟨(some 15), none, (.mv (.t 18))⟩]) (.cond (.t 15) (.seq 
  (.reg false [] [⟨(some 4), none, (.mv (.k (.lit (.int .i64 1))))⟩]) .ret) .skip))))) (.seq 
  (.reg false [] [⟨(some 19), none, (.mv (.t 5))⟩,
    ⟨(some 20), none, (.fad 1 (.t 2))⟩,
    ⟨(some 21), none, (.ld false 1 (.t 20))⟩,
    ⟨(some 22), none, (.fad 1 (.t 3))⟩,
    ⟨(some 23), none, (.ld false 1 (.t 22))⟩,
    ⟨(some 24), none, (.call 107 [(.t 21), (.t 23)])⟩,
    ⟨(some 25), none, (.bin .mul (.t 19) (.t 24))⟩,
    ⟨(some 4), none, (.mv (.t 25))⟩]) .ret))))
theorem cf80 : compF Tryz.prog 80 = some ⟨26, ac80, [(.tmp 4)]⟩ := by kernel_rfl

end Iso

/- The compiled code of functions. -/
namespace Iso
open Go Go.Proofs

def ac146 : AC := (.seq 
  (.reg false [] [⟨(some 2), none, (.mv (.k (.lit (.int .i64 0))))⟩]) (.seq (.seq 
  (.reg false [] [⟨(some 3), none, (.mv (.t 0))⟩,
    ⟨(some 4), none, (.bin .geq (.t 3) (.k (.lit (.int .u64 4294967296))))⟩]) (.cond (.t 4) (.seq 
  (.reg false [] [⟨(some 5), none, (.mv (.t 0))⟩,
    ⟨(some 6), none, (.bin .shr (.t 5) (.k (.lit (.int .u64 32))))⟩,
    ⟨(some 0), none, (.mv (.t 6))⟩]) 
  (.reg false [] [⟨(some 2), none, (.mv (.k (.lit (.int .i64 32))))⟩])) .skip)) (.seq (.seq 
  (.reg false [] [⟨(some 7), none, (.mv (.t 0))⟩,
    ⟨(some 8), none, (.bin .geq (.t 7) (.k (.lit (.int .u64 65536))))⟩]) (.cond (.t 8) (.seq 
  (.reg false [] [⟨(some 9), none, (.mv (.t 0))⟩,
    ⟨(some 10), none, (.bin .shr (.t 9) (.k (.lit (.int .u64 16))))⟩,
    ⟨(some 0), none, (.mv (.t 10))⟩]) 
  (.reg false [] [⟨(some 11), none, (.mv (.t 2))⟩,
    ⟨(some 12), none, (.bin .add (.t 11) (.k (.lit (.int .i64 16))))⟩,
    ⟨(some 2), none, (.mv (.t 12))⟩])) .skip)) (.seq (.seq 
  (.reg false [] [⟨(some 13), none, (.mv (.t 0))⟩,
    ⟨(some 14), none, (.bin .geq (.t 13) (.k (.lit (.int .u64 256))))⟩]) (.cond (.t 14) (.seq 
  (.reg false [] [⟨(some 15), none, (.mv (.t 0))⟩,
    ⟨(some 16), none, (.bin .shr (.t 15) (.k (.lit (.int .u64 8))))⟩,
    ⟨(some 0), none, (.mv (.t 16))⟩]) 
  (.reg false [] [⟨(some 17), none, (.mv (.t 2))⟩,
    ⟨(some 18), none, (.bin .add (.t 17) (.k (.lit (.int .i64 8))))⟩,
    ⟨(some 2), none, (.mv (.t 18))⟩])) .skip)) (.seq 
  (.reg false [] [⟨(some 19), none, (.mv (.t 2))⟩,
    ⟨(some 20), none, (.mv (.t 0))⟩,
    ⟨(some 21), none, (.cv .u8 (.t 20))⟩,
    ⟨(some 22), none, (.ixs [0, 1, 2, 2, 3, 3, 3, 3, 4, 4, 4, 4, 4, 4, 4, 4, 5, 5, 5, 5, 5, 5, 5, 5, 5, 5, 5, 5, 5, 5, 5, 5, 6, 6, 6, 6, 6, 6, 6, 6, 6, 6, 6, 6, 6, 6, 6, 6, 6, 6, 6, 6, 6, 6, 6, 6, 6, 6, 6, 6, 6, 6, 6, 6, 7, 7, 7, 7, 7, 7, 7, 7, 7, 7, 7, 7, 7, 7, 7, 7, 7, 7, 7, 7, 7, 7, 7, 7, 7, 7, 7, 7, 7, 7, 7, 7, 7, 7, 7, 7, 7, 7, 7, 7, 7, 7, 7, 7, 7, 7, 7, 7, 7, 7, 7, 7, 7, 7, 7, 7, 7, 7, 7, 7, 7, 7, 7, 7, 8, 8, 8, 8, 8, 8, 8, 8, 8, 8, 8, 8, 8, 8, 8, 8, 8, 8, 8, 8, 8, 8, 8, 8, 8, 8, 8, 8, 8, 8, 8, 8, 8, 8, 8, 8, 8, 8, 8, 8, 8, 8, 8, 8, 8, 8, 8, 8, 8, 8, 8, 8, 8, 8, 8, 8, 8, 8, 8, 8, 8, 8, 8, 8, 8, 8, 8, 8, 8, 8, 8, 8, 8, 8, 8, 8, 8, 8, 8, 8, 8, 8, 8, 8, 8, 8, 8, 8, 8, 8, 8, 8, 8, 8, 8, 8, 8, 8, 8, 8, 8, 8, 8, 8, 8, 8, 8, 8, 8, 8, 8, 8, 8, 8, 8, 8, 8, 8, 8, 8, 8, 8, 8, 8, 8, 8, 8, 8] (.t 21))⟩,
    ⟨(some 23), none, (.cv .i64 (.t 22))⟩,
    ⟨(some 24), none, (.bin .add (.t 19) (.t 23))⟩,
    ⟨(some 2), none, (.mv (.t 24))⟩]) .ret)))))
theorem cf146 : compF Tryz.prog 146 = some ⟨25, ac146, [(.tmp 2)]⟩ := by kernel_rfl

def ac99 : AC := (.seq 
  (.reg false [] [⟨(some 2), none, (.mv (.k (.lit (.bool false))))⟩]) (.seq 
  (.reg false [] [⟨(some 3), none, (.mv (.t 0))⟩,
    ⟨(some 4), none, (.len (.t 3))⟩,
    ⟨(some 5), none, (.bin .eql (.t 4) (.k (.lit (.int .i64 1))))⟩,
    ⟨(some 6), none, (.mv (.t 5))⟩,
    ⟨(some 7), (some (6, true)), (.mv (.t 0))⟩,
    ⟨(some 8), (some (6, true)), (.iad 1 (.t 7) (.k (.lit (.int .i64 0))))⟩,
    ⟨(some 9), (some (6, true)), (.ld false 1 (.t 8))⟩,
    ⟨(some 10), (some (6, true)), (.bin .eql (.t 9) (.k (.lit (.int .u64 1))))⟩,
    ⟨(some 11), none, (.pick (.t 6) (.t 10) (.k (.lit (.bool false))))⟩,
    ⟨(some 2), none, (.mv (.t 11))⟩]) .ret))
theorem cf99 : compF Tryz.prog 99 = some ⟨12, ac99, [(.tmp 2)]⟩ := by kernel_rfl

def ac81 : AC := (.seq 
  (.reg false [] [⟨(some 0), none, (.mv (.k (.lit (.slice none 0 0))))⟩]) (.seq 
  (.reg false [] [⟨(some 1), none, (.bsl 1 1 [(.lit (.int .u64 0))] [(0, (1, (.k (.lit (.int .u64 1)))))])⟩,
    ⟨(some 0), none, (.mv (.t 1))⟩]) .ret))
theorem cf81 : compF Tryz.prog 81 = some ⟨2, ac81, [(.tmp 0)]⟩ := by kernel_rfl

def ac16 : AC := (.seq 
  (.reg false [] [⟨(some 2), none, (.new [(.lit (.bool false)), (.lit (.slice none 0 0)), (.lit (.slice none 0 0))])⟩]) (.seq 
  (.reg false [] [⟨(some 3), none, (.mv (.t 0))⟩,
    ⟨(some 4), none, (.call 45 [(.t 3)])⟩,
    ⟨(some 5), none, (.call 44 [(.t 4)])⟩,
    ⟨none, none, (.st 3 (.t 2) (.t 5))⟩]) .ret))
theorem cf16 : compF Tryz.prog 16 = some ⟨6, ac16, [(.cell 2 true 3)]⟩ := by kernel_rfl

def ac22 : AC := (.seq 
  (.reg false [] [⟨(some 2), none, (.box (.t 0))⟩,
    ⟨(some 3), none, (.box (.t 1))⟩,
    ⟨(some 4), none, (.new [(.lit (.bool false)), (.lit (.slice none 0 0)), (.lit (.slice none 0 0))])⟩]) (.seq 
  (.reg true [[], [], [1], [0, 2, 2], [3, 3, 0, 1, 2, 3]] [⟨(some 5), none, (.ld true 3 (.t 2))⟩,
    ⟨(some 6), none, (.ld true 3 (.t 3))⟩,
    ⟨(some 7), none, (.call 23 [(.t 6)])⟩,
    ⟨(some 8), none, (.call 26 [(.t 5), (.t 7)])⟩,
    ⟨none, none, (.st 3 (.t 4) (.t 8))⟩]) .ret))
theorem cf22 : compF Tryz.prog 22 = some ⟨9, ac22, [(.cell 4 true 3)]⟩ := by kernel_rfl

def ac23 : AC := (.seq 
  (.reg false [] [⟨(some 1), none, (.box (.t 0))⟩,
    ⟨(some 2), none, (.new [(.lit (.bool false)), (.lit (.slice none 0 0)), (.lit (.slice none 0 0))])⟩]) (.seq 
  (.reg true [[], [0], [1], [], [3, 2], [2, 4, 4], [5, 5, 0, 1, 2, 3, 4, 5]] [⟨(some 3), none, (.fad 0 (.t 1))⟩,
    ⟨(some 4), none, (.ld true 2 (.t 3))⟩,
    ⟨(some 5), none, (.call 61 [(.t 4)])⟩,
    ⟨(some 6), none, (.ld true 3 (.t 1))⟩,
    ⟨(some 7), none, (.call 62 [(.t 6)])⟩,
    ⟨(some 8), none, (.call 60 [(.t 5), (.t 7)])⟩,
    ⟨none, none, (.st 3 (.t 2) (.t 8))⟩]) .ret))
theorem cf23 : compF Tryz.prog 23 = some ⟨9, ac23, [(.cell 2 true 3)]⟩ := by kernel_rfl

def ac24 : AC := (.seq 
  (.reg false [] [⟨(some 2), none, (.box (.t 0))⟩,
    ⟨(some 3), none, (.box (.t 1))⟩,
    ⟨(some 4), none, (.new [(.lit (.bool false)), (.lit (.slice none 0 0)), (.lit (.slice none 0 0))])⟩]) (.seq 
  (.reg true [[], [0], [], [2], [1, 3], [], [5, 4], [], [7, 6], [6, 8, 8], [4, 9, 9], [10, 10, 0, 1, 2, 3, 4, 5, 6, 7, 8, 9, 10]] [⟨(some 5), none, (.fad 0 (.t 2))⟩,
    ⟨(some 6), none, (.ld true 2 (.t 5))⟩,
    ⟨(some 7), none, (.fad 0 (.t 3))⟩,
    ⟨(some 8), none, (.ld true 2 (.t 7))⟩,
    ⟨(some 9), none, (.call 56 [(.t 6), (.t 8)])⟩,
    ⟨(some 10), none, (.ld true 3 (.t 2))⟩,
    ⟨(some 11), none, (.call 62 [(.t 10)])⟩,
    ⟨(some 12), none, (.ld true 3 (.t 3))⟩,
    ⟨(some 13), none, (.call 62 [(.t 12)])⟩,
    ⟨(some 14), none, (.call 63 [(.t 11), (.t 13)])⟩,
    ⟨(some 15), none, (.call 60 [(.t 9), (.t 14)])⟩,
    ⟨none, none, (.st 3 (.t 4) (.t 15))⟩]) .ret))
theorem cf24 : compF Tryz.prog 24 = some ⟨16, ac24, [(.cell 4 true 3)]⟩ := by kernel_rfl

def ac26 : AC := (.seq 
  (.reg false [] [⟨(some 2), none, (.box (.t 0))⟩,
    ⟨(some 3), none, (.box (.t 1))⟩,
    ⟨(some 4), none, (.new [(.lit (.bool false)), (.lit (.slice none 0 0)), (.lit (.slice none 0 0))])⟩]) (.seq 
  (.reg true [[], [0], [], [2], [1, 3, 3], [], [5], [], [7, 4], [6, 8, 8], [4, 9, 9], [], [11, 10, 10, 0, 1, 2, 3, 4, 5, 6, 7, 8, 9, 10, 11]] [⟨(some 6), none, (.fad 0 (.t 2))⟩,
    ⟨(some 7), none, (.ld true 2 (.t 6))⟩,
    ⟨(some 8), none, (.ld true 3 (.t 3))⟩,
    ⟨(some 9), none, (.call 65 [(.t 8)])⟩,
    ⟨(some 10), none, (.call 56 [(.t 7), (.t 9)])⟩,
    ⟨(some 11), none, (.fad 0 (.t 3))⟩,
    ⟨(some 12), none, (.ld true 2 (.t 11))⟩,
    ⟨(some 13), none, (.ld true 3 (.t 2))⟩,
    ⟨(some 14), none, (.call 65 [(.t 13)])⟩,
    ⟨(some 15), none, (.call 56 [(.t 12), (.t 14)])⟩,
    ⟨(some 16), none, (.call 64 [(.t 10), (.t 15)])⟩,
    ⟨(some 5), none, (.new [(.lit (.bool false)), (.lit (.slice none 0 0))])⟩,
    ⟨none, none, (.st 2 (.t 5) (.t 16))⟩]) (.seq 
  (.reg true [[], [], [1], [], [3, 2], [2, 4, 4], [0, 5, 5], [6, 6, 0, 1, 2, 3, 4, 5, 6]] [⟨(some 17), none, (.ld true 2 (.t 5))⟩,
    ⟨(some 18), none, (.ld true 3 (.t 2))⟩,
    ⟨(some 19), none, (.call 62 [(.t 18)])⟩,
    ⟨(some 20), none, (.ld true 3 (.t 3))⟩,
    ⟨(some 21), none, (.call 62 [(.t 20)])⟩,
    ⟨(some 22), none, (.call 63 [(.t 19), (.t 21)])⟩,
    ⟨(some 23), none, (.call 60 [(.t 17), (.t 22)])⟩,
    ⟨none, none, (.st 3 (.t 4) (.t 23))⟩]) .ret)))
theorem cf26 : compF Tryz.prog 26 = some ⟨24, ac26, [(.cell 4 true 3)]⟩ := by kernel_rfl

def ac27 : AC := (.seq 
  (.reg false [] [⟨(some 1), none, (.box (.t 0))⟩,
    ⟨(some 2), none, (.mv (.k (.lit (.int .i64 0))))⟩]) (.seq 
  (.reg false [] [⟨(some 3), none, (.fad 0 (.t 1))⟩,
    ⟨(some 4), none, (.ld true 2 (.t 3))⟩,
    ⟨(some 5), none, (.call 66 [(.t 4)])⟩,
    ⟨(some 2), none, (.mv (.t 5))⟩]) .ret))
theorem cf27 : compF Tryz.prog 27 = some ⟨6, ac27, [(.tmp 2)]⟩ := by kernel_rfl

def ac33 : AC := (.seq 
  (.reg false [] [⟨(some 2), none, (.box (.t 0))⟩,
    ⟨(some 3), none, (.box (.t 1))⟩,
    ⟨(some 4), none, (.new [(.lit (.bool false)), (.lit (.slice none 0 0)), (.lit (.slice none 0 0))])⟩,
    ⟨(some 5), none, (.mv (.k (.lit (.bool false))))⟩]) (.seq 
  (.reg true [[], [0], [], [2], [1, 3, 3], [], [5], [], [7, 4], [6, 8, 8], [4, 9, 9], [10], [10], [11, 10, 0, 1, 2, 3, 4, 5, 6, 7, 8, 9, 10, 11, 12], [12, 13, 0, 1, 2, 3, 4, 5, 6, 7, 8, 9, 10, 11, 12, 13]] [⟨(some 6), none, (.fad 0 (.t 2))⟩,
    ⟨(some 7), none, (.ld true 2 (.t 6))⟩,
    ⟨(some 8), none, (.ld true 3 (.t 3))⟩,
    ⟨(some 9), none, (.call 65 [(.t 8)])⟩,
    ⟨(some 10), none, (.call 56 [(.t 7), (.t 9)])⟩,
    ⟨(some 11), none, (.fad 0 (.t 3))⟩,
    ⟨(some 12), none, (.ld true 2 (.t 11))⟩,
    ⟨(some 13), none, (.ld true 3 (.t 2))⟩,
    ⟨(some 14), none, (.call 65 [(.t 13)])⟩,
    ⟨(some 15), none, (.call 56 [(.t 12), (.t 14)])⟩,
    ⟨(some 16), none, (.call 58 [(.t 10), (.t 15)])⟩,
    ⟨(some 17), none, (.ext (.t 16) 0)⟩,
    ⟨(some 18), none, (.ext (.t 16) 1)⟩,
    ⟨none, none, (.st 3 (.t 4) (.t 17))⟩,
    ⟨(some 5), none, (.mv (.t 18))⟩]) .ret))
theorem cf33 : compF Tryz.prog 33 = some ⟨19, ac33, [(.cell 4 true 3), (.tmp 5)]⟩ := by kernel_rfl

def ac43 : AC := (.seq 
  (.reg false [] [⟨(some 2), none, (.box (.t 0))⟩,
    ⟨(some 3), none, (.box (.t 1))⟩,
    ⟨(some 4), none, (.mv (.k (.lit (.int .i64 0))))⟩]) (.seq 
  (.reg true [[], [0], [], [2, 1], [1, 3, 0, 1], [3, 4, 0, 1, 2, 3, 4]] [⟨(some 7), none, (.ld true 3 (.t 2))⟩,
    ⟨(some 8), none, (.call 27 [(.t 7)])⟩,
    ⟨(some 9), none, (.ld true 3 (.t 3))⟩,
    ⟨(some 10), none, (.call 27 [(.t 9)])⟩,
    ⟨(some 5), none, (.mv (.t 8))⟩,
    ⟨(some 6), none, (.mv (.t 10))⟩]) (.seq (.seq 
  (.reg false [] [⟨(some 11), none, (.mv (.t 5))⟩,
    ⟨(some 12), none, (.mv (.t 6))⟩,
    ⟨(some 13), none, (.bin .neq (.t 11) (.t 12))⟩]) (.cond (.t 13) (.seq 
  (.reg false [] [⟨(some 14), none, (.mv (.t 5))⟩,
    ⟨(some 15), none, (.call 45 [(.t 14)])⟩,
    ⟨(some 16), none, (.mv (.t 6))⟩,
    ⟨(some 17), none, (.call 45 [(.t 16)])⟩,
    ⟨(some 18), none, (.call 80 [(.t 15), (.t 17)])⟩,
    ⟨(some 4), none, (.mv (.t 18))⟩]) .ret) .skip)) (.seq 
  (.reg true [[], [0], [], [2], [1, 3, 3], [], [5], [], [7, 4], [6, 8, 8], [4, 9, 9], [10, 10, 0, 1, 2, 3, 4, 5, 6, 7, 8, 9, 10]] [⟨(some 19), none, (.fad 0 (.t 2))⟩,
    ⟨(some 20), none, (.ld true 2 (.t 19))⟩,
    ⟨(some 21), none, (.ld true 3 (.t 3))⟩,
    ⟨(some 22), none, (.call 65 [(.t 21)])⟩,
    ⟨(some 23), none, (.call 56 [(.t 20), (.t 22)])⟩,
    ⟨(some 24), none, (.fad 0 (.t 3))⟩,
    ⟨(some 25), none, (.ld true 2 (.t 24))⟩,
    ⟨(some 26), none, (.ld true 3 (.t 2))⟩,
    ⟨(some 27), none, (.call 65 [(.t 26)])⟩,
    ⟨(some 28), none, (.call 56 [(.t 25), (.t 27)])⟩,
    ⟨(some 29), none, (.call 80 [(.t 23), (.t 28)])⟩,
    ⟨(some 4), none, (.mv (.t 29))⟩]) .ret))))
theorem cf43 : compF Tryz.prog 43 = some ⟨30, ac43, [(.tmp 4)]⟩ := by kernel_rfl

def ac44 : AC := (.seq 
  (.reg false [] [⟨(some 1), none, (.box (.t 0))⟩,
    ⟨(some 2), none, (.new [(.lit (.bool false)), (.lit (.slice none 0 0)), (.lit (.slice none 0 0))])⟩]) (.seq 
  (.reg true [[], [], [0, 1, 1], [2, 2, 0, 1, 2]] [⟨(some 3), none, (.ld true 2 (.t 1))⟩,
    ⟨(some 4), none, (.call 81 [])⟩,
    ⟨(some 5), none, (.call 60 [(.t 3), (.t 4)])⟩,
    ⟨none, none, (.st 3 (.t 2) (.t 5))⟩]) .ret))
theorem cf44 : compF Tryz.prog 44 = some ⟨6, ac44, [(.cell 2 true 3)]⟩ := by kernel_rfl

def ac58 : AC := (.seq 
  (.reg false [] [⟨(some 2), none, (.box (.t 0))⟩,
    ⟨(some 3), none, (.box (.t 1))⟩,
    ⟨(some 4), none, (.new [(.lit (.bool false)), (.lit (.slice none 0 0)), (.lit (.slice none 0 0))])⟩,
    ⟨(some 5), none, (.mv (.k (.lit (.bool false))))⟩]) (.seq (.seq 
  (.reg false [] [⟨(some 6), none, (.ld true 2 (.t 3))⟩,
    ⟨(some 7), none, (.call 66 [(.t 6)])⟩,
    ⟨(some 8), none, (.bin .eql (.t 7) (.k (.lit (.int .i64 0))))⟩]) (.cond (.t 8) (.seq 
  (.reg false [] [⟨(some 9), none, (.call 16 [(.k (.lit (.int .i64 0)))])⟩,
    ⟨none, none, (.st 3 (.t 4) (.t 9))⟩,
    ⟨(some 5), none, (.mv (.k (.lit (.bool false))))⟩]) .ret) .skip)) (.seq 
  (.reg true [[], [0], [], [2], [1, 3], [], [5], [4, 6], [], [8], [7, 9, 7], [10, 10, 0, 1, 2, 3, 4, 5, 6, 7, 8, 9, 10], [11, 0, 1, 2, 3, 4, 5, 6, 7, 8, 9, 10, 11]] [⟨(some 10), none, (.fad 0 (.t 2))⟩,
    ⟨(some 11), none, (.ld false 1 (.t 10))⟩,
    ⟨(some 12), none, (.fad 0 (.t 3))⟩,
    ⟨(some 13), none, (.ld false 1 (.t 12))⟩,
    ⟨(some 14), none, (.eqb true (.t 11) (.t 13))⟩,
    ⟨(some 15), none, (.fad 1 (.t 2))⟩,
    ⟨(some 16), none, (.ld false 1 (.t 15))⟩,
    ⟨(some 17), none, (.call 96 [(.t 14), (.t 16)])⟩,
    ⟨(some 18), none, (.fad 1 (.t 3))⟩,
    ⟨(some 19), none, (.ld false 1 (.t 18))⟩,
    ⟨(some 20), none, (.call 60 [(.t 17), (.t 19)])⟩,
    ⟨none, none, (.st 3 (.t 4) (.t 20))⟩,
    ⟨(some 5), none, (.mv (.k (.lit (.bool true))))⟩]) .ret)))
theorem cf58 : compF Tryz.prog 58 = some ⟨21, ac58, [(.cell 4 true 3), (.tmp 5)]⟩ := by kernel_rfl

def ac60 : AC := (.seq 
  (.reg false [] [⟨(some 2), none, (.box (.t 0))⟩,
    ⟨(some 4), none, (.new [(.lit (.bool false)), (.lit (.slice none 0 0)), (.lit (.slice none 0 0))])⟩]) (.seq 
  (.reg false [] [⟨(some 10), none, (.call 81 [])⟩,
    ⟨(some 5), none, (.mv (.t 10))⟩]) (.seq (.seq 
  (.reg false [] [⟨(some 11), none, (.mv (.t 1))⟩,
    ⟨(some 12), none, (.call 99 [(.t 11)])⟩,
    ⟨(some 13), none, (.un .not (.t 12))⟩]) (.cond (.t 13) 
  (.reg false [] [⟨(some 14), none, (.fad 1 (.t 2))⟩,
    ⟨(some 15), none, (.ld false 1 (.t 14))⟩,
    ⟨(some 16), none, (.mv (.t 1))⟩,
    ⟨(some 17), none, (.call 100 [(.t 15), (.t 16)])⟩,
    ⟨(some 5), none, (.mv (.t 17))⟩]) .skip)) (.seq (.seq 
  (.reg false [] [⟨(some 18), none, (.mv (.t 5))⟩,
    ⟨(some 19), none, (.call 99 [(.t 18)])⟩]) (.cond (.t 19) (.seq 
  (.reg false [] [⟨(some 20), none, (.fad 0 (.t 2))⟩,
    ⟨(some 21), none, (.ld false 1 (.t 20))⟩,
    ⟨(some 22), none, (.fad 1 (.t 2))⟩,
    ⟨(some 23), none, (.ld false 1 (.t 22))⟩,
    ⟨(some 24), none, (.call 96 [(.t 21), (.t 23)])⟩,
    ⟨(some 25), none, (.mv (.t 1))⟩,
    ⟨(some 26), none, (.call 101 [(.t 25), (.k (.lit (.slice none 0 0)))])⟩,
    ⟨(some 27), none, (.bld [(.lit (.bool false)), (.lit (.slice none 0 0)), (.lit (.slice none 0 0))] [(0, (2, (.t 24))), (2, (1, (.t 26)))])⟩,
    ⟨none, none, (.st 3 (.t 4) (.t 27))⟩]) .ret) .skip)) (.seq 
  (.reg false [] [⟨(some 29), none, (.fad 1 (.t 2))⟩,
    ⟨(some 30), none, (.ld false 1 (.t 29))⟩,
    ⟨(some 31), none, (.mv (.t 5))⟩,
    ⟨(some 32), none, (.call 102 [(.t 30), (.t 31)])⟩,
    ⟨(some 28), none, (.mv (.t 32))⟩,
    ⟨(some 33), none, (.ext (.t 28) 0)⟩,
    ⟨(some 34), none, (.ext (.t 28) 1)⟩,
    ⟨(some 6), none, (.mv (.t 33))⟩,
    ⟨(some 7), none, (.mv (.t 34))⟩]) (.seq 
  (.reg false [] [⟨(some 36), none, (.mv (.t 1))⟩,
    ⟨(some 37), none, (.mv (.t 5))⟩,
    ⟨(some 38), none, (.call 102 [(.t 36), (.t 37)])⟩,
    ⟨(some 35), none, (.mv (.t 38))⟩,
    ⟨(some 39), none, (.ext (.t 35) 0)⟩,
    ⟨(some 40), none, (.ext (.t 35) 1)⟩,
    ⟨(some 8), none, (.mv (.t 39))⟩,
    ⟨(some 9), none, (.mv (.t 40))⟩]) (.seq 
  (.reg false [] [⟨(some 41), none, (.fad 0 (.t 2))⟩,
    ⟨(some 42), none, (.ld false 1 (.t 41))⟩,
    ⟨(some 43), none, (.mv (.t 6))⟩,
    ⟨(some 44), none, (.call 96 [(.t 42), (.t 43)])⟩,
    ⟨(some 45), none, (.mv (.t 8))⟩,
    ⟨(some 46), none, (.bld [(.lit (.bool false)), (.lit (.slice none 0 0)), (.lit (.slice none 0 0))] [(0, (2, (.t 44))), (2, (1, (.t 45)))])⟩,
    ⟨none, none, (.st 3 (.t 4) (.t 46))⟩]) .ret)))))))
theorem cf60 : compF Tryz.prog 60 = some ⟨47, ac60, [(.cell 4 true 3)]⟩ := by kernel_rfl

def ac62 : AC := (.seq 
  (.reg false [] [⟨(some 1), none, (.box (.t 0))⟩,
    ⟨(some 2), none, (.mv (.k (.lit (.slice none 0 0))))⟩]) (.seq (.seq 
  (.reg false [] [⟨(some 3), none, (.fad 2 (.t 1))⟩,
    ⟨(some 4), none, (.ld false 1 (.t 3))⟩,
    ⟨(some 5), none, (.call 103 [(.t 4)])⟩,
    ⟨(some 6), none, (.bin .eql (.t 5) (.k (.lit (.int .i64 0))))⟩]) (.cond (.t 6) (.seq 
  (.reg false [] [⟨(some 7), none, (.call 81 [])⟩,
    ⟨(some 2), none, (.mv (.t 7))⟩]) .ret) .skip)) (.seq 
  (.reg false [] [⟨(some 8), none, (.fad 2 (.t 1))⟩,
    ⟨(some 9), none, (.ld false 1 (.t 8))⟩,
    ⟨(some 2), none, (.mv (.t 9))⟩]) .ret)))
theorem cf62 : compF Tryz.prog 62 = some ⟨10, ac62, [(.tmp 2)]⟩ := by kernel_rfl

def ac65 : AC := (.seq 
  (.reg false [] [⟨(some 1), none, (.box (.t 0))⟩,
    ⟨(some 2), none, (.new [(.lit (.bool false)), (.lit (.slice none 0 0))])⟩]) (.seq 
  (.reg false [] [⟨(some 3), none, (.ld true 3 (.t 1))⟩,
    ⟨(some 4), none, (.call 62 [(.t 3)])⟩,
    ⟨(some 5), none, (.bld [(.lit (.bool false)), (.lit (.slice none 0 0))] [(1, (1, (.t 4)))])⟩,
    ⟨none, none, (.st 2 (.t 2) (.t 5))⟩]) .ret))
theorem cf65 : compF Tryz.prog 65 = some ⟨6, ac65, [(.cell 2 true 2)]⟩ := by kernel_rfl

def ac13 : AC := (.seq 
  (.reg false [] [⟨(some 2), none, (.box (.t 0))⟩,
    ⟨(some 3), none, (.box (.t 1))⟩,
    ⟨(some 4), none, (.mv (.k (.lit (.bool false))))⟩]) (.seq 
  (.reg false [] [⟨(some 5), none, (.ld true 3 (.t 2))⟩,
    ⟨(some 6), none, (.ld true 3 (.t 3))⟩,
    ⟨(some 7), none, (.call 43 [(.t 5), (.t 6)])⟩,
    ⟨(some 8), none, (.bin .eql (.t 7) (.k (.lit (.int .i64 0))))⟩,
    ⟨(some 4), none, (.mv (.t 8))⟩]) .ret))
theorem cf13 : compF Tryz.prog 13 = some ⟨9, ac13, [(.tmp 4)]⟩ := by kernel_rfl

end Iso
