import Derived.Test.YtlgejmkkehfllaaGreatZ7
/- Magnitudes: slices of digits; dropping the noughts on the right. -/
namespace Iso
open Go Go.Proofs

/-- 'mag.right': without the noughts at its end. -/
theorem fn_right (ds : List Nat) (v : V) (hv : IsSl ds v) (hl : ds.length < 2 ^ 41) (H : AH) : ∃ v', IsSl (trim ds) v' ∧ FN Tryz.prog 106 [v] H v' H := by
  suffices h : ∃ v' H', FN Tryz.prog 106 [v] H v' H' ∧ (IsSl (trim ds) v' ∧ H' = H) by
    obtain ⟨v', H', h1, h2, rfl⟩ := h; exact ⟨v', h2, h1⟩
  refine fn_of cf106 (by simp) ?_
  show AWp _ _ _ ac106 _ _
  unfold ac106
  refine awp_seq_sw ?_
  repeat first | refine sw_v (fun _ => rfl) trivial ?_ | refine sw_l (fun _ => rfl) trivial ?_ | refine sw_ln (fun _ => rfl) ⟨rfl, Nat.le_of_ble_eq_true rfl⟩ ?_ | refine sw_vg rfl (fun _ => rfl) trivial ?_ | refine sw_sk rfl rfl ?_
  refine SW.nil ?_
  refine awp_seq (awp_block ?_)
  refine awp_le (t := ⟨[(0, .v v)], [], H⟩) (le_sub (sub_cons rfl (sub_nil _))) ?_
  refine awp_loop (γ := { p : List Nat × V // IsSl p.1 p.2 ∧ trim p.1 = trim ds ∧ p.1.length < 2 ^ 41 }) (fun g => ⟨[(0, .v g.1.2)], [], H⟩) (fun g => g.1.1.length) ⟨(ds, v), hv, rfl, hl⟩ (Le.refl _) ?_
  rintro ⟨⟨es, u⟩, hu, ht, hlen⟩
  dsimp only at hu ht hlen ⊢
  refine awp_seq_seq_sw ?_
  refine sw_v (fun _ => rfl) trivial ?_
  refine sw_v (len_sl rfl hu) trivial ?_
  repeat first | refine sw_v (fun _ => rfl) trivial ?_ | refine sw_l (fun _ => rfl) trivial ?_ | refine sw_ln (fun _ => rfl) ⟨rfl, Nat.le_of_ble_eq_true rfl⟩ ?_ | refine sw_vg rfl (fun _ => rfl) trivial ?_ | refine sw_sk rfl rfl ?_
  rcases List.eq_nil_or_concat es with rfl | ⟨fs, e, rfl⟩
  · repeat first | refine sw_v (fun _ => rfl) trivial ?_ | refine sw_l (fun _ => rfl) trivial ?_ | refine sw_ln (fun _ => rfl) ⟨rfl, Nat.le_of_ble_eq_true rfl⟩ ?_ | refine sw_vg rfl (fun _ => rfl) trivial ?_ | refine sw_sk rfl rfl ?_
    refine SW.nil ?_
    refine awp_cond rfl (fun h => by cases h) fun _ => ?_
    refine awp_exit ?_
    show AWp _ _ _ _ _ _
    refine awp_seq_sw ?_
    repeat first | refine sw_v (fun _ => rfl) trivial ?_ | refine sw_l (fun _ => rfl) trivial ?_ | refine sw_ln (fun _ => rfl) ⟨rfl, Nat.le_of_ble_eq_true rfl⟩ ?_ | refine sw_vg rfl (fun _ => rfl) trivial ?_ | refine sw_sk rfl rfl ?_
    refine SW.nil ?_
    refine awp_ret ?_
    exact ⟨.inr rfl, _, rfl, by rw [← ht]; exact hu, rfl⟩
  · rw [List.concat_eq_append] at *
    obtain rfl := hu.vs (by simp)
    have hlen' : fs.length + 1 < 2 ^ 41 := by simpa using hlen
    rw [show decide (((fs ++ [e]).length : Int) > 0) = true from by simp <;> omega]
    repeat first | refine sw_v (fun _ => rfl) trivial ?_ | refine sw_l (fun _ => rfl) trivial ?_ | refine sw_ln (fun _ => rfl) ⟨rfl, Nat.le_of_ble_eq_true rfl⟩ ?_ | refine sw_vg rfl (fun _ => rfl) trivial ?_ | refine sw_sk rfl rfl ?_
    rw [show IntKind.i64.wrap (((fs ++ [e]).length : Int) - 1) = (fs.length : Int) from by rw [wrap_i64] <;> simp <;> omega]
    refine sw_vg rfl (iad_dig e [] rfl rfl (by simp)) ⟨by omega, by simp <;> omega⟩ ?_
    repeat first | refine sw_v (fun _ => rfl) trivial ?_ | refine sw_l (fun _ => rfl) trivial ?_ | refine sw_ln (fun _ => rfl) ⟨rfl, Nat.le_of_ble_eq_true rfl⟩ ?_ | refine sw_vg rfl (fun _ => rfl) trivial ?_ | refine sw_sk rfl rfl ?_
    refine SW.nil ?_
    refine awp_cond rfl (fun h => ?_) fun h => ?_
    · have he : e = 0 := by simpa using h
      refine awp_skip ?_
      refine awp_block (awp_sw ?_)
      repeat first | refine sw_v (fun _ => rfl) trivial ?_ | refine sw_l (fun _ => rfl) trivial ?_ | refine sw_ln (fun _ => rfl) ⟨rfl, Nat.le_of_ble_eq_true rfl⟩ ?_ | refine sw_vg rfl (fun _ => rfl) trivial ?_ | refine sw_sk rfl rfl ?_
      rw [show IntKind.i64.wrap (((fs ++ [e]).length : Int) - 1) = (fs.length : Int) from by rw [wrap_i64] <;> simp <;> omega]
      refine sw_v (sls_to rfl rfl) ⟨⟨by omega, by simp <;> omega⟩, trivial⟩ ?_
      repeat first | refine sw_v (fun _ => rfl) trivial ?_ | refine sw_l (fun _ => rfl) trivial ?_ | refine sw_ln (fun _ => rfl) ⟨rfl, Nat.le_of_ble_eq_true rfl⟩ ?_ | refine sw_vg rfl (fun _ => rfl) trivial ?_ | refine sw_sk rfl rfl ?_
      refine SW.nil ?_
      refine ⟨⟨(fs, .vs (digV fs) fs.length), .inl rfl, ?_, by simp <;> omega⟩, by simp, le_sub (sub_cons ?_ (sub_nil _))⟩
      · subst he; rw [← ht, trim_zero]
      · simp [Env.get]
    · have he : e ≠ 0 := by simpa using h
      refine awp_exit ?_
      show AWp _ _ _ _ _ _
      refine awp_seq_sw ?_
      repeat first | refine sw_v (fun _ => rfl) trivial ?_ | refine sw_l (fun _ => rfl) trivial ?_ | refine sw_ln (fun _ => rfl) ⟨rfl, Nat.le_of_ble_eq_true rfl⟩ ?_ | refine sw_vg rfl (fun _ => rfl) trivial ?_ | refine sw_sk rfl rfl ?_
      refine SW.nil ?_
      refine awp_ret ?_
      exact ⟨.inr rfl, _, rfl, by rw [← ht, trim_last _ he]; exact .inl rfl, rfl⟩

end Iso

/- Comparing magnitudes. -/
namespace Iso
open Go Go.Proofs

theorem hmix : (Tryz.prog).follows .mixedOrders = true := by kernel_rfl

theorem cmpI_lt {a b : Nat} (h : a < b) : cmpI a b = -1 := by simp [cmpI, h]
theorem cmpI_gt {a b : Nat} (h : b < a) : cmpI a b = 1 := by simp [cmpI, h]; omega
theorem cmpI_eq (a : Nat) : cmpI a a = 0 := by simp [cmpI]

/-- 'mag.Cmp'. -/
theorem fn_cmp (xs ys : List Nat) (u v : V) (hu : IsSl xs u) (hv : IsSl ys v) (dx : Dig xs) (dy : Dig ys) (lx : xs.length < 2 ^ 40) (ly : ys.length < 2 ^ 40) (H : AH) :
    FN Tryz.prog 107 [u, v] H (.lit (.int .i64 (cmpI (val xs) (val ys)))) H := by
  suffices h : ∃ v' H', FN Tryz.prog 107 [u, v] H v' H' ∧ (v' = .lit (.int .i64 (cmpI (val xs) (val ys))) ∧ H' = H) by
    obtain ⟨v', H', h1, rfl, rfl⟩ := h; exact h1
  obtain ⟨u', hu', fu⟩ := fn_right xs u hu (by omega) H
  obtain ⟨v', hv', fv⟩ := fn_right ys v hv (by omega) H
  rw [← val_trim xs, ← val_trim ys]
  have dx := dx.trim
  have dy := dy.trim
  have lx := Nat.lt_of_le_of_lt (trim_length xs) lx
  have ly := Nat.lt_of_le_of_lt (trim_length ys) ly
  have tx := trim_trim xs
  have ty := trim_trim ys
  generalize trim xs = ps at *
  generalize trim ys = qs at *
  refine fn_of cf107 (by simp) ?_
  show AWp _ _ _ ac107 _ _
  unfold ac107
  refine awp_seq_sw ?_
  repeat first | refine sw_v (fun _ => rfl) trivial ?_ | refine sw_l (fun _ => rfl) trivial ?_ | refine sw_ln (fun _ => rfl) ⟨rfl, Nat.le_of_ble_eq_true rfl⟩ ?_ | refine sw_vg rfl (fun _ => rfl) trivial ?_ | refine sw_sk rfl rfl ?_
  refine SW.nil ?_
  refine awp_seq_sw ?_
  repeat first | refine sw_v (fun _ => rfl) trivial ?_ | refine sw_l (fun _ => rfl) trivial ?_ | refine sw_ln (fun _ => rfl) ⟨rfl, Nat.le_of_ble_eq_true rfl⟩ ?_ | refine sw_vg rfl (fun _ => rfl) trivial ?_ | refine sw_sk rfl rfl ?_
  refine sw_call rfl fu ?_
  repeat first | refine sw_v (fun _ => rfl) trivial ?_ | refine sw_l (fun _ => rfl) trivial ?_ | refine sw_ln (fun _ => rfl) ⟨rfl, Nat.le_of_ble_eq_true rfl⟩ ?_ | refine sw_vg rfl (fun _ => rfl) trivial ?_ | refine sw_sk rfl rfl ?_
  refine sw_call rfl fv ?_
  repeat first | refine sw_v (fun _ => rfl) trivial ?_ | refine sw_l (fun _ => rfl) trivial ?_ | refine sw_ln (fun _ => rfl) ⟨rfl, Nat.le_of_ble_eq_true rfl⟩ ?_ | refine sw_vg rfl (fun _ => rfl) trivial ?_ | refine sw_sk rfl rfl ?_
  refine SW.nil ?_
  refine awp_seq_seq_sw ?_
  refine sw_v (fun _ => rfl) trivial ?_
  refine sw_v (len_sl rfl hu') trivial ?_
  refine sw_v (fun _ => rfl) trivial ?_
  refine sw_v (len_sl rfl hv') trivial ?_
  repeat first | refine sw_v (fun _ => rfl) trivial ?_ | refine sw_l (fun _ => rfl) trivial ?_ | refine sw_ln (fun _ => rfl) ⟨rfl, Nat.le_of_ble_eq_true rfl⟩ ?_ | refine sw_vg rfl (fun _ => rfl) trivial ?_ | refine sw_sk rfl rfl ?_
  refine SW.nil ?_
  refine awp_cond rfl (fun h => ?_) fun h => ?_
  · have hne : ps.length ≠ qs.length := by simp at h; omega
    refine awp_seq_seq_sw ?_
    refine sw_v (fun _ => rfl) trivial ?_
    refine sw_v (len_sl rfl hu') trivial ?_
    refine sw_v (fun _ => rfl) trivial ?_
    refine sw_v (len_sl rfl hv') trivial ?_
    repeat first | refine sw_v (fun _ => rfl) trivial ?_ | refine sw_l (fun _ => rfl) trivial ?_ | refine sw_ln (fun _ => rfl) ⟨rfl, Nat.le_of_ble_eq_true rfl⟩ ?_ | refine sw_vg rfl (fun _ => rfl) trivial ?_ | refine sw_sk rfl rfl ?_
    refine SW.nil ?_
    refine awp_cond rfl (fun h => ?_) fun h => ?_
    · have hlt : ps.length < qs.length := by simpa using h
      refine awp_seq_sw ?_
      repeat first | refine sw_v (fun _ => rfl) trivial ?_ | refine sw_l (fun _ => rfl) trivial ?_ | refine sw_ln (fun _ => rfl) ⟨rfl, Nat.le_of_ble_eq_true rfl⟩ ?_ | refine sw_vg rfl (fun _ => rfl) trivial ?_ | refine sw_sk rfl rfl ?_
      refine SW.nil (awp_ret ?_)
      exact ⟨.inr rfl, _, rfl, by rw [cmpI_lt (lt_of_len dx ty hlt)]; rfl, rfl⟩
    · have hge : ¬ ps.length < qs.length := by simpa using h
      refine awp_skip ?_
      refine awp_seq_sw ?_
      repeat first | refine sw_v (fun _ => rfl) trivial ?_ | refine sw_l (fun _ => rfl) trivial ?_ | refine sw_ln (fun _ => rfl) ⟨rfl, Nat.le_of_ble_eq_true rfl⟩ ?_ | refine sw_vg rfl (fun _ => rfl) trivial ?_ | refine sw_sk rfl rfl ?_
      refine SW.nil (awp_ret ?_)
      exact ⟨.inr rfl, _, rfl, by rw [cmpI_gt (lt_of_len dy tx (by omega))]; rfl, rfl⟩
  · have hl : ps.length = qs.length := by simp at h; omega
    refine awp_skip ?_
    refine awp_seq_seq_sw ?_
    refine sw_v (fun _ => rfl) trivial ?_
    refine sw_v (len_sl rfl hu') trivial ?_
    repeat first | refine sw_v (fun _ => rfl) trivial ?_ | refine sw_l (fun _ => rfl) trivial ?_ | refine sw_ln (fun _ => rfl) ⟨rfl, Nat.le_of_ble_eq_true rfl⟩ ?_ | refine sw_vg rfl (fun _ => rfl) trivial ?_ | refine sw_sk rfl rfl ?_
    refine SW.nil ?_
    rw [wrap_i64 (x := (ps.length : Int) - 1) (by omega) (by omega)]
    refine awp_block ?_
    refine awp_loop (γ := { i : Nat // i ≤ ps.length ∧ ps.drop i = qs.drop i }) (fun i => ⟨[(5, .v (.lit (.int .i64 ((i.1 : Int) - 1)))), (0, .v u'), (1, .v v')], [], H⟩) (fun i => i.1)
      ⟨ps.length, Nat.le_refl _, by rw [List.drop_length, hl, List.drop_length]⟩ (le_sub (sub_cons rfl (sub_cons rfl (sub_cons rfl (sub_nil _))))) ?_
    rintro ⟨i, hi, hd⟩
    dsimp only
    refine awp_seq_seq_sw ?_
    repeat first | refine sw_v (fun _ => rfl) trivial ?_ | refine sw_l (fun _ => rfl) trivial ?_ | refine sw_ln (fun _ => rfl) ⟨rfl, Nat.le_of_ble_eq_true rfl⟩ ?_ | refine sw_vg rfl (fun _ => rfl) trivial ?_ | refine sw_sk rfl rfl ?_
    refine SW.nil ?_
    refine awp_cond rfl (fun h => ?_) fun h => ?_
    · have hpos : 0 < i := by simp at h; omega
      obtain ⟨j, rfl⟩ : ∃ j, i = j + 1 := ⟨i - 1, by omega⟩
      rw [show (((j + 1 : Nat) : Int) - 1) = (j : Int) by omega]
      refine awp_skip ?_
      have ha : ps.drop j = ps[j] :: ps.drop (j + 1) := (List.getElem_cons_drop (by omega)).symm
      have hb : qs.drop j = qs[j] :: qs.drop (j + 1) := (List.getElem_cons_drop (by omega)).symm
      obtain rfl := hu'.vs (by rintro rfl; simp at hi)
      obtain rfl := hv'.vs (by rintro rfl; simp at hl; simp [hl] at hi)
      refine awp_seq (awp_block ?_)
      refine awp_seq_rw hmix ?_
      repeat first | refine rw_v' (fun _ => rfl) trivial ?_ | refine rw_l' (fun _ => rfl) trivial ?_ | refine rw_ln' (fun _ => rfl) ⟨rfl, Nat.le_of_ble_eq_true rfl⟩ ?_ | refine rw_vg' rfl (fun _ => rfl) trivial ?_ | refine rw_sk' rfl rfl ?_
      refine rw_v' (iad_dig _ _ rfl rfl ha) ⟨by omega, by omega⟩ ?_
      repeat first | refine rw_v' (fun _ => rfl) trivial ?_ | refine rw_l' (fun _ => rfl) trivial ?_ | refine rw_ln' (fun _ => rfl) ⟨rfl, Nat.le_of_ble_eq_true rfl⟩ ?_ | refine rw_vg' rfl (fun _ => rfl) trivial ?_ | refine rw_sk' rfl rfl ?_
      refine rw_v' (iad_dig _ _ rfl rfl hb) ⟨by omega, by omega⟩ ?_
      repeat first | refine rw_v' (fun _ => rfl) trivial ?_ | refine rw_l' (fun _ => rfl) trivial ?_ | refine rw_ln' (fun _ => rfl) ⟨rfl, Nat.le_of_ble_eq_true rfl⟩ ?_ | refine rw_vg' rfl (fun _ => rfl) trivial ?_ | refine rw_sk' rfl rfl ?_
      refine RW.nil ⟨rfl, ?_⟩
      refine awp_cond rfl (fun h => ?_) fun h => ?_
      · have hne : ps[j] ≠ qs[j] := by simp at h; omega
        refine awp_seq_seq_rw hmix ?_
        repeat first | refine rw_v' (fun _ => rfl) trivial ?_ | refine rw_l' (fun _ => rfl) trivial ?_ | refine rw_ln' (fun _ => rfl) ⟨rfl, Nat.le_of_ble_eq_true rfl⟩ ?_ | refine rw_vg' rfl (fun _ => rfl) trivial ?_ | refine rw_sk' rfl rfl ?_
        refine rw_v' (iad_dig _ _ rfl rfl ha) ⟨by omega, by omega⟩ ?_
        repeat first | refine rw_v' (fun _ => rfl) trivial ?_ | refine rw_l' (fun _ => rfl) trivial ?_ | refine rw_ln' (fun _ => rfl) ⟨rfl, Nat.le_of_ble_eq_true rfl⟩ ?_ | refine rw_vg' rfl (fun _ => rfl) trivial ?_ | refine rw_sk' rfl rfl ?_
        refine rw_v' (iad_dig _ _ rfl rfl hb) ⟨by omega, by omega⟩ ?_
        repeat first | refine rw_v' (fun _ => rfl) trivial ?_ | refine rw_l' (fun _ => rfl) trivial ?_ | refine rw_ln' (fun _ => rfl) ⟨rfl, Nat.le_of_ble_eq_true rfl⟩ ?_ | refine rw_vg' rfl (fun _ => rfl) trivial ?_ | refine rw_sk' rfl rfl ?_
        refine RW.nil ⟨rfl, ?_⟩
        refine awp_cond rfl (fun h => ?_) fun h => ?_
        · have hlt : ps[j] < qs[j] := by simpa using h
          refine awp_seq_sw ?_
          repeat first | refine sw_v (fun _ => rfl) trivial ?_ | refine sw_l (fun _ => rfl) trivial ?_ | refine sw_ln (fun _ => rfl) ⟨rfl, Nat.le_of_ble_eq_true rfl⟩ ?_ | refine sw_vg rfl (fun _ => rfl) trivial ?_ | refine sw_sk rfl rfl ?_
          refine SW.nil (awp_ret ?_)
          exact ⟨.inr rfl, _, rfl, by rw [cmpI_lt (lt_of_digit dx (by omega) (by omega) hd hlt)]; rfl, rfl⟩
        · have hge : ¬ ps[j] < qs[j] := by simpa using h
          refine awp_skip ?_
          refine awp_seq_sw ?_
          repeat first | refine sw_v (fun _ => rfl) trivial ?_ | refine sw_l (fun _ => rfl) trivial ?_ | refine sw_ln (fun _ => rfl) ⟨rfl, Nat.le_of_ble_eq_true rfl⟩ ?_ | refine sw_vg rfl (fun _ => rfl) trivial ?_ | refine sw_sk rfl rfl ?_
          refine SW.nil (awp_ret ?_)
          exact ⟨.inr rfl, _, rfl, by rw [cmpI_gt (lt_of_digit dy (by omega) (by omega) hd.symm (by omega))]; rfl, rfl⟩
      · have heq : ps[j] = qs[j] := by simp at h; omega
        refine awp_skip ?_
        show AWp _ _ _ _ _ _
        refine awp_sw ?_
        repeat first | refine sw_v (fun _ => rfl) trivial ?_ | refine sw_l (fun _ => rfl) trivial ?_ | refine sw_ln (fun _ => rfl) ⟨rfl, Nat.le_of_ble_eq_true rfl⟩ ?_ | refine sw_vg rfl (fun _ => rfl) trivial ?_ | refine sw_sk rfl rfl ?_
        refine SW.nil ?_
        refine ⟨⟨j, by omega, by rw [ha, hb, heq, hd]⟩, by simp, le_sub (sub_cons ?_ (sub_cons rfl (sub_cons rfl (sub_nil _))))⟩
        rw [wrap_i64 (by omega) (by omega)]; rfl
    · have h0 : i = 0 := by simp at h; omega
      subst h0
      refine awp_exit ?_
      show AWp _ _ _ _ _ _
      refine awp_seq_sw ?_
      repeat first | refine sw_v (fun _ => rfl) trivial ?_ | refine sw_l (fun _ => rfl) trivial ?_ | refine sw_ln (fun _ => rfl) ⟨rfl, Nat.le_of_ble_eq_true rfl⟩ ?_ | refine sw_vg rfl (fun _ => rfl) trivial ?_ | refine sw_sk rfl rfl ?_
      refine SW.nil (awp_ret ?_)
      exact ⟨.inr rfl, _, rfl, by
        have : ps = qs := by simpa using hd
        rw [this, cmpI_eq]; rfl, rfl⟩

end Iso

/- Adding magnitudes. -/
namespace Iso
open Go Go.Proofs

theorem digs_under (ds : List Nat) (n : Nat) : Vs.under n (digV ds) := by
  induction ds with
  | nil => trivial
  | cons d r ih => exact ⟨trivial, ih⟩
theorem IsSl.under {ds : List Nat} {v : V} (h : IsSl ds v) (n : Nat) : v.under n := by
  rcases h with rfl | ⟨_, rfl⟩
  · exact digs_under ds n
  · trivial

/-- A magnitude: its digits, without noughts at the end. -/
def IsMag (n : Nat) (v : V) : Prop := ∃ ds, IsSl ds v ∧ Dig ds ∧ trim ds = ds ∧ val ds = n

theorem take_getD {b : List Nat} {i : Nat} : val (b.take (i + 1)) = val (b.take i) + B64 ^ i * b.getD i 0 := by
  rcases Nat.lt_or_ge i b.length with h | h
  · rw [take_succ h, val_snoc]
    have : (b.take i).length = i := by simp; omega
    rw [this, List.getD_eq_getElem?_getD, List.getElem?_eq_getElem h]; rfl
  · rw [List.take_of_length_le (by omega), List.take_of_length_le h, List.getD_eq_getElem?_getD, List.getElem?_eq_none h]; simp

theorem adc_step {r : List Nat} {c p q s t i : Nat} (hr : r.length = i) (h : val r + B64 ^ i * c = s + t) :
    val (r ++ [(p + q + c) % B64]) + B64 ^ (i + 1) * ((p + q + c) / B64) = (s + B64 ^ i * p) + (t + B64 ^ i * q) := by
  rw [val_snoc, hr, Nat.pow_succ, Nat.mul_assoc, Nat.add_assoc, ← Nat.mul_add, Nat.mod_add_div]
  have : B64 ^ i * (p + q + c) = B64 ^ i * p + B64 ^ i * q + B64 ^ i * c := by rw [Nat.mul_add, Nat.mul_add]
  omega

/-- 'mag.Add'. -/
theorem fn_add (xs ys : List Nat) (u v : V) (hu : IsSl xs u) (hv : IsSl ys v) (dx : Dig xs) (dy : Dig ys) (lx : xs.length < 2 ^ 40) (ly : ys.length < 2 ^ 40) (H : AH) :
    ∃ w, IsMag (val xs + val ys) w ∧ FN Tryz.prog 101 [u, v] H w H := by
  suffices h : ∃ w H', FN Tryz.prog 101 [u, v] H w H' ∧ (IsMag (val xs + val ys) w ∧ ∀ b, b < H.next → H'.get b = H.get b) by
    obtain ⟨w, H', h1, h2, h3⟩ := h
    obtain ⟨ds, hd, _⟩ := id h2
    exact ⟨w, h2, h1.quiet h3 (hd.under _)⟩
  refine fn_of cf101 (by simp) ?_
  show AWp _ _ _ ac101 _ _
  unfold ac101
  refine awp_seq_sw ?_
  repeat first | refine sw_v (fun _ => rfl) trivial ?_ | refine sw_l (fun _ => rfl) trivial ?_ | refine sw_ln (fun _ => rfl) ⟨rfl, Nat.le_of_ble_eq_true rfl⟩ ?_ | refine sw_vg rfl (fun _ => rfl) trivial ?_ | refine sw_sk rfl rfl ?_
  refine SW.nil ?_
  refine awp_seq_seq_sw ?_
  refine sw_v (fun _ => rfl) trivial ?_
  refine sw_v (len_sl rfl hu) trivial ?_
  refine sw_v (fun _ => rfl) trivial ?_
  refine sw_v (len_sl rfl hv) trivial ?_
  repeat first | refine sw_v (fun _ => rfl) trivial ?_ | refine sw_l (fun _ => rfl) trivial ?_ | refine sw_ln (fun _ => rfl) ⟨rfl, Nat.le_of_ble_eq_true rfl⟩ ?_ | refine sw_vg rfl (fun _ => rfl) trivial ?_ | refine sw_sk rfl rfl ?_
  refine SW.nil ?_
  refine awp_join (γ := { p : List Nat × List Nat × V × V // IsSl p.1 p.2.2.1 ∧ IsSl p.2.1 p.2.2.2 ∧ Dig p.1 ∧ Dig p.2.1 ∧ p.2.1.length ≤ p.1.length ∧ p.1.length < 2 ^ 40 ∧ val p.1 + val p.2.1 = val xs + val ys })
    (fun p => ⟨[(0, .v p.1.2.2.1), (1, .v p.1.2.2.2)], [], H⟩) ?_ ?_
  · refine awp_cond rfl (fun h => ?_) fun h => ?_
    · have hlt : xs.length < ys.length := by simpa using h
      refine awp_sw ?_
      repeat first | refine sw_v (fun _ => rfl) trivial ?_ | refine sw_l (fun _ => rfl) trivial ?_ | refine sw_ln (fun _ => rfl) ⟨rfl, Nat.le_of_ble_eq_true rfl⟩ ?_ | refine sw_vg rfl (fun _ => rfl) trivial ?_ | refine sw_sk rfl rfl ?_
      refine SW.nil ?_
      exact ⟨⟨(ys, xs, v, u), hv, hu, dy, dx, by dsimp only; omega, ly, Nat.add_comm _ _⟩, le_sub (sub_cons rfl (sub_cons rfl (sub_nil _)))⟩
    · have hge : ¬ xs.length < ys.length := by simpa using h
      refine awp_skip ?_
      exact ⟨⟨(xs, ys, u, v), hu, hv, dx, dy, by dsimp only; omega, lx, rfl⟩, le_sub (sub_cons rfl (sub_cons rfl (sub_nil _)))⟩
  rintro ⟨⟨ps, qs, u, v⟩, hu, hv, dx, dy, hle, lx, hval⟩
  dsimp only at hu hv dx dy hle lx hval ⊢
  rw [← hval]
  clear hval
  refine awp_seq_sw ?_
  refine sw_v (fun _ => rfl) trivial ?_
  refine sw_v (len_sl rfl hu) trivial ?_
  refine sw_v (fun _ => rfl) trivial ?_
  rw [wrap_i64 (x := (ps.length : Int) + 1) (by omega) (by omega), show (ps.length : Int) + 1 = ((ps.length + 1 : Nat) : Int) by omega]
  refine sw_hh [] (mks_dig rfl rfl) ⟨by omega, by omega, by omega, by omega⟩ ?_
  repeat first | refine sw_v (fun _ => rfl) trivial ?_ | refine sw_l (fun _ => rfl) trivial ?_ | refine sw_ln (fun _ => rfl) ⟨rfl, Nat.le_of_ble_eq_true rfl⟩ ?_ | refine sw_vg rfl (fun _ => rfl) trivial ?_ | refine sw_sk rfl rfl ?_
  refine SW.nil ?_
  refine awp_seq_sw ?_
  repeat first | refine sw_v (fun _ => rfl) trivial ?_ | refine sw_l (fun _ => rfl) trivial ?_ | refine sw_ln (fun _ => rfl) ⟨rfl, Nat.le_of_ble_eq_true rfl⟩ ?_ | refine sw_vg rfl (fun _ => rfl) trivial ?_ | refine sw_sk rfl rfl ?_
  refine SW.nil ?_
  refine awp_seq_seq_sw ?_
  refine sw_v (fun _ => rfl) trivial ?_
  refine sw_v (len_sl rfl hu) trivial ?_
  repeat first | refine sw_v (fun _ => rfl) trivial ?_ | refine sw_l (fun _ => rfl) trivial ?_ | refine sw_ln (fun _ => rfl) ⟨rfl, Nat.le_of_ble_eq_true rfl⟩ ?_ | refine sw_vg rfl (fun _ => rfl) trivial ?_ | refine sw_sk rfl rfl ?_
  refine SW.nil ?_
  refine awp_block ?_
  refine awp_loop (γ := { p : Nat × List Nat × Nat // p.1 ≤ ps.length ∧ p.2.1.length = p.1 ∧ Dig p.2.1 ∧ p.2.2 ≤ 1 ∧ val p.2.1 + B64 ^ p.1 * p.2.2 = val (ps.take p.1) + val (qs.take p.1) })
    (fun p => ⟨[(0, .v u), (1, .v v), (5, .v (.hs H.next 0 (ps.length + 1) 1)), (6, .v (.lit (.int .u64 (p.1.2.2 : Int)))), (21, .v u), (22, .v (.lit (.int .i64 ps.length))), (23, .v (.lit (.int .i64 (p.1.1 : Int))))], [],
      H.push (.cells (digV (p.1.2.1 ++ zeros (ps.length + 1 - p.1.1))))⟩) (fun p => ps.length - p.1.1)
    ⟨(0, [], 0), Nat.zero_le _, rfl, Dig.nil, Nat.zero_le _, by simp [val]⟩ (le_sub (sub_cons rfl (sub_cons rfl (sub_cons rfl (sub_cons rfl (sub_cons rfl (sub_cons rfl (sub_cons rfl (sub_nil _))))))))) ?_
  rintro ⟨⟨i, r, c⟩, hi, hr, dr, hc, hinv⟩
  dsimp only at hi hr dr hc hinv ⊢
  refine awp_seq_sw ?_
  repeat first | refine sw_v (fun _ => rfl) trivial ?_ | refine sw_l (fun _ => rfl) trivial ?_ | refine sw_ln (fun _ => rfl) ⟨rfl, Nat.le_of_ble_eq_true rfl⟩ ?_ | refine sw_vg rfl (fun _ => rfl) trivial ?_ | refine sw_sk rfl rfl ?_
  refine SW.nil ?_
  refine awp_seq (awp_cond rfl (fun h => ?_) fun h => ?_)
  · have hlt : i < ps.length := by simpa using h
    refine awp_skip ?_
    have ha : ps.drop i = ps[i] :: ps.drop (i + 1) := (List.getElem_cons_drop hlt).symm
    obtain rfl := hu.vs (by rintro rfl; simp at hlt)
    refine awp_seq (awp_block ?_)
    refine awp_seq_sw ?_
    repeat first | refine sw_v (fun _ => rfl) trivial ?_ | refine sw_l (fun _ => rfl) trivial ?_ | refine sw_ln (fun _ => rfl) ⟨rfl, Nat.le_of_ble_eq_true rfl⟩ ?_ | refine sw_vg rfl (fun _ => rfl) trivial ?_ | refine sw_sk rfl rfl ?_
    refine sw_v (iad_dig _ _ rfl rfl ha) ⟨by omega, by omega⟩ ?_
    repeat first | refine sw_v (fun _ => rfl) trivial ?_ | refine sw_l (fun _ => rfl) trivial ?_ | refine sw_ln (fun _ => rfl) ⟨rfl, Nat.le_of_ble_eq_true rfl⟩ ?_ | refine sw_vg rfl (fun _ => rfl) trivial ?_ | refine sw_sk rfl rfl ?_
    refine SW.nil ?_
    refine awp_seq_sw ?_
    repeat first | refine sw_v (fun _ => rfl) trivial ?_ | refine sw_l (fun _ => rfl) trivial ?_ | refine sw_ln (fun _ => rfl) ⟨rfl, Nat.le_of_ble_eq_true rfl⟩ ?_ | refine sw_vg rfl (fun _ => rfl) trivial ?_ | refine sw_sk rfl rfl ?_
    refine SW.nil ?_
    refine awp_seq_seq_sw ?_
    refine sw_v (fun _ => rfl) trivial ?_
    refine sw_v (fun _ => rfl) trivial ?_
    refine sw_v (len_sl rfl hv) trivial ?_
    repeat first | refine sw_v (fun _ => rfl) trivial ?_ | refine sw_l (fun _ => rfl) trivial ?_ | refine sw_ln (fun _ => rfl) ⟨rfl, Nat.le_of_ble_eq_true rfl⟩ ?_ | refine sw_vg rfl (fun _ => rfl) trivial ?_ | refine sw_sk rfl rfl ?_
    refine SW.nil ?_
    refine awp_join (γ := Unit) (fun _ => ⟨[(0, .v (.vs (digV ps) ps.length)), (1, .v v), (5, .v (.hs H.next 0 (ps.length + 1) 1)), (6, .v (.lit (.int .u64 (c : Int)))), (21, .v (.vs (digV ps) ps.length)), (22, .v (.lit (.int .i64 ps.length))), (23, .v (.lit (.int .i64 (i : Int)))),
        (7, .v (.lit (.int .i64 (i : Int)))), (8, .v (.lit (.int .u64 (ps[i] : Nat)))), (9, .v (.lit (.int .u64 ((qs.getD i 0 : Nat) : Int))))], [],
      H.push (.cells (digV (r ++ zeros (ps.length + 1 - i))))⟩) ?_ ?_
    · refine awp_cond rfl (fun h => ?_) fun h => ?_
      · have hq : i < qs.length := by simpa using h
        have hb : qs.drop i = qs[i] :: qs.drop (i + 1) := (List.getElem_cons_drop hq).symm
        obtain rfl := hv.vs (by rintro rfl; simp at hq)
        refine awp_sw ?_
        repeat first | refine sw_v (fun _ => rfl) trivial ?_ | refine sw_l (fun _ => rfl) trivial ?_ | refine sw_ln (fun _ => rfl) ⟨rfl, Nat.le_of_ble_eq_true rfl⟩ ?_ | refine sw_vg rfl (fun _ => rfl) trivial ?_ | refine sw_sk rfl rfl ?_
        refine sw_v (iad_dig _ _ rfl rfl hb) ⟨by omega, by omega⟩ ?_
        repeat first | refine sw_v (fun _ => rfl) trivial ?_ | refine sw_l (fun _ => rfl) trivial ?_ | refine sw_ln (fun _ => rfl) ⟨rfl, Nat.le_of_ble_eq_true rfl⟩ ?_ | refine sw_vg rfl (fun _ => rfl) trivial ?_ | refine sw_sk rfl rfl ?_
        refine SW.nil ⟨(), ?_⟩
        rw [show qs.getD i 0 = qs[i] by simp [List.getD_eq_getElem?_getD, hq]]
        exact le_sub (sub_cons rfl (sub_cons rfl (sub_cons rfl (sub_cons rfl (sub_cons rfl (sub_cons rfl (sub_cons rfl (sub_cons rfl (sub_cons rfl (sub_cons rfl (sub_nil _)))))))))))
      · have hq : ¬ i < qs.length := by simpa using h
        refine awp_skip ⟨(), ?_⟩
        rw [show qs.getD i 0 = 0 by simp [List.getD_eq_getElem?_getD, List.getElem?_eq_none (Nat.le_of_not_lt hq)]]
        exact le_sub (sub_cons rfl (sub_cons rfl (sub_cons rfl (sub_cons rfl (sub_cons rfl (sub_cons rfl (sub_cons rfl (sub_cons rfl (sub_cons rfl (sub_cons rfl (sub_nil _)))))))))))
    intro _
    refine awp_sw ?_
    repeat first | refine sw_v (fun _ => rfl) trivial ?_ | refine sw_l (fun _ => rfl) trivial ?_ | refine sw_ln (fun _ => rfl) ⟨rfl, Nat.le_of_ble_eq_true rfl⟩ ?_ | refine sw_vg rfl (fun _ => rfl) trivial ?_ | refine sw_sk rfl rfl ?_
    refine sw_v (adc_nat rfl rfl rfl) ⟨by omega, by omega, by omega, by omega⟩ ?_
    repeat first | refine sw_v (fun _ => rfl) trivial ?_ | refine sw_l (fun _ => rfl) trivial ?_ | refine sw_ln (fun _ => rfl) ⟨rfl, Nat.le_of_ble_eq_true rfl⟩ ?_ | refine sw_vg rfl (fun _ => rfl) trivial ?_ | refine sw_sk rfl rfl ?_
    refine sw_hv [] (iad_hs rfl rfl (AH.push_get _ _)) ⟨by omega, by omega, rfl⟩ ?_
    refine sw_hhn [] (st_dig rfl rfl (AH.push_get _ _) (by simp [zeros_length, hr]; omega)) ⟨rfl, by simp [digV_length, zeros_length, hr]; omega⟩ ?_
    repeat first | refine sw_v (fun _ => rfl) trivial ?_ | refine sw_l (fun _ => rfl) trivial ?_ | refine sw_ln (fun _ => rfl) ⟨rfl, Nat.le_of_ble_eq_true rfl⟩ ?_ | refine sw_vg rfl (fun _ => rfl) trivial ?_ | refine sw_sk rfl rfl ?_
    refine SW.nil ?_
    show AWp _ _ _ _ _ _
    refine awp_sw ?_
    repeat first | refine sw_v (fun _ => rfl) trivial ?_ | refine sw_l (fun _ => rfl) trivial ?_ | refine sw_ln (fun _ => rfl) ⟨rfl, Nat.le_of_ble_eq_true rfl⟩ ?_ | refine sw_vg rfl (fun _ => rfl) trivial ?_ | refine sw_sk rfl rfl ?_
    refine SW.nil ?_
    have hz : zeros (ps.length + 1 - i) = 0 :: zeros (ps.length + 1 - (i + 1)) := by
      rw [show ps.length + 1 - i = (ps.length + 1 - (i + 1)) + 1 by omega, zeros_succ]
    rw [AH.push_set, hz, show (r ++ 0 :: zeros (ps.length + 1 - (i + 1))).set i ((ps[i] + qs.getD i 0 + c) % B64) = (r ++ [(ps[i] + qs.getD i 0 + c) % B64]) ++ zeros (ps.length + 1 - (i + 1)) from set_at hr _ _ _]
    have hp := dx ps[i] (List.getElem_mem hlt)
    have hq : qs.getD i 0 < B64 := by
      rw [List.getD_eq_getElem?_getD]
      rcases Nat.lt_or_ge i qs.length with h | h
      · rw [List.getElem?_eq_getElem h]; exact dy _ (List.getElem_mem h)
      · rw [List.getElem?_eq_none h]; decide
    refine ⟨⟨(i + 1, r ++ [(ps[i] + qs.getD i 0 + c) % B64], (ps[i] + qs.getD i 0 + c) / B64), by dsimp only; omega, by simp [hr], dr.append (Dig.cons (Nat.mod_lt _ (by decide)) Dig.nil), ?_, ?_⟩, by dsimp only; omega, ?_⟩
    · dsimp only
      have : ps[i] + qs.getD i 0 + c < 2 * B64 := by omega
      exact Nat.le_of_lt_succ (Nat.div_lt_of_lt_mul (by omega))
    · dsimp only
      rw [take_getD, take_getD, show ps.getD i 0 = ps[i] by simp [List.getD_eq_getElem?_getD, hlt]]
      exact adc_step hr hinv
    · refine le_sub (sub_cons rfl (sub_cons rfl (sub_cons rfl (sub_cons rfl (sub_cons rfl (sub_cons rfl (sub_cons ?_ (sub_nil _)))))))) 
      show T.v (.lit (.int .i64 (IntKind.i64.wrap ((i : Int) + 1)))) = _
      rw [wrap_i64 (by omega) (by omega)]; rfl
  · have hin : i = ps.length := by simp at h; omega
    subst hin
    refine awp_exit ?_
    show AWp _ _ _ _ _ _
    refine awp_seq_sw ?_
    refine sw_v (fun _ => rfl) trivial ?_
    refine sw_v (fun _ => rfl) trivial ?_
    refine sw_v (len_sl rfl hu) trivial ?_
    repeat first | refine sw_v (fun _ => rfl) trivial ?_ | refine sw_l (fun _ => rfl) trivial ?_ | refine sw_ln (fun _ => rfl) ⟨rfl, Nat.le_of_ble_eq_true rfl⟩ ?_ | refine sw_vg rfl (fun _ => rfl) trivial ?_ | refine sw_sk rfl rfl ?_
    refine sw_hv [] (iad_hs rfl rfl (AH.push_get _ _)) ⟨by omega, by omega, rfl⟩ ?_
    refine sw_hhn [] (st_dig rfl rfl (AH.push_get _ _) (by simp [zeros_length, hr])) ⟨rfl, by simp [digV_length, zeros_length, hr]⟩ ?_
    refine SW.nil ?_
    rw [AH.push_set, show zeros (ps.length + 1 - ps.length) = [0] by rw [show ps.length + 1 - ps.length = 0 + 1 by omega]; rfl, show (r ++ [0] : List Nat).set ps.length c = r ++ [c] from (set_at hr [] 0 c).trans (List.append_nil _)]
    refine awp_le (le_sub (sub_cons (t := 5) rfl (sub_nil _))) ?_
    refine awp_le (le_frz1 (AH.push_get _ _) (by simp [digV_length, hr])) ?_
    obtain ⟨w, hw, fw⟩ := fn_right (r ++ [c]) (.vs (digV (r ++ [c])) (ps.length + 1)) (.inl (by simp [hr])) (by simp [hr]; omega) ((H.push (.cells (digV (r ++ [c])))).del H.next)
    refine awp_seq_sw ?_
    repeat first | refine sw_v (fun _ => rfl) trivial ?_ | refine sw_l (fun _ => rfl) trivial ?_ | refine sw_ln (fun _ => rfl) ⟨rfl, Nat.le_of_ble_eq_true rfl⟩ ?_ | refine sw_vg rfl (fun _ => rfl) trivial ?_ | refine sw_sk rfl rfl ?_
    refine sw_call rfl fw ?_
    repeat first | refine sw_v (fun _ => rfl) trivial ?_ | refine sw_l (fun _ => rfl) trivial ?_ | refine sw_ln (fun _ => rfl) ⟨rfl, Nat.le_of_ble_eq_true rfl⟩ ?_ | refine sw_vg rfl (fun _ => rfl) trivial ?_ | refine sw_sk rfl rfl ?_
    refine SW.nil (awp_ret ?_)
    refine ⟨.inr rfl, _, rfl, ⟨trim (r ++ [c]), hw, (dr.append (Dig.cons (by simp only [B64]; omega) Dig.nil)).trim, trim_trim _, ?_⟩, ?_⟩
    · rw [val_trim, val_snoc, hr]
      simp only [List.take_length] at hinv
      rw [hinv, List.take_of_length_le hle]
    · intro b hb
      dsimp only
      rw [AH.get_del, if_neg (by omega), AH.push_lt hb]

end Iso

/- Subtracting magnitudes. -/
namespace Iso
open Go Go.Proofs

theorem sbb_eq {p q c : Nat} (hp : p < B64) (hq : q < B64) (hc : c ≤ 1) : (p + B64 - q - c) % B64 + (q + c) = p + B64 * (if p < q + c then 1 else 0) := by
  simp only [B64] at *
  split <;> omega

theorem sbb_step {r : List Nat} {c p q s t i : Nat} (hp : p < B64) (hq : q < B64) (hc : c ≤ 1) (hr : r.length = i) (h : val r + t = s + B64 ^ i * c) :
    val (r ++ [(p + B64 - q - c) % B64]) + (t + B64 ^ i * q) = (s + B64 ^ i * p) + B64 ^ (i + 1) * (if p < q + c then 1 else 0) := by
  rw [val_snoc, hr, Nat.pow_succ, Nat.mul_assoc]
  have h1 : B64 ^ i * ((p + B64 - q - c) % B64) + (B64 ^ i * q + B64 ^ i * c) = B64 ^ i * p + B64 ^ i * (B64 * (if p < q + c then 1 else 0)) := by
    rw [← Nat.mul_add, ← Nat.mul_add, ← Nat.mul_add, sbb_eq hp hq hc]
  omega

/-- 'mag.Sub': nought where there is not enough. -/
theorem fn_sub (xs ys : List Nat) (u v : V) (hu : IsSl xs u) (hv : IsSl ys v) (dx : Dig xs) (dy : Dig ys) (lx : xs.length < 2 ^ 40) (ly : ys.length < 2 ^ 40) (H : AH) :
    ∃ w, IsMag (val xs - val ys) w ∧ FN Tryz.prog 108 [u, v] H w H := by
  suffices h : ∃ w H', FN Tryz.prog 108 [u, v] H w H' ∧ (IsMag (val xs - val ys) w ∧ ∀ b, b < H.next → H'.get b = H.get b) by
    obtain ⟨w, H', h1, h2, h3⟩ := h
    obtain ⟨ds, hd, _⟩ := id h2
    exact ⟨w, h2, h1.quiet h3 (hd.under _)⟩
  obtain ⟨u', hu', fu⟩ := fn_right xs u hu (by omega) H
  obtain ⟨v', hv', fv⟩ := fn_right ys v hv (by omega) H
  rw [← val_trim xs, ← val_trim ys]
  have dx := dx.trim
  have dy := dy.trim
  have lx := Nat.lt_of_le_of_lt (trim_length xs) lx
  have ly := Nat.lt_of_le_of_lt (trim_length ys) ly
  have tx := trim_trim xs
  have ty := trim_trim ys
  generalize trim xs = ps at *
  generalize trim ys = qs at *
  have fc := fn_cmp ps qs u' v' hu' hv' dx dy lx ly H
  refine fn_of cf108 (by simp) ?_
  show AWp _ _ _ ac108 _ _
  unfold ac108
  refine awp_seq_sw ?_
  repeat first | refine sw_v (fun _ => rfl) trivial ?_ | refine sw_l (fun _ => rfl) trivial ?_ | refine sw_ln (fun _ => rfl) ⟨rfl, Nat.le_of_ble_eq_true rfl⟩ ?_ | refine sw_vg rfl (fun _ => rfl) trivial ?_ | refine sw_sk rfl rfl ?_
  refine SW.nil ?_
  refine awp_seq_sw ?_
  repeat first | refine sw_v (fun _ => rfl) trivial ?_ | refine sw_l (fun _ => rfl) trivial ?_ | refine sw_ln (fun _ => rfl) ⟨rfl, Nat.le_of_ble_eq_true rfl⟩ ?_ | refine sw_vg rfl (fun _ => rfl) trivial ?_ | refine sw_sk rfl rfl ?_
  refine sw_call rfl fu ?_
  repeat first | refine sw_v (fun _ => rfl) trivial ?_ | refine sw_l (fun _ => rfl) trivial ?_ | refine sw_ln (fun _ => rfl) ⟨rfl, Nat.le_of_ble_eq_true rfl⟩ ?_ | refine sw_vg rfl (fun _ => rfl) trivial ?_ | refine sw_sk rfl rfl ?_
  refine sw_call rfl fv ?_
  repeat first | refine sw_v (fun _ => rfl) trivial ?_ | refine sw_l (fun _ => rfl) trivial ?_ | refine sw_ln (fun _ => rfl) ⟨rfl, Nat.le_of_ble_eq_true rfl⟩ ?_ | refine sw_vg rfl (fun _ => rfl) trivial ?_ | refine sw_sk rfl rfl ?_
  refine SW.nil ?_
  refine awp_seq_seq_sw ?_
  repeat first | refine sw_v (fun _ => rfl) trivial ?_ | refine sw_l (fun _ => rfl) trivial ?_ | refine sw_ln (fun _ => rfl) ⟨rfl, Nat.le_of_ble_eq_true rfl⟩ ?_ | refine sw_vg rfl (fun _ => rfl) trivial ?_ | refine sw_sk rfl rfl ?_
  refine sw_call rfl fc ?_
  repeat first | refine sw_v (fun _ => rfl) trivial ?_ | refine sw_l (fun _ => rfl) trivial ?_ | refine sw_ln (fun _ => rfl) ⟨rfl, Nat.le_of_ble_eq_true rfl⟩ ?_ | refine sw_vg rfl (fun _ => rfl) trivial ?_ | refine sw_sk rfl rfl ?_
  refine SW.nil ?_
  refine awp_cond rfl (fun h => ?_) fun h => ?_
  · have hle : val ps ≤ val qs := by
      rcases Nat.lt_or_ge (val qs) (val ps) with hh | hh
      · rw [cmpI_gt hh] at h; simp at h
      · exact hh
    refine awp_seq_sw ?_
    repeat first | refine sw_v (fun _ => rfl) trivial ?_ | refine sw_l (fun _ => rfl) trivial ?_ | refine sw_ln (fun _ => rfl) ⟨rfl, Nat.le_of_ble_eq_true rfl⟩ ?_ | refine sw_vg rfl (fun _ => rfl) trivial ?_ | refine sw_sk rfl rfl ?_
    refine SW.nil (awp_ret ?_)
    exact ⟨.inr rfl, _, rfl, ⟨[], .inr ⟨rfl, rfl⟩, Dig.nil, rfl, by simp only [val]; omega⟩, fun _ _ => rfl⟩
  have hgt : val qs < val ps := by
    rcases Nat.lt_or_ge (val qs) (val ps) with hh | hh
    · exact hh
    · rcases Nat.lt_or_ge (val ps) (val qs) with h3 | h3
      · rw [cmpI_lt h3] at h; simp at h
      · rw [show val qs = val ps by omega, cmpI_eq] at h; simp at h
  have hle : qs.length ≤ ps.length := by
    rcases Nat.lt_or_ge ps.length qs.length with hh | hh
    · have := lt_of_len dx ty hh; omega
    · exact hh
  clear h fc fu fv hu hv
  refine awp_skip ?_
  refine awp_seq_sw ?_
  refine sw_v (fun _ => rfl) trivial ?_
  refine sw_v (len_sl rfl hu') trivial ?_
  refine sw_hh [] (mks_dig rfl rfl) ⟨by omega, by omega, by omega, by omega⟩ ?_
  repeat first | refine sw_v (fun _ => rfl) trivial ?_ | refine sw_l (fun _ => rfl) trivial ?_ | refine sw_ln (fun _ => rfl) ⟨rfl, Nat.le_of_ble_eq_true rfl⟩ ?_ | refine sw_vg rfl (fun _ => rfl) trivial ?_ | refine sw_sk rfl rfl ?_
  refine SW.nil ?_
  refine awp_seq_sw ?_
  repeat first | refine sw_v (fun _ => rfl) trivial ?_ | refine sw_l (fun _ => rfl) trivial ?_ | refine sw_ln (fun _ => rfl) ⟨rfl, Nat.le_of_ble_eq_true rfl⟩ ?_ | refine sw_vg rfl (fun _ => rfl) trivial ?_ | refine sw_sk rfl rfl ?_
  refine SW.nil ?_
  refine awp_seq_seq_sw ?_
  refine sw_v (fun _ => rfl) trivial ?_
  refine sw_v (len_sl rfl hu') trivial ?_
  repeat first | refine sw_v (fun _ => rfl) trivial ?_ | refine sw_l (fun _ => rfl) trivial ?_ | refine sw_ln (fun _ => rfl) ⟨rfl, Nat.le_of_ble_eq_true rfl⟩ ?_ | refine sw_vg rfl (fun _ => rfl) trivial ?_ | refine sw_sk rfl rfl ?_
  refine SW.nil ?_
  refine awp_block ?_
  refine awp_loop (γ := { p : Nat × List Nat × Nat // p.1 ≤ ps.length ∧ p.2.1.length = p.1 ∧ Dig p.2.1 ∧ p.2.2 ≤ 1 ∧ val p.2.1 + val (qs.take p.1) = val (ps.take p.1) + B64 ^ p.1 * p.2.2 })
    (fun p => ⟨[(0, .v u'), (1, .v v'), (5, .v (.hs H.next 0 ps.length 1)), (6, .v (.lit (.int .u64 (p.1.2.2 : Int)))), (21, .v u'), (22, .v (.lit (.int .i64 ps.length))), (23, .v (.lit (.int .i64 (p.1.1 : Int))))], [],
      H.push (.cells (digV (p.1.2.1 ++ zeros (ps.length - p.1.1))))⟩) (fun p => ps.length - p.1.1)
    ⟨(0, [], 0), Nat.zero_le _, rfl, Dig.nil, Nat.zero_le _, by simp [val]⟩ (le_sub (sub_cons rfl (sub_cons rfl (sub_cons rfl (sub_cons rfl (sub_cons rfl (sub_cons rfl (sub_cons rfl (sub_nil _))))))))) ?_
  rintro ⟨⟨i, r, c⟩, hi, hr, dr, hc, hinv⟩
  dsimp only at hi hr dr hc hinv ⊢
  refine awp_seq_sw ?_
  repeat first | refine sw_v (fun _ => rfl) trivial ?_ | refine sw_l (fun _ => rfl) trivial ?_ | refine sw_ln (fun _ => rfl) ⟨rfl, Nat.le_of_ble_eq_true rfl⟩ ?_ | refine sw_vg rfl (fun _ => rfl) trivial ?_ | refine sw_sk rfl rfl ?_
  refine SW.nil ?_
  refine awp_seq (awp_cond rfl (fun h => ?_) fun h => ?_)
  · have hlt : i < ps.length := by simpa using h
    refine awp_skip ?_
    have ha : ps.drop i = ps[i] :: ps.drop (i + 1) := (List.getElem_cons_drop hlt).symm
    obtain rfl := hu'.vs (by rintro rfl; simp at hlt)
    refine awp_seq (awp_block ?_)
    refine awp_seq_sw ?_
    repeat first | refine sw_v (fun _ => rfl) trivial ?_ | refine sw_l (fun _ => rfl) trivial ?_ | refine sw_ln (fun _ => rfl) ⟨rfl, Nat.le_of_ble_eq_true rfl⟩ ?_ | refine sw_vg rfl (fun _ => rfl) trivial ?_ | refine sw_sk rfl rfl ?_
    refine sw_v (iad_dig _ _ rfl rfl ha) ⟨by omega, by omega⟩ ?_
    repeat first | refine sw_v (fun _ => rfl) trivial ?_ | refine sw_l (fun _ => rfl) trivial ?_ | refine sw_ln (fun _ => rfl) ⟨rfl, Nat.le_of_ble_eq_true rfl⟩ ?_ | refine sw_vg rfl (fun _ => rfl) trivial ?_ | refine sw_sk rfl rfl ?_
    refine SW.nil ?_
    refine awp_seq_sw ?_
    repeat first | refine sw_v (fun _ => rfl) trivial ?_ | refine sw_l (fun _ => rfl) trivial ?_ | refine sw_ln (fun _ => rfl) ⟨rfl, Nat.le_of_ble_eq_true rfl⟩ ?_ | refine sw_vg rfl (fun _ => rfl) trivial ?_ | refine sw_sk rfl rfl ?_
    refine SW.nil ?_
    refine awp_seq_seq_sw ?_
    refine sw_v (fun _ => rfl) trivial ?_
    refine sw_v (fun _ => rfl) trivial ?_
    refine sw_v (len_sl rfl hv') trivial ?_
    repeat first | refine sw_v (fun _ => rfl) trivial ?_ | refine sw_l (fun _ => rfl) trivial ?_ | refine sw_ln (fun _ => rfl) ⟨rfl, Nat.le_of_ble_eq_true rfl⟩ ?_ | refine sw_vg rfl (fun _ => rfl) trivial ?_ | refine sw_sk rfl rfl ?_
    refine SW.nil ?_
    refine awp_join (γ := Unit) (fun _ => ⟨[(0, .v (.vs (digV ps) ps.length)), (1, .v v'), (5, .v (.hs H.next 0 ps.length 1)), (6, .v (.lit (.int .u64 (c : Int)))), (21, .v (.vs (digV ps) ps.length)), (22, .v (.lit (.int .i64 ps.length))), (23, .v (.lit (.int .i64 (i : Int)))),
        (7, .v (.lit (.int .i64 (i : Int)))), (8, .v (.lit (.int .u64 (ps[i] : Nat)))), (9, .v (.lit (.int .u64 ((qs.getD i 0 : Nat) : Int))))], [],
      H.push (.cells (digV (r ++ zeros (ps.length - i))))⟩) ?_ ?_
    · refine awp_cond rfl (fun h => ?_) fun h => ?_
      · have hq : i < qs.length := by simpa using h
        have hb : qs.drop i = qs[i] :: qs.drop (i + 1) := (List.getElem_cons_drop hq).symm
        obtain rfl := hv'.vs (by rintro rfl; simp at hq)
        refine awp_sw ?_
        repeat first | refine sw_v (fun _ => rfl) trivial ?_ | refine sw_l (fun _ => rfl) trivial ?_ | refine sw_ln (fun _ => rfl) ⟨rfl, Nat.le_of_ble_eq_true rfl⟩ ?_ | refine sw_vg rfl (fun _ => rfl) trivial ?_ | refine sw_sk rfl rfl ?_
        refine sw_v (iad_dig _ _ rfl rfl hb) ⟨by omega, by omega⟩ ?_
        repeat first | refine sw_v (fun _ => rfl) trivial ?_ | refine sw_l (fun _ => rfl) trivial ?_ | refine sw_ln (fun _ => rfl) ⟨rfl, Nat.le_of_ble_eq_true rfl⟩ ?_ | refine sw_vg rfl (fun _ => rfl) trivial ?_ | refine sw_sk rfl rfl ?_
        refine SW.nil ⟨(), ?_⟩
        rw [show qs.getD i 0 = qs[i] by simp [List.getD_eq_getElem?_getD, hq]]
        exact le_sub (sub_cons rfl (sub_cons rfl (sub_cons rfl (sub_cons rfl (sub_cons rfl (sub_cons rfl (sub_cons rfl (sub_cons rfl (sub_cons rfl (sub_cons rfl (sub_nil _)))))))))))
      · have hq : ¬ i < qs.length := by simpa using h
        refine awp_skip ⟨(), ?_⟩
        rw [show qs.getD i 0 = 0 by simp [List.getD_eq_getElem?_getD, List.getElem?_eq_none (Nat.le_of_not_lt hq)]]
        exact le_sub (sub_cons rfl (sub_cons rfl (sub_cons rfl (sub_cons rfl (sub_cons rfl (sub_cons rfl (sub_cons rfl (sub_cons rfl (sub_cons rfl (sub_cons rfl (sub_nil _)))))))))))
    intro _
    have hp := dx ps[i] (List.getElem_mem hlt)
    have hq : qs.getD i 0 < B64 := by
      rw [List.getD_eq_getElem?_getD]
      rcases Nat.lt_or_ge i qs.length with h | h
      · rw [List.getElem?_eq_getElem h]; exact dy _ (List.getElem_mem h)
      · rw [List.getElem?_eq_none h]; decide
    refine awp_sw ?_
    repeat first | refine sw_v (fun _ => rfl) trivial ?_ | refine sw_l (fun _ => rfl) trivial ?_ | refine sw_ln (fun _ => rfl) ⟨rfl, Nat.le_of_ble_eq_true rfl⟩ ?_ | refine sw_vg rfl (fun _ => rfl) trivial ?_ | refine sw_sk rfl rfl ?_
    refine sw_v (sbb_nat rfl rfl rfl hp hq hc) ⟨by omega, by omega, by omega, by omega, by simp only [B64] at hp; omega, by simp only [B64] at hq; omega⟩ ?_
    repeat first | refine sw_v (fun _ => rfl) trivial ?_ | refine sw_l (fun _ => rfl) trivial ?_ | refine sw_ln (fun _ => rfl) ⟨rfl, Nat.le_of_ble_eq_true rfl⟩ ?_ | refine sw_vg rfl (fun _ => rfl) trivial ?_ | refine sw_sk rfl rfl ?_
    refine sw_hv [] (iad_hs rfl rfl (AH.push_get _ _)) ⟨by omega, by omega, rfl⟩ ?_
    refine sw_hhn [] (st_dig rfl rfl (AH.push_get _ _) (by simp [zeros_length, hr]; omega)) ⟨rfl, by simp [digV_length, zeros_length, hr]; omega⟩ ?_
    repeat first | refine sw_v (fun _ => rfl) trivial ?_ | refine sw_l (fun _ => rfl) trivial ?_ | refine sw_ln (fun _ => rfl) ⟨rfl, Nat.le_of_ble_eq_true rfl⟩ ?_ | refine sw_vg rfl (fun _ => rfl) trivial ?_ | refine sw_sk rfl rfl ?_
    refine SW.nil ?_
    show AWp _ _ _ _ _ _
    refine awp_sw ?_
    repeat first | refine sw_v (fun _ => rfl) trivial ?_ | refine sw_l (fun _ => rfl) trivial ?_ | refine sw_ln (fun _ => rfl) ⟨rfl, Nat.le_of_ble_eq_true rfl⟩ ?_ | refine sw_vg rfl (fun _ => rfl) trivial ?_ | refine sw_sk rfl rfl ?_
    refine SW.nil ?_
    have hz : zeros (ps.length - i) = 0 :: zeros (ps.length - (i + 1)) := by
      rw [show ps.length - i = (ps.length - (i + 1)) + 1 by omega, zeros_succ]
    rw [AH.push_set, hz, set_at hr]
    refine ⟨⟨(i + 1, r ++ [(ps[i] + B64 - qs.getD i 0 - c) % B64], if ps[i] < qs.getD i 0 + c then 1 else 0), by dsimp only; omega, by simp [hr], dr.append (Dig.cons (Nat.mod_lt _ (by decide)) Dig.nil), ?_, ?_⟩, by dsimp only; omega, ?_⟩
    · dsimp only
      split <;> omega
    · dsimp only
      rw [take_getD, take_getD, show ps.getD i 0 = ps[i] by simp [List.getD_eq_getElem?_getD, hlt]]
      exact sbb_step hp hq hc hr hinv
    · refine le_sub (sub_cons rfl (sub_cons rfl (sub_cons rfl (sub_cons rfl (sub_cons rfl (sub_cons rfl (sub_cons ?_ (sub_nil _)))))))) 
      show T.v (.lit (.int .i64 (IntKind.i64.wrap ((i : Int) + 1)))) = _
      rw [wrap_i64 (by omega) (by omega)]; rfl
  · have hin : i = ps.length := by simp at h; omega
    subst hin
    refine awp_exit ?_
    show AWp _ _ _ _ _ _
    refine awp_le (le_sub (sub_cons (t := 5) rfl (sub_nil _))) ?_
    rw [Nat.sub_self, show r ++ zeros 0 = r from List.append_nil r]
    refine awp_le (le_frz1 (AH.push_get _ _) (by simp [digV_length, hr])) ?_
    obtain ⟨w, hw, fw⟩ := fn_right r (.vs (digV r) ps.length) (.inl (by simp [hr])) (by omega) ((H.push (.cells (digV r))).del H.next)
    refine awp_seq_sw ?_
    repeat first | refine sw_v (fun _ => rfl) trivial ?_ | refine sw_l (fun _ => rfl) trivial ?_ | refine sw_ln (fun _ => rfl) ⟨rfl, Nat.le_of_ble_eq_true rfl⟩ ?_ | refine sw_vg rfl (fun _ => rfl) trivial ?_ | refine sw_sk rfl rfl ?_
    refine sw_call rfl fw ?_
    repeat first | refine sw_v (fun _ => rfl) trivial ?_ | refine sw_l (fun _ => rfl) trivial ?_ | refine sw_ln (fun _ => rfl) ⟨rfl, Nat.le_of_ble_eq_true rfl⟩ ?_ | refine sw_vg rfl (fun _ => rfl) trivial ?_ | refine sw_sk rfl rfl ?_
    refine SW.nil (awp_ret ?_)
    refine ⟨.inr rfl, _, rfl, ⟨trim r, hw, dr.trim, trim_trim _, ?_⟩, ?_⟩
    · rw [val_trim]
      rw [List.take_length, List.take_of_length_le hle] at hinv
      have h1 := val_lt dr
      rw [hr] at h1
      have : c = 0 := by
        rcases Nat.eq_zero_or_pos c with h | h
        · exact h
        · have : c = 1 := by omega
          subst this; omega
      subst this
      omega
    · intro b hb
      dsimp only
      rw [AH.get_del, if_neg (by omega), AH.push_lt hb]

end Iso

/- Multiplying magnitudes. -/
namespace Iso
open Go Go.Proofs

/-- 'bits.Mul64'. -/
theorem fn_mul64 (x y : Nat) (hx : x < B64) (hy : y < B64) (H : AH) :
    FN Tryz.prog 104 [.lit (.int .u64 (x : Int)), .lit (.int .u64 (y : Int))] H (.tup [.lit (.int .u64 ((x * y / B64 : Nat) : Int)), .lit (.int .u64 ((x * y % B64 : Nat) : Int))]) H := by
  suffices h : ∃ v' H', FN Tryz.prog 104 [.lit (.int .u64 (x : Int)), .lit (.int .u64 (y : Int))] H v' H' ∧ (v' = .tup [.lit (.int .u64 ((x * y / B64 : Nat) : Int)), .lit (.int .u64 ((x * y % B64 : Nat) : Int))] ∧ H' = H) by
    obtain ⟨v', H', h1, rfl, rfl⟩ := h; exact h1
  have hx1 : x / 4294967296 < 4294967296 := by simp only [B64] at hx; omega
  have hy1 : y / 4294967296 < 4294967296 := by simp only [B64] at hy; omega
  have hx0 : x % 4294967296 < 4294967296 := Nat.mod_lt _ (by decide)
  have hy0 : y % 4294967296 < 4294967296 := Nat.mod_lt _ (by decide)
  have h00 := lt32 hx0 hy0
  have h10 := lt32 hx1 hy0
  have h01 := lt32 hx0 hy1
  have h11 := lt32 hx1 hy1
  have hhi := mul64_hi x y hx hy
  have hlt : x * y / B64 < B64 := Nat.div_lt_of_lt_mul (Nat.mul_lt_mul'' hx hy)
  dsimp only at hhi
  refine fn_of cf104 (by simp) ?_
  show AWp _ _ _ ac104 _ _
  unfold ac104
  refine awp_seq_sw ?_
  repeat first | refine sw_v (fun _ => rfl) trivial ?_ | refine sw_l (fun _ => rfl) trivial ?_ | refine sw_ln (fun _ => rfl) ⟨rfl, Nat.le_of_ble_eq_true rfl⟩ ?_ | refine sw_vg rfl (fun _ => rfl) trivial ?_ | refine sw_sk rfl rfl ?_
  refine SW.nil (awp_seq_sw ?_)
  refine sw_v (fun _ => rfl) trivial ?_
  refine sw_v (u64_low32 rfl rfl hx) trivial ?_
  repeat first | refine sw_v (fun _ => rfl) trivial ?_ | refine sw_l (fun _ => rfl) trivial ?_ | refine sw_ln (fun _ => rfl) ⟨rfl, Nat.le_of_ble_eq_true rfl⟩ ?_ | refine sw_vg rfl (fun _ => rfl) trivial ?_ | refine sw_sk rfl rfl ?_
  refine SW.nil (awp_seq_sw ?_)
  refine sw_v (fun _ => rfl) trivial ?_
  refine sw_v (u64_shr32 rfl rfl) (by decide) ?_
  repeat first | refine sw_v (fun _ => rfl) trivial ?_ | refine sw_l (fun _ => rfl) trivial ?_ | refine sw_ln (fun _ => rfl) ⟨rfl, Nat.le_of_ble_eq_true rfl⟩ ?_ | refine sw_vg rfl (fun _ => rfl) trivial ?_ | refine sw_sk rfl rfl ?_
  refine SW.nil (awp_seq_sw ?_)
  refine sw_v (fun _ => rfl) trivial ?_
  refine sw_v (u64_low32 rfl rfl hy) trivial ?_
  repeat first | refine sw_v (fun _ => rfl) trivial ?_ | refine sw_l (fun _ => rfl) trivial ?_ | refine sw_ln (fun _ => rfl) ⟨rfl, Nat.le_of_ble_eq_true rfl⟩ ?_ | refine sw_vg rfl (fun _ => rfl) trivial ?_ | refine sw_sk rfl rfl ?_
  refine SW.nil (awp_seq_sw ?_)
  refine sw_v (fun _ => rfl) trivial ?_
  refine sw_v (u64_shr32 rfl rfl) (by decide) ?_
  repeat first | refine sw_v (fun _ => rfl) trivial ?_ | refine sw_l (fun _ => rfl) trivial ?_ | refine sw_ln (fun _ => rfl) ⟨rfl, Nat.le_of_ble_eq_true rfl⟩ ?_ | refine sw_vg rfl (fun _ => rfl) trivial ?_ | refine sw_sk rfl rfl ?_
  refine SW.nil (awp_seq_sw ?_)
  refine sw_v (fun _ => rfl) trivial ?_
  refine sw_v (fun _ => rfl) trivial ?_
  refine sw_v (u64_mul rfl rfl (by simp only [B64]; omega)) trivial ?_
  repeat first | refine sw_v (fun _ => rfl) trivial ?_ | refine sw_l (fun _ => rfl) trivial ?_ | refine sw_ln (fun _ => rfl) ⟨rfl, Nat.le_of_ble_eq_true rfl⟩ ?_ | refine sw_vg rfl (fun _ => rfl) trivial ?_ | refine sw_sk rfl rfl ?_
  refine SW.nil (awp_seq_sw ?_)
  refine sw_v (fun _ => rfl) trivial ?_
  refine sw_v (fun _ => rfl) trivial ?_
  refine sw_v (u64_mul rfl rfl (by simp only [B64]; omega)) trivial ?_
  refine sw_v (fun _ => rfl) trivial ?_
  refine sw_v (u64_shr32 rfl rfl) (by decide) ?_
  refine sw_v (u64_add rfl rfl (by simp only [B64]; omega)) trivial ?_
  repeat first | refine sw_v (fun _ => rfl) trivial ?_ | refine sw_l (fun _ => rfl) trivial ?_ | refine sw_ln (fun _ => rfl) ⟨rfl, Nat.le_of_ble_eq_true rfl⟩ ?_ | refine sw_vg rfl (fun _ => rfl) trivial ?_ | refine sw_sk rfl rfl ?_
  refine SW.nil (awp_seq_sw ?_)
  refine sw_v (fun _ => rfl) trivial ?_
  refine sw_v (u64_low32 rfl rfl (by simp only [B64]; omega)) trivial ?_
  repeat first | refine sw_v (fun _ => rfl) trivial ?_ | refine sw_l (fun _ => rfl) trivial ?_ | refine sw_ln (fun _ => rfl) ⟨rfl, Nat.le_of_ble_eq_true rfl⟩ ?_ | refine sw_vg rfl (fun _ => rfl) trivial ?_ | refine sw_sk rfl rfl ?_
  refine SW.nil (awp_seq_sw ?_)
  refine sw_v (fun _ => rfl) trivial ?_
  refine sw_v (u64_shr32 rfl rfl) (by decide) ?_
  repeat first | refine sw_v (fun _ => rfl) trivial ?_ | refine sw_l (fun _ => rfl) trivial ?_ | refine sw_ln (fun _ => rfl) ⟨rfl, Nat.le_of_ble_eq_true rfl⟩ ?_ | refine sw_vg rfl (fun _ => rfl) trivial ?_ | refine sw_sk rfl rfl ?_
  refine SW.nil (awp_seq_sw ?_)
  refine sw_v (fun _ => rfl) trivial ?_
  refine sw_v (fun _ => rfl) trivial ?_
  refine sw_v (fun _ => rfl) trivial ?_
  refine sw_v (u64_mul rfl rfl (by simp only [B64]; omega)) trivial ?_
  refine sw_v (u64_add rfl rfl (by simp only [B64]; omega)) trivial ?_
  repeat first | refine sw_v (fun _ => rfl) trivial ?_ | refine sw_l (fun _ => rfl) trivial ?_ | refine sw_ln (fun _ => rfl) ⟨rfl, Nat.le_of_ble_eq_true rfl⟩ ?_ | refine sw_vg rfl (fun _ => rfl) trivial ?_ | refine sw_sk rfl rfl ?_
  refine SW.nil (awp_seq_sw ?_)
  refine sw_v (fun _ => rfl) trivial ?_
  refine sw_v (fun _ => rfl) trivial ?_
  refine sw_v (u64_mul rfl rfl (by simp only [B64]; omega)) trivial ?_
  refine sw_v (fun _ => rfl) trivial ?_
  refine sw_v (u64_add rfl rfl (by simp only [B64]; omega)) trivial ?_
  refine sw_v (fun _ => rfl) trivial ?_
  refine sw_v (u64_shr32 rfl rfl) (by decide) ?_
  refine sw_v (u64_add rfl rfl (by simp only [B64] at *; omega)) trivial ?_
  repeat first | refine sw_v (fun _ => rfl) trivial ?_ | refine sw_l (fun _ => rfl) trivial ?_ | refine sw_ln (fun _ => rfl) ⟨rfl, Nat.le_of_ble_eq_true rfl⟩ ?_ | refine sw_vg rfl (fun _ => rfl) trivial ?_ | refine sw_sk rfl rfl ?_
  refine SW.nil (awp_seq_sw ?_)
  refine sw_v (fun _ => rfl) trivial ?_
  refine sw_v (fun _ => rfl) trivial ?_
  refine sw_v (u64_mulw rfl rfl) trivial ?_
  repeat first | refine sw_v (fun _ => rfl) trivial ?_ | refine sw_l (fun _ => rfl) trivial ?_ | refine sw_ln (fun _ => rfl) ⟨rfl, Nat.le_of_ble_eq_true rfl⟩ ?_ | refine sw_vg rfl (fun _ => rfl) trivial ?_ | refine sw_sk rfl rfl ?_
  refine SW.nil (awp_ret ?_)
  refine ⟨.inr rfl, _, rfl, ?_, rfl⟩
  show V.tup [.lit (.int .u64 _), .lit (.int .u64 _)] = _
  rw [← hhi]

theorem mul_step {p q c s : Nat} (hp : p < B64) (hq : q < B64) (hc : c < B64) (hs : s < B64) :
    p * q / B64 + (p * q % B64 + c + 0) / B64 < B64 ∧
    p * q / B64 + (p * q % B64 + c + 0) / B64 + (s + (p * q % B64 + c + 0) % B64 + 0) / B64 < B64 ∧
    s + p * q + c = (s + (p * q % B64 + c + 0) % B64 + 0) % B64 + B64 * (p * q / B64 + (p * q % B64 + c + 0) / B64 + (s + (p * q % B64 + c + 0) % B64 + 0) / B64) := by
  have h := Nat.mul_le_mul (Nat.le_sub_one_of_lt hp) (Nat.le_sub_one_of_lt hq)
  simp only [B64] at *
  generalize p * q = m at *
  omega

/-- 'mag.Mul'. -/
theorem fn_mul (xs ys : List Nat) (u v : V) (hu : IsSl xs u) (hv : IsSl ys v) (dx : Dig xs) (dy : Dig ys) (lx : xs.length < 2 ^ 39) (ly : ys.length < 2 ^ 39) (H : AH) :
    ∃ w, IsMag (val xs * val ys) w ∧ FN Tryz.prog 63 [u, v] H w H := by
  suffices h : ∃ w H', FN Tryz.prog 63 [u, v] H w H' ∧ (IsMag (val xs * val ys) w ∧ ∀ b, b < H.next → H'.get b = H.get b) by
    obtain ⟨w, H', h1, h2, h3⟩ := h
    obtain ⟨ds, hd, _⟩ := id h2
    exact ⟨w, h2, h1.quiet h3 (hd.under _)⟩
  refine fn_of cf63 (by simp) ?_
  show AWp _ _ _ ac63 _ _
  unfold ac63
  refine awp_seq_sw ?_
  repeat first | refine sw_v (fun _ => rfl) trivial ?_ | refine sw_l (fun _ => rfl) trivial ?_ | refine sw_ln (fun _ => rfl) ⟨rfl, Nat.le_of_ble_eq_true rfl⟩ ?_ | refine sw_vg rfl (fun _ => rfl) trivial ?_ | refine sw_sk rfl rfl ?_
  refine SW.nil (awp_seq_sw ?_)
  refine sw_v (fun _ => rfl) trivial ?_
  refine sw_v (len_sl rfl hu) trivial ?_
  refine sw_v (fun _ => rfl) trivial ?_
  refine sw_v (len_sl rfl hv) trivial ?_
  refine sw_v (i64_add rfl rfl (by omega)) trivial ?_
  refine sw_hh [] (mks_dig rfl rfl) ⟨by omega, by omega, by omega, by omega⟩ ?_
  repeat first | refine sw_v (fun _ => rfl) trivial ?_ | refine sw_l (fun _ => rfl) trivial ?_ | refine sw_ln (fun _ => rfl) ⟨rfl, Nat.le_of_ble_eq_true rfl⟩ ?_ | refine sw_vg rfl (fun _ => rfl) trivial ?_ | refine sw_sk rfl rfl ?_
  refine SW.nil (awp_seq_seq_sw ?_)
  refine sw_v (fun _ => rfl) trivial ?_
  refine sw_v (len_sl rfl hu) trivial ?_
  repeat first | refine sw_v (fun _ => rfl) trivial ?_ | refine sw_l (fun _ => rfl) trivial ?_ | refine sw_ln (fun _ => rfl) ⟨rfl, Nat.le_of_ble_eq_true rfl⟩ ?_ | refine sw_vg rfl (fun _ => rfl) trivial ?_ | refine sw_sk rfl rfl ?_
  refine SW.nil (awp_block ?_)
  refine awp_loop (γ := { p : Nat × List Nat // p.1 ≤ xs.length ∧ p.2.length = p.1 + ys.length ∧ Dig p.2 ∧ val p.2 = val (xs.take p.1) * val ys })
    (fun p => ⟨[(0, .v u), (1, .v v), (5, .v (.hs H.next 0 (xs.length + ys.length) 1)), (20, .v u), (21, .v (.lit (.int .i64 xs.length))), (22, .v (.lit (.int .i64 (p.1.1 : Int))))], [],
      H.push (.cells (digV (p.1.2 ++ zeros (xs.length - p.1.1))))⟩) (fun p => xs.length - p.1.1)
    ⟨(0, zeros ys.length), Nat.zero_le _, by simp [zeros_length], dig_zeros _, by simp [val, val_zeros]⟩ ?_ ?_
  · dsimp only
    rw [show zeros ys.length ++ zeros (xs.length - 0) = zeros (xs.length + ys.length) by simp [zeros, Nat.add_comm]]
    exact le_sub (sub_cons rfl (sub_cons rfl (sub_cons rfl (sub_cons rfl (sub_cons rfl (sub_cons rfl (sub_nil _)))))))
  rintro ⟨⟨i, r⟩, hi, hr, dr, hinv⟩
  dsimp only at hi hr dr hinv ⊢
  refine awp_seq_sw ?_
  repeat first | refine sw_v (fun _ => rfl) trivial ?_ | refine sw_l (fun _ => rfl) trivial ?_ | refine sw_ln (fun _ => rfl) ⟨rfl, Nat.le_of_ble_eq_true rfl⟩ ?_ | refine sw_vg rfl (fun _ => rfl) trivial ?_ | refine sw_sk rfl rfl ?_
  refine SW.nil (awp_seq (awp_cond rfl (fun h => ?_) fun h => ?_))
  · have hlt : i < xs.length := by simpa using h
    refine awp_skip ?_
    have ha : xs.drop i = xs[i] :: xs.drop (i + 1) := (List.getElem_cons_drop hlt).symm
    have hp := dx xs[i] (List.getElem_mem hlt)
    obtain rfl := hu.vs (by rintro rfl; simp at hlt)
    refine awp_seq (awp_block ?_)
    refine awp_seq_sw ?_
    repeat first | refine sw_v (fun _ => rfl) trivial ?_ | refine sw_l (fun _ => rfl) trivial ?_ | refine sw_ln (fun _ => rfl) ⟨rfl, Nat.le_of_ble_eq_true rfl⟩ ?_ | refine sw_vg rfl (fun _ => rfl) trivial ?_ | refine sw_sk rfl rfl ?_
    refine sw_v (iad_dig _ _ rfl rfl ha) ⟨by omega, by omega⟩ ?_
    repeat first | refine sw_v (fun _ => rfl) trivial ?_ | refine sw_l (fun _ => rfl) trivial ?_ | refine sw_ln (fun _ => rfl) ⟨rfl, Nat.le_of_ble_eq_true rfl⟩ ?_ | refine sw_vg rfl (fun _ => rfl) trivial ?_ | refine sw_sk rfl rfl ?_
    refine SW.nil (awp_seq_sw ?_)
    repeat first | refine sw_v (fun _ => rfl) trivial ?_ | refine sw_l (fun _ => rfl) trivial ?_ | refine sw_ln (fun _ => rfl) ⟨rfl, Nat.le_of_ble_eq_true rfl⟩ ?_ | refine sw_vg rfl (fun _ => rfl) trivial ?_ | refine sw_sk rfl rfl ?_
    refine SW.nil (awp_seq_seq_sw ?_)
    refine sw_v (fun _ => rfl) trivial ?_
    refine sw_v (len_sl rfl hv) trivial ?_
    repeat first | refine sw_v (fun _ => rfl) trivial ?_ | refine sw_l (fun _ => rfl) trivial ?_ | refine sw_ln (fun _ => rfl) ⟨rfl, Nat.le_of_ble_eq_true rfl⟩ ?_ | refine sw_vg rfl (fun _ => rfl) trivial ?_ | refine sw_sk rfl rfl ?_
    refine SW.nil (awp_block ?_)
    refine awp_loop (γ := { p : Nat × List Nat × Nat // p.1 ≤ ys.length ∧ p.2.1.length = i + p.1 ∧ Dig p.2.1 ∧ p.2.2 < B64 ∧ val p.2.1 + B64 ^ (i + p.1) * (p.2.2 + val (r.drop (i + p.1))) = val r + B64 ^ i * (xs[i] * val (ys.take p.1)) })
      (fun p => ⟨[(0, .v (.vs (digV xs) xs.length)), (1, .v v), (5, .v (.hs H.next 0 (xs.length + ys.length) 1)), (20, .v (.vs (digV xs) xs.length)), (21, .v (.lit (.int .i64 xs.length))), (22, .v (.lit (.int .i64 (i : Int)))),
          (6, .v (.lit (.int .i64 (i : Int)))), (7, .v (.lit (.int .u64 ((xs[i] : Nat) : Int)))), (8, .v (.lit (.int .u64 (p.1.2.2 : Int)))), (27, .v v), (28, .v (.lit (.int .i64 ys.length))), (29, .v (.lit (.int .i64 (p.1.1 : Int))))], [],
        H.push (.cells (digV (p.1.2.1 ++ (r.drop (i + p.1.1) ++ zeros (xs.length - i)))))⟩) (fun p => ys.length - p.1.1)
      ⟨(0, r.take i, 0), Nat.zero_le _, by simp; omega, dr.take i, (by decide : 0 < B64), ?_⟩ ?_ ?_
    · dsimp only
      have := val_append (r.take i) (r.drop i)
      rw [List.take_append_drop] at this
      have hl : (r.take i).length = i := by simp; omega
      rw [hl] at this
      simp [val, this]
    · dsimp only
      rw [← List.append_assoc, show List.drop (i + 0) r = List.drop i r from rfl, List.take_append_drop]
      exact le_sub (sub_cons rfl (sub_cons rfl (sub_cons rfl (sub_cons rfl (sub_cons rfl (sub_cons rfl (sub_cons rfl (sub_cons rfl (sub_cons rfl (sub_cons rfl (sub_cons rfl (sub_cons rfl (sub_nil _)))))))))))))
    rintro ⟨⟨j, a, c⟩, hj, hal, da, hc, hin⟩
    dsimp only at hj hal da hc hin ⊢
    refine awp_seq_sw ?_
    repeat first | refine sw_v (fun _ => rfl) trivial ?_ | refine sw_l (fun _ => rfl) trivial ?_ | refine sw_ln (fun _ => rfl) ⟨rfl, Nat.le_of_ble_eq_true rfl⟩ ?_ | refine sw_vg rfl (fun _ => rfl) trivial ?_ | refine sw_sk rfl rfl ?_
    refine SW.nil (awp_seq (awp_cond rfl (fun h => ?_) fun h => ?_))
    · have hjl : j < ys.length := by simpa using h
      refine awp_skip ?_
      have hb : ys.drop j = ys[j] :: ys.drop (j + 1) := (List.getElem_cons_drop hjl).symm
      have hq := dy ys[j] (List.getElem_mem hjl)
      have hrj : i + j < r.length := by omega
      have hrd : r.drop (i + j) = r[i + j] :: r.drop (i + j + 1) := (List.getElem_cons_drop hrj).symm
      have hs := dr r[i + j] (List.getElem_mem hrj)
      obtain ⟨m1, m2, m3⟩ := mul_step hp hq hc hs
      obtain rfl := hv.vs (by rintro rfl; simp at hjl)
      refine awp_seq (awp_block ?_)
      refine awp_seq_sw ?_
      repeat first | refine sw_v (fun _ => rfl) trivial ?_ | refine sw_l (fun _ => rfl) trivial ?_ | refine sw_ln (fun _ => rfl) ⟨rfl, Nat.le_of_ble_eq_true rfl⟩ ?_ | refine sw_vg rfl (fun _ => rfl) trivial ?_ | refine sw_sk rfl rfl ?_
      refine sw_v (iad_dig _ _ rfl rfl hb) ⟨by omega, by omega⟩ ?_
      repeat first | refine sw_v (fun _ => rfl) trivial ?_ | refine sw_l (fun _ => rfl) trivial ?_ | refine sw_ln (fun _ => rfl) ⟨rfl, Nat.le_of_ble_eq_true rfl⟩ ?_ | refine sw_vg rfl (fun _ => rfl) trivial ?_ | refine sw_sk rfl rfl ?_
      refine SW.nil (awp_seq_sw ?_)
      repeat first | refine sw_v (fun _ => rfl) trivial ?_ | refine sw_l (fun _ => rfl) trivial ?_ | refine sw_ln (fun _ => rfl) ⟨rfl, Nat.le_of_ble_eq_true rfl⟩ ?_ | refine sw_vg rfl (fun _ => rfl) trivial ?_ | refine sw_sk rfl rfl ?_
      refine sw_call rfl (fn_mul64 _ _ hp hq _) ?_
      repeat first | refine sw_v (fun _ => rfl) trivial ?_ | refine sw_l (fun _ => rfl) trivial ?_ | refine sw_ln (fun _ => rfl) ⟨rfl, Nat.le_of_ble_eq_true rfl⟩ ?_ | refine sw_vg rfl (fun _ => rfl) trivial ?_ | refine sw_sk rfl rfl ?_
      refine SW.nil (awp_seq_sw ?_)
      repeat first | refine sw_v (fun _ => rfl) trivial ?_ | refine sw_l (fun _ => rfl) trivial ?_ | refine sw_ln (fun _ => rfl) ⟨rfl, Nat.le_of_ble_eq_true rfl⟩ ?_ | refine sw_vg rfl (fun _ => rfl) trivial ?_ | refine sw_sk rfl rfl ?_
      refine SW.nil (awp_seq_sw ?_)
      repeat first | refine sw_v (fun _ => rfl) trivial ?_ | refine sw_l (fun _ => rfl) trivial ?_ | refine sw_ln (fun _ => rfl) ⟨rfl, Nat.le_of_ble_eq_true rfl⟩ ?_ | refine sw_vg rfl (fun _ => rfl) trivial ?_ | refine sw_sk rfl rfl ?_
      refine sw_v (adc_nat (r := 0) rfl rfl rfl) ⟨by omega, by omega, by omega, by omega⟩ ?_
      repeat first | refine sw_v (fun _ => rfl) trivial ?_ | refine sw_l (fun _ => rfl) trivial ?_ | refine sw_ln (fun _ => rfl) ⟨rfl, Nat.le_of_ble_eq_true rfl⟩ ?_ | refine sw_vg rfl (fun _ => rfl) trivial ?_ | refine sw_sk rfl rfl ?_
      refine SW.nil (awp_seq_sw ?_)
      refine sw_v (fun _ => rfl) trivial ?_
      refine sw_v (fun _ => rfl) trivial ?_
      refine sw_v (u64_add rfl rfl m1) trivial ?_
      repeat first | refine sw_v (fun _ => rfl) trivial ?_ | refine sw_l (fun _ => rfl) trivial ?_ | refine sw_ln (fun _ => rfl) ⟨rfl, Nat.le_of_ble_eq_true rfl⟩ ?_ | refine sw_vg rfl (fun _ => rfl) trivial ?_ | refine sw_sk rfl rfl ?_
      refine SW.nil (awp_seq_sw ?_)
      refine sw_v (fun _ => rfl) trivial ?_
      refine sw_v (fun _ => rfl) trivial ?_
      refine sw_v (fun _ => rfl) trivial ?_
      refine sw_v (i64_add rfl rfl (by omega)) trivial ?_
      refine sw_v (fun _ => rfl) trivial ?_
      refine sw_v (fun _ => rfl) trivial ?_
      refine sw_v (fun _ => rfl) trivial ?_
      refine sw_v (i64_add rfl rfl (by omega)) trivial ?_
      refine sw_hv [] (iad_hs rfl rfl (AH.push_get _ _)) ⟨by omega, by omega, rfl⟩ ?_
      refine sw_hv [] (ld_dig (e := r[i + j]) rfl (AH.push_get _ _) (by rw [List.getElem?_append_right (by omega), hal, Nat.sub_self, hrd]; rfl)) trivial ?_
      refine sw_v (fun _ => rfl) trivial ?_
      refine sw_v (adc_nat (r := 0) rfl rfl rfl) ⟨by omega, by omega, by omega, by omega⟩ ?_
      repeat first | refine sw_v (fun _ => rfl) trivial ?_ | refine sw_l (fun _ => rfl) trivial ?_ | refine sw_ln (fun _ => rfl) ⟨rfl, Nat.le_of_ble_eq_true rfl⟩ ?_ | refine sw_vg rfl (fun _ => rfl) trivial ?_ | refine sw_sk rfl rfl ?_
      refine sw_hv [] (iad_hs rfl rfl (AH.push_get _ _)) ⟨by omega, by omega, rfl⟩ ?_
      refine sw_hhn [] (st_dig rfl rfl (AH.push_get _ _) (by simp [zeros_length, hal, hr]; omega)) ⟨rfl, by simp [digV_length, zeros_length, hal, hr]; omega⟩ ?_
      repeat first | refine sw_v (fun _ => rfl) trivial ?_ | refine sw_l (fun _ => rfl) trivial ?_ | refine sw_ln (fun _ => rfl) ⟨rfl, Nat.le_of_ble_eq_true rfl⟩ ?_ | refine sw_vg rfl (fun _ => rfl) trivial ?_ | refine sw_sk rfl rfl ?_
      refine SW.nil ?_
      refine awp_sw ?_
      refine sw_v (fun _ => rfl) trivial ?_
      refine sw_v (fun _ => rfl) trivial ?_
      refine sw_v (u64_add rfl rfl m2) trivial ?_
      repeat first | refine sw_v (fun _ => rfl) trivial ?_ | refine sw_l (fun _ => rfl) trivial ?_ | refine sw_ln (fun _ => rfl) ⟨rfl, Nat.le_of_ble_eq_true rfl⟩ ?_ | refine sw_vg rfl (fun _ => rfl) trivial ?_ | refine sw_sk rfl rfl ?_
      refine SW.nil ?_
      show AWp _ _ _ _ _ _
      refine awp_sw ?_
      refine sw_v (i64_inc rfl rfl (by omega)) trivial ?_
      repeat first | refine sw_v (fun _ => rfl) trivial ?_ | refine sw_l (fun _ => rfl) trivial ?_ | refine sw_ln (fun _ => rfl) ⟨rfl, Nat.le_of_ble_eq_true rfl⟩ ?_ | refine sw_vg rfl (fun _ => rfl) trivial ?_ | refine sw_sk rfl rfl ?_
      refine SW.nil ?_
      rw [AH.push_set, hrd, List.cons_append, set_at hal]
      refine ⟨⟨(j + 1, a ++ [(r[i + j] + (xs[i] * ys[j] % B64 + c + 0) % B64 + 0) % B64], _), by dsimp only; omega, ?_, da.append (Dig.cons (Nat.mod_lt _ (by decide)) Dig.nil), m2, ?_⟩, by dsimp only; omega, ?_⟩
      · simp [hal]; omega
      · dsimp only
        rw [val_snoc, hal, take_getD, show ys.getD j 0 = ys[j] by simp [List.getD_eq_getElem?_getD, hjl], ← Nat.add_assoc i j 1, Nat.pow_succ, Nat.mul_assoc]
        rw [hrd] at hin
        simp only [val] at hin
        have e1 : B64 ^ i * (xs[i] * (val (ys.take j) + B64 ^ j * ys[j])) = B64 ^ i * (xs[i] * val (ys.take j)) + B64 ^ (i + j) * (xs[i] * ys[j]) := by
          rw [Nat.pow_add]; grind
        rw [e1]
        generalize hS : (r[i + j] + (xs[i] * ys[j] % B64 + c + 0) % B64 + 0) % B64 = S at *
        generalize hC : xs[i] * ys[j] / B64 + (xs[i] * ys[j] % B64 + c + 0) / B64 + (r[i + j] + (xs[i] * ys[j] % B64 + c + 0) % B64 + 0) / B64 = C at *
        have e2 : B64 ^ (i + j) * (r[i + j] + xs[i] * ys[j] + c) = B64 ^ (i + j) * (S + B64 * C) := by rw [m3]
        rw [Nat.mul_add, Nat.mul_add] at e2
        rw [Nat.mul_add, Nat.mul_add] at hin
        rw [Nat.mul_add B64 C, Nat.mul_add (B64 ^ (i + j)) (B64 * C)]
        rw [Nat.mul_add] at e2
        omega
      · refine le_sub (sub_cons rfl (sub_cons rfl (sub_cons rfl (sub_cons rfl (sub_cons rfl (sub_cons rfl (sub_cons rfl (sub_cons rfl (sub_cons rfl (sub_cons rfl (sub_cons rfl (sub_cons rfl (sub_nil _)))))))))))))
    · have hjm : j = ys.length := by simp at h; omega
      subst hjm
      refine awp_exit ?_
      show AWp _ _ _ _ _ _
      have hz : zeros (xs.length - i) = 0 :: zeros (xs.length - (i + 1)) := by
        rw [show xs.length - i = (xs.length - (i + 1)) + 1 by omega, zeros_succ]
      have hrn : r.drop (i + ys.length) = [] := List.drop_eq_nil_of_le (by omega)
      refine awp_sw ?_
      refine sw_v (fun _ => rfl) trivial ?_
      refine sw_v (fun _ => rfl) trivial ?_
      refine sw_v (fun _ => rfl) trivial ?_
      refine sw_v (len_sl rfl hv) trivial ?_
      refine sw_v (i64_add rfl rfl (by omega)) trivial ?_
      refine sw_v (fun _ => rfl) trivial ?_
      refine sw_hv [] (iad_hs rfl rfl (AH.push_get _ _)) ⟨by omega, by omega, rfl⟩ ?_
      refine sw_hhn [] (st_dig rfl rfl (AH.push_get _ _) (by simp [zeros_length, hal, hr]; omega)) ⟨rfl, by simp [digV_length, zeros_length, hal, hr]; omega⟩ ?_
      refine SW.nil ?_
      show AWp _ _ _ _ _ _
      refine awp_sw ?_
      refine sw_v (i64_inc rfl rfl (by omega)) trivial ?_
      repeat first | refine sw_v (fun _ => rfl) trivial ?_ | refine sw_l (fun _ => rfl) trivial ?_ | refine sw_ln (fun _ => rfl) ⟨rfl, Nat.le_of_ble_eq_true rfl⟩ ?_ | refine sw_vg rfl (fun _ => rfl) trivial ?_ | refine sw_sk rfl rfl ?_
      refine SW.nil ?_
      rw [AH.push_set, hrn, List.nil_append, hz, set_at hal]
      refine ⟨⟨(i + 1, a ++ [c]), by dsimp only; omega, by simp [hal]; omega, da.append (Dig.cons hc Dig.nil), ?_⟩, by dsimp only; omega, ?_⟩
      · dsimp only
        rw [val_snoc, hal, take_getD, show xs.getD i 0 = xs[i] by simp [List.getD_eq_getElem?_getD, hlt]]
        rw [hrn, List.take_length] at hin
        simp only [val, Nat.add_zero] at hin
        rw [hin, hinv]; grind
      · exact le_sub (sub_cons rfl (sub_cons rfl (sub_cons rfl (sub_cons rfl (sub_cons rfl (sub_cons rfl (sub_nil _)))))))
  · have hin : i = xs.length := by simp at h; omega
    subst hin
    refine awp_exit ?_
    show AWp _ _ _ _ _ _
    refine awp_le (le_sub (sub_cons (t := 5) rfl (sub_nil _))) ?_
    rw [Nat.sub_self, show r ++ zeros 0 = r from List.append_nil r]
    refine awp_le (le_frz1 (AH.push_get _ _) (by simp [digV_length, hr])) ?_
    obtain ⟨w, hw, fw⟩ := fn_right r (.vs (digV r) (xs.length + ys.length)) (.inl (by simp [hr])) (by omega) ((H.push (.cells (digV r))).del H.next)
    refine awp_seq_sw ?_
    repeat first | refine sw_v (fun _ => rfl) trivial ?_ | refine sw_l (fun _ => rfl) trivial ?_ | refine sw_ln (fun _ => rfl) ⟨rfl, Nat.le_of_ble_eq_true rfl⟩ ?_ | refine sw_vg rfl (fun _ => rfl) trivial ?_ | refine sw_sk rfl rfl ?_
    refine sw_call rfl fw ?_
    repeat first | refine sw_v (fun _ => rfl) trivial ?_ | refine sw_l (fun _ => rfl) trivial ?_ | refine sw_ln (fun _ => rfl) ⟨rfl, Nat.le_of_ble_eq_true rfl⟩ ?_ | refine sw_vg rfl (fun _ => rfl) trivial ?_ | refine sw_sk rfl rfl ?_
    refine SW.nil (awp_ret ?_)
    refine ⟨.inr rfl, _, rfl, ⟨trim r, hw, dr.trim, trim_trim _, ?_⟩, ?_⟩
    · rw [val_trim, hinv, List.take_length]
    · intro b hb
      dsimp only
      rw [AH.get_del, if_neg (by omega), AH.push_lt hb]

end Iso

/- Whole numbers with a sign. -/
namespace Iso
open Go Go.Proofs

/-- 'mag.Of'. -/
theorem fn_magOf (x : Nat) (hx : x < B64) (H : AH) : ∃ w, IsMag x w ∧ FN Tryz.prog 82 [.lit (.int .u64 (x : Int))] H w H := by
  suffices h : ∃ w H', FN Tryz.prog 82 [.lit (.int .u64 (x : Int))] H w H' ∧ (IsMag x w ∧ H' = H) by
    obtain ⟨w, H', h1, h2, rfl⟩ := h; exact ⟨w, h2, h1⟩
  obtain ⟨w, hw, fw⟩ := fn_right [x] (.vs (digV [x]) 1) (.inl rfl) (by simp) H
  refine fn_of cf82 (by simp) ?_
  show AWp _ _ _ ac82 _ _
  unfold ac82
  refine awp_seq_sw ?_
  repeat first | refine sw_v (fun _ => rfl) trivial ?_ | refine sw_l (fun _ => rfl) trivial ?_ | refine sw_ln (fun _ => rfl) ⟨rfl, Nat.le_of_ble_eq_true rfl⟩ ?_ | refine sw_vg rfl (fun _ => rfl) trivial ?_ | refine sw_sk rfl rfl ?_
  refine SW.nil (awp_seq_sw ?_)
  repeat first | refine sw_v (fun _ => rfl) trivial ?_ | refine sw_l (fun _ => rfl) trivial ?_ | refine sw_ln (fun _ => rfl) ⟨rfl, Nat.le_of_ble_eq_true rfl⟩ ?_ | refine sw_vg rfl (fun _ => rfl) trivial ?_ | refine sw_sk rfl rfl ?_
  refine sw_call rfl fw ?_
  repeat first | refine sw_v (fun _ => rfl) trivial ?_ | refine sw_l (fun _ => rfl) trivial ?_ | refine sw_ln (fun _ => rfl) ⟨rfl, Nat.le_of_ble_eq_true rfl⟩ ?_ | refine sw_vg rfl (fun _ => rfl) trivial ?_ | refine sw_sk rfl rfl ?_
  refine SW.nil (awp_ret ?_)
  exact ⟨.inr rfl, _, rfl, ⟨trim [x], hw, Dig.trim (Dig.cons hx Dig.nil), trim_trim _, by rw [val_trim]; simp [val]⟩, rfl⟩

def IsNum (z : Int) (v : V) : Prop := ∃ m, v = .agg [.lit (.bool (decide (z < 0))), m] ∧ IsMag z.natAbs m

def BIG : Nat := 2 ^ 4096

/-- A magnitude of bounded size is a short row. -/
theorem short {n : Nat} {ds : List Nat} (ht : trim ds = ds) (hv : val ds = n) (hn : n < BIG * BIG) : ds.length < 2 ^ 39 := by
  rcases Nat.lt_or_ge ds.length 200 with h | h
  · exact Nat.lt_trans h (by decide)
  · exfalso
    have h1 := pow_le_val ht (by rintro rfl; simp at h)
    have h2 : B64 ^ 128 ≤ B64 ^ (ds.length - 1) := Nat.pow_le_pow_right (by decide) (by omega)
    have h3 : BIG * BIG = B64 ^ 128 := by decide +kernel
    omega

theorem bool_lit {b c : Bool} (h : b = c) : T.v (.lit (.bool b)) = T.v (.lit (.bool c)) := by rw [h]

/-- 'num.Make'. -/
theorem fn_numMake (b : Bool) (n : Nat) (m : V) (hm : IsMag n m) (hn : n < BIG * BIG) (H : AH) : ∃ w, IsNum (if b then -(n : Int) else n) w ∧ FN Tryz.prog 96 [.lit (.bool b), m] H w H := by
  suffices h : ∃ w H', FN Tryz.prog 96 [.lit (.bool b), m] H w H' ∧ (IsNum (if b then -(n : Int) else n) w ∧ H' = H) by
    obtain ⟨w, H', h1, h2, rfl⟩ := h; exact ⟨w, h2, h1⟩
  obtain ⟨ds, hs, hd, ht, hv⟩ := hm
  have hl := short ht hv hn
  obtain ⟨m', hm', fa⟩ := fn_add ds [] m (.lit (.slice none 0 0)) hs (.inr ⟨rfl, rfl⟩) hd Dig.nil (by omega) (by simp) H
  rw [hv, show val [] = 0 from rfl, Nat.add_zero] at hm'
  obtain ⟨es, hes, hde, hte, hve⟩ := id hm'
  have im := hes.imm
  refine fn_of cf96 (by simp) ?_
  show AWp _ _ _ ac96 _ _
  unfold ac96
  refine awp_seq_sw ?_
  repeat first | refine sw_v (fun _ => rfl) trivial ?_ | refine sw_l (fun _ => rfl) trivial ?_ | refine sw_ln (fun _ => rfl) ⟨rfl, Nat.le_of_ble_eq_true rfl⟩ ?_ | refine sw_vg rfl (fun _ => rfl) trivial ?_ | refine sw_sk rfl rfl ?_
  refine SW.nil (awp_seq_sw ?_)
  repeat first | refine sw_v (fun _ => rfl) trivial ?_ | refine sw_l (fun _ => rfl) trivial ?_ | refine sw_ln (fun _ => rfl) ⟨rfl, Nat.le_of_ble_eq_true rfl⟩ ?_ | refine sw_vg rfl (fun _ => rfl) trivial ?_ | refine sw_sk rfl rfl ?_
  refine sw_call rfl fa ?_
  repeat first | refine sw_v (fun _ => rfl) trivial ?_ | refine sw_l (fun _ => rfl) trivial ?_ | refine sw_ln (fun _ => rfl) ⟨rfl, Nat.le_of_ble_eq_true rfl⟩ ?_ | refine sw_vg rfl (fun _ => rfl) trivial ?_ | refine sw_sk rfl rfl ?_
  refine SW.nil (awp_seq_sw ?_)
  have fin : ∀ A : Env, ∀ c : Bool, (c = decide ((if b then -(n : Int) else n) < 0)) → A.get 12 = .v (.lit (.bool c)) → A.get 1 = .v m' → A.get 4 = .lp 4 0 →
      SW Tryz.prog none 15 [⟨some 13, none, .mv (.t 1)⟩, ⟨some 14, none, .bld [.lit (.bool false), .lit (.slice none 0 0)] [(0, 1, .t 12), (1, 1, .t 13)]⟩, ⟨none, none, .st 2 (.t 4) (.t 14)⟩]
        (fun s' => AWp Tryz.prog none 15 .ret (fun e s' => (e = Exit.normal ∨ e = Exit.ret) ∧ ∃ vs, resVs s' [.cell 4 true 2] = some vs ∧ IsNum (if b then -(n : Int) else n) (resT vs) ∧ s'.H = H) s')
        ⟨A, [(4, [.lit (.bool false), .lit (.slice none 0 0)])], H⟩ := by
    intro A c hc h12 h1 h4
    refine sw_v (x := .v m') (fun _ => by simp only [aopE, Opd.ev, h1]) trivial ?_
    refine sw_v (bld_of [.lit (.bool c), m'] (fill_cons (u := .lit (.bool c)) (l := [.lit (.bool c)]) (by simp [Opd.ev, Env.get, h12]) (fun _ => rfl) ⟨rfl, Nat.le_of_ble_eq_true rfl⟩ rfl (fill_cons (u := m') rfl im.cell ⟨rfl, Nat.le_of_ble_eq_true rfl⟩ rfl fill_nil))) trivial ?_
    refine sw_ln (st_agg [.lit (.bool c), m'] (t := 4) (o := 0) (by simp [Opd.ev, Env.get, h4]) rfl (Imms.cons (imm_bool c) (Imms.cons im Imms.nil)) rfl rfl) ⟨rfl, Nat.le_of_ble_eq_true rfl⟩ ?_
    refine SW.nil (awp_ret ⟨.inr rfl, [.agg [.lit (.bool c), m']], ?_, ?_, rfl⟩)
    · simp [resVs, resV1, Env.get, h4, Loc.get, rd]
    · refine ⟨m', by rw [← hc]; rfl, ?_⟩
      have : (if b then -(n : Int) else n).natAbs = n := by cases b <;> simp
      rw [this]; exact hm'
  cases b with
  | false =>
    refine sw_v (fun _ => rfl) trivial ?_
    refine sw_v (fun _ => rfl) trivial ?_
    refine sw_sk rfl rfl ?_
    refine sw_sk rfl rfl ?_
    refine sw_sk rfl rfl ?_
    refine sw_v (fun _ => rfl) trivial ?_
    exact fin _ false (by simp) rfl rfl rfl
  | true =>
    refine sw_v (fun _ => rfl) trivial ?_
    refine sw_v (fun _ => rfl) trivial ?_
    refine sw_vg rfl (fun _ => rfl) trivial ?_
    refine sw_vg rfl (len_sl rfl hes) trivial ?_
    refine sw_vg rfl (fun _ => rfl) trivial ?_
    refine sw_v (fun _ => rfl) trivial ?_
    refine fin _ (decide ((es.length : Int) > 0)) ?_ rfl rfl rfl
    have : es = [] ↔ n = 0 := by rw [← hve]; exact (val_eq_zero hte).symm
    cases es with
    | nil => simp [this.1 rfl]
    | cons e r => have : n ≠ 0 := fun h => by simp at this; exact this h
                  simp; omega

end Iso

/- Whole numbers with a sign: adding, multiplying. -/
namespace Iso
open Go Go.Proofs

theorem IsMag.sl {n : Nat} {v : V} (h : IsMag n v) : Imm v := let ⟨_, h1, _⟩ := h; h1.imm
theorem IsNum.of_make {z : Int} {b : Bool} {n : Nat} {w : V} (h : IsNum (if b then -(n : Int) else n) w) (e : (if b then -(n : Int) else n) = z) : IsNum z w := e ▸ h
theorem num_imms {b : Bool} {m : V} (h : Imm m) : Imms [.lit (.bool b), m] := Imms.cons (imm_bool b) (Imms.cons h Imms.nil)
theorem le_sq_pow {n k : Nat} (h : n = 2 ^ k) : n ≤ n * n := by
  subst h
  exact Nat.le_mul_of_pos_left _ (Nat.two_pow_pos k)
theorem BIG_le : BIG ≤ BIG * BIG := le_sq_pow BIG.eq_1

/-- What the specifications of functions promise, the heap being as it was. -/
theorem fn_ex {f : Nat} {args : List V} {H : AH} {R : V → Prop} (h : ∃ w H', FN Tryz.prog f args H w H' ∧ (R w ∧ H' = H)) : ∃ w, R w ∧ FN Tryz.prog f args H w H := by
  obtain ⟨w, H', h1, h2, rfl⟩ := h; exact ⟨w, h2, h1⟩

/-- 'num.Neg'. -/
theorem fn_numNeg (z : Int) (v : V) (hv : IsNum z v) (hz : z.natAbs < BIG * BIG) (H : AH) : ∃ w, IsNum (-z) w ∧ FN Tryz.prog 61 [v] H w H := by
  refine fn_ex ?_
  obtain ⟨m, rfl, hm⟩ := hv
  obtain ⟨w, hw, fw⟩ := fn_numMake (!decide (z < 0)) z.natAbs m hm hz H
  have hw := hw.of_make (z := -z) (by by_cases h : z < 0 <;> simp [h] <;> omega)
  obtain ⟨m', rfl, hm'⟩ := hw
  refine fn_of cf61 (by simp) ?_
  show AWp _ _ _ ac61 _ _
  unfold ac61
  refine awp_seq_sw ?_
  refine sw_l (box_agg rfl (num_imms hm.sl) rfl) trivial ?_
  repeat first | refine sw_v (fun _ => rfl) trivial ?_ | refine sw_l (fun _ => rfl) trivial ?_ | refine sw_ln (fun _ => rfl) ⟨rfl, Nat.le_of_ble_eq_true rfl⟩ ?_ | refine sw_vg rfl (fun _ => rfl) trivial ?_ | refine sw_sk rfl rfl ?_
  refine SW.nil (awp_seq_sw ?_)
  repeat first | refine sw_v (fun _ => rfl) trivial ?_ | refine sw_l (fun _ => rfl) trivial ?_ | refine sw_ln (fun _ => rfl) ⟨rfl, Nat.le_of_ble_eq_true rfl⟩ ?_ | refine sw_vg rfl (fun _ => rfl) trivial ?_ | refine sw_sk rfl rfl ?_
  refine sw_call rfl fw ?_
  refine sw_ln (st_agg [_, _] rfl rfl (num_imms hm'.sl) rfl rfl) ⟨rfl, Nat.le_of_ble_eq_true rfl⟩ ?_
  refine SW.nil (awp_ret ?_)
  exact ⟨.inr rfl, _, rfl, ⟨m', rfl, hm'⟩, rfl⟩

/-- 'num.Of'. -/
theorem fn_numOf (z : Int) (h1 : -9223372036854775808 ≤ z) (h2 : z < 9223372036854775808) (H : AH) : ∃ w, IsNum z w ∧ FN Tryz.prog 45 [.lit (.int .i64 z)] H w H := by
  refine fn_ex ?_
  obtain ⟨w, hw, fw⟩ := fn_magOf z.natAbs (by simp only [B64]; omega) H
  refine fn_of cf45 (by simp) ?_
  show AWp _ _ _ ac45 _ _
  unfold ac45
  refine awp_seq_sw ?_
  repeat first | refine sw_v (fun _ => rfl) trivial ?_ | refine sw_l (fun _ => rfl) trivial ?_ | refine sw_ln (fun _ => rfl) ⟨rfl, Nat.le_of_ble_eq_true rfl⟩ ?_ | refine sw_vg rfl (fun _ => rfl) trivial ?_ | refine sw_sk rfl rfl ?_
  refine SW.nil (awp_seq_seq_sw ?_)
  repeat first | refine sw_v (fun _ => rfl) trivial ?_ | refine sw_l (fun _ => rfl) trivial ?_ | refine sw_ln (fun _ => rfl) ⟨rfl, Nat.le_of_ble_eq_true rfl⟩ ?_ | refine sw_vg rfl (fun _ => rfl) trivial ?_ | refine sw_sk rfl rfl ?_
  refine SW.nil ?_
  refine awp_cond rfl (fun h => ?_) fun h => ?_
  · have hz : z < 0 := by simpa using h
    refine awp_seq_sw ?_
    repeat first | refine sw_v (fun _ => rfl) trivial ?_ | refine sw_l (fun _ => rfl) trivial ?_ | refine sw_ln (fun _ => rfl) ⟨rfl, Nat.le_of_ble_eq_true rfl⟩ ?_ | refine sw_vg rfl (fun _ => rfl) trivial ?_ | refine sw_sk rfl rfl ?_
    rw [show IntKind.u64.wrap (0 - IntKind.u64.wrap z) = (z.natAbs : Int) from by rw [IntKind.wrap_u64, IntKind.wrap_u64]; omega]
    refine sw_call rfl fw ?_
    refine sw_v (bld_of [.lit (.bool true), w] (fill_cons (u := .lit (.bool true)) (l := [.lit (.bool true)]) rfl (fun _ => rfl) ⟨rfl, Nat.le_of_ble_eq_true rfl⟩ rfl (fill_cons (u := w) rfl hw.sl.cell ⟨rfl, Nat.le_of_ble_eq_true rfl⟩ rfl fill_nil))) trivial ?_
    refine sw_ln (st_agg [_, _] rfl rfl (num_imms hw.sl) rfl rfl) ⟨rfl, Nat.le_of_ble_eq_true rfl⟩ ?_
    refine SW.nil (awp_ret ?_)
    exact ⟨.inr rfl, _, rfl, ⟨w, by rw [show decide (z < 0) = true by simpa using hz]; rfl, hw⟩, rfl⟩
  · have hz : ¬ z < 0 := by simpa using h
    refine awp_skip ?_
    refine awp_seq_sw ?_
    repeat first | refine sw_v (fun _ => rfl) trivial ?_ | refine sw_l (fun _ => rfl) trivial ?_ | refine sw_ln (fun _ => rfl) ⟨rfl, Nat.le_of_ble_eq_true rfl⟩ ?_ | refine sw_vg rfl (fun _ => rfl) trivial ?_ | refine sw_sk rfl rfl ?_
    rw [show IntKind.u64.wrap z = (z.natAbs : Int) from by rw [IntKind.wrap_u64]; omega]
    refine sw_call rfl fw ?_
    refine sw_v (bld_of [.lit (.bool false), w] (fill_cons (u := .lit (.bool false)) (l := [.lit (.bool false)]) rfl (fun _ => rfl) ⟨rfl, Nat.le_of_ble_eq_true rfl⟩ rfl (fill_cons (u := w) rfl hw.sl.cell ⟨rfl, Nat.le_of_ble_eq_true rfl⟩ rfl fill_nil))) trivial ?_
    refine sw_ln (st_agg [_, _] rfl rfl (num_imms hw.sl) rfl rfl) ⟨rfl, Nat.le_of_ble_eq_true rfl⟩ ?_
    refine SW.nil (awp_ret ?_)
    exact ⟨.inr rfl, _, rfl, ⟨w, by rw [show decide (z < 0) = false by simpa using hz]; rfl, hw⟩, rfl⟩

theorem sign_mul (x y : Int) : (if (decide (x < 0) != decide (y < 0)) then -((x.natAbs * y.natAbs : Nat) : Int) else ((x.natAbs * y.natAbs : Nat) : Int)) = x * y := by
  rw [← Int.natAbs_mul]
  have h1 : 0 ≤ x → 0 ≤ y → 0 ≤ x * y := Int.mul_nonneg
  have h2 : x ≤ 0 → y ≤ 0 → 0 ≤ x * y := Int.mul_nonneg_of_nonpos_of_nonpos
  have h3 : 0 ≤ x → y ≤ 0 → x * y ≤ 0 := Int.mul_nonpos_of_nonneg_of_nonpos
  have h4 : x ≤ 0 → 0 ≤ y → x * y ≤ 0 := Int.mul_nonpos_of_nonpos_of_nonneg
  by_cases hx : x < 0 <;> by_cases hy : y < 0 <;> simp [hx, hy] <;> omega

/-- 'num.Mul'. -/
theorem fn_numMul (x y : Int) (u v : V) (hu : IsNum x u) (hv : IsNum y v) (bx : x.natAbs < BIG) (by_ : y.natAbs < BIG) (H : AH) : ∃ w, IsNum (x * y) w ∧ FN Tryz.prog 56 [u, v] H w H := by
  refine fn_ex ?_
  obtain ⟨m, rfl, hm⟩ := hu
  obtain ⟨k, rfl, hk⟩ := hv
  obtain ⟨ds, ms, md, mt, mv⟩ := id hm
  obtain ⟨es, ks, kd, kt, kv⟩ := id hk
  obtain ⟨p, hp, fp⟩ := fn_mul ds es m k ms ks md kd (short mt mv (Nat.lt_of_lt_of_le bx BIG_le)) (short kt kv (Nat.lt_of_lt_of_le by_ BIG_le)) H
  rw [mv, kv] at hp
  obtain ⟨w, hw, fw⟩ := fn_numMake (decide (x < 0) != decide (y < 0)) (x.natAbs * y.natAbs) p hp (Nat.mul_lt_mul'' bx by_) H
  have hw := hw.of_make (sign_mul x y)
  obtain ⟨m', rfl, hm'⟩ := hw
  refine fn_of cf56 (by simp) ?_
  show AWp _ _ _ ac56 _ _
  unfold ac56
  refine awp_seq_sw ?_
  refine sw_l (box_agg rfl (num_imms hm.sl) rfl) trivial ?_
  refine sw_l (box_agg rfl (num_imms hk.sl) rfl) trivial ?_
  repeat first | refine sw_v (fun _ => rfl) trivial ?_ | refine sw_l (fun _ => rfl) trivial ?_ | refine sw_ln (fun _ => rfl) ⟨rfl, Nat.le_of_ble_eq_true rfl⟩ ?_ | refine sw_vg rfl (fun _ => rfl) trivial ?_ | refine sw_sk rfl rfl ?_
  refine SW.nil (awp_seq_rw hmix ?_)
  repeat first | refine rw_v' (fun _ => rfl) trivial ?_ | refine rw_l' (fun _ => rfl) trivial ?_ | refine rw_ln' (fun _ => rfl) ⟨rfl, Nat.le_of_ble_eq_true rfl⟩ ?_ | refine rw_vg' rfl (fun _ => rfl) trivial ?_ | refine rw_sk' rfl rfl ?_
  refine rw_call' rfl fp ?_
  refine rw_call' rfl fw ?_
  refine rw_ln' (st_agg [_, _] rfl rfl (num_imms hm'.sl) rfl rfl) ⟨rfl, Nat.le_of_ble_eq_true rfl⟩ ?_
  refine RW.nil ⟨rfl, awp_ret ?_⟩
  exact ⟨.inr rfl, _, rfl, ⟨m', rfl, hm'⟩, rfl⟩

/-- 'num.Add'. -/
theorem fn_numAdd (x y : Int) (u v : V) (hu : IsNum x u) (hv : IsNum y v) (bx : x.natAbs < BIG * BIG) (by_ : y.natAbs < BIG * BIG) (bs : x.natAbs + y.natAbs < BIG * BIG) (H : AH) : ∃ w, IsNum (x + y) w ∧ FN Tryz.prog 64 [u, v] H w H := by
  refine fn_ex ?_
  obtain ⟨m, rfl, hm⟩ := hu
  obtain ⟨k, rfl, hk⟩ := hv
  obtain ⟨ds, ms, md, mt, mv⟩ := id hm
  obtain ⟨es, ks, kd, kt, kv⟩ := id hk
  have lm := short mt mv bx
  have lk := short kt kv by_
  refine fn_of cf64 (by simp) ?_
  show AWp _ _ _ ac64 _ _
  unfold ac64
  refine awp_seq_sw ?_
  refine sw_l (box_agg rfl (num_imms hm.sl) rfl) trivial ?_
  refine sw_l (box_agg rfl (num_imms hk.sl) rfl) trivial ?_
  repeat first | refine sw_v (fun _ => rfl) trivial ?_ | refine sw_l (fun _ => rfl) trivial ?_ | refine sw_ln (fun _ => rfl) ⟨rfl, Nat.le_of_ble_eq_true rfl⟩ ?_ | refine sw_vg rfl (fun _ => rfl) trivial ?_ | refine sw_sk rfl rfl ?_
  refine SW.nil (awp_seq_seq_sw ?_)
  repeat first | refine sw_v (fun _ => rfl) trivial ?_ | refine sw_l (fun _ => rfl) trivial ?_ | refine sw_ln (fun _ => rfl) ⟨rfl, Nat.le_of_ble_eq_true rfl⟩ ?_ | refine sw_vg rfl (fun _ => rfl) trivial ?_ | refine sw_sk rfl rfl ?_
  refine SW.nil ?_
  refine awp_cond rfl (fun h => ?_) fun h => ?_
  · have hs : decide (x < 0) = decide (y < 0) := by simpa using h
    obtain ⟨p, hp, fp⟩ := fn_add ds es m k ms ks md kd (by omega) (by omega) H
    rw [mv, kv] at hp
    obtain ⟨w, hw, fw⟩ := fn_numMake (decide (x < 0)) (x.natAbs + y.natAbs) p hp bs H
    have hw := hw.of_make (z := x + y) (by by_cases h1 : x < 0 <;> by_cases h2 : y < 0 <;> simp [h1, h2] at hs ⊢ <;> omega)
    obtain ⟨m', rfl, hm'⟩ := hw
    refine awp_seq_rw hmix ?_
    repeat first | refine rw_v' (fun _ => rfl) trivial ?_ | refine rw_l' (fun _ => rfl) trivial ?_ | refine rw_ln' (fun _ => rfl) ⟨rfl, Nat.le_of_ble_eq_true rfl⟩ ?_ | refine rw_vg' rfl (fun _ => rfl) trivial ?_ | refine rw_sk' rfl rfl ?_
    refine rw_call' rfl fp ?_
    refine rw_call' rfl fw ?_
    refine rw_ln' (st_agg [_, _] rfl rfl (num_imms hm'.sl) rfl rfl) ⟨rfl, Nat.le_of_ble_eq_true rfl⟩ ?_
    refine RW.nil ⟨rfl, awp_ret ?_⟩
    exact ⟨.inr rfl, _, rfl, ⟨m', rfl, hm'⟩, rfl⟩
  · have hs : decide (x < 0) ≠ decide (y < 0) := by simpa using h
    have fc := fn_cmp ds es m k ms ks md kd (by omega) (by omega) H
    rw [mv, kv] at fc
    refine awp_skip ?_
    refine awp_seq_seq_sw ?_
    repeat first | refine sw_v (fun _ => rfl) trivial ?_ | refine sw_l (fun _ => rfl) trivial ?_ | refine sw_ln (fun _ => rfl) ⟨rfl, Nat.le_of_ble_eq_true rfl⟩ ?_ | refine sw_vg rfl (fun _ => rfl) trivial ?_ | refine sw_sk rfl rfl ?_
    refine sw_call rfl fc ?_
    repeat first | refine sw_v (fun _ => rfl) trivial ?_ | refine sw_l (fun _ => rfl) trivial ?_ | refine sw_ln (fun _ => rfl) ⟨rfl, Nat.le_of_ble_eq_true rfl⟩ ?_ | refine sw_vg rfl (fun _ => rfl) trivial ?_ | refine sw_sk rfl rfl ?_
    refine SW.nil ?_
    refine awp_cond rfl (fun h => ?_) fun h => ?_
    · have hc : y.natAbs ≤ x.natAbs := by
        rcases Nat.lt_or_ge x.natAbs y.natAbs with hh | hh
        · rw [cmpI_lt hh] at h; simp at h
        · exact hh
      obtain ⟨p, hp, fp⟩ := fn_sub ds es m k ms ks md kd (by omega) (by omega) H
      rw [mv, kv] at hp
      obtain ⟨w, hw, fw⟩ := fn_numMake (decide (x < 0)) (x.natAbs - y.natAbs) p hp (by omega) H
      have hw := hw.of_make (z := x + y) (by by_cases h1 : x < 0 <;> by_cases h2 : y < 0 <;> simp [h1, h2] at hs ⊢ <;> omega)
      obtain ⟨m', rfl, hm'⟩ := hw
      refine awp_seq_rw hmix ?_
      repeat first | refine rw_v' (fun _ => rfl) trivial ?_ | refine rw_l' (fun _ => rfl) trivial ?_ | refine rw_ln' (fun _ => rfl) ⟨rfl, Nat.le_of_ble_eq_true rfl⟩ ?_ | refine rw_vg' rfl (fun _ => rfl) trivial ?_ | refine rw_sk' rfl rfl ?_
      refine rw_call' rfl fp ?_
      refine rw_call' rfl fw ?_
      refine rw_ln' (st_agg [_, _] rfl rfl (num_imms hm'.sl) rfl rfl) ⟨rfl, Nat.le_of_ble_eq_true rfl⟩ ?_
      refine RW.nil ⟨rfl, awp_ret ?_⟩
      exact ⟨.inr rfl, _, rfl, ⟨m', rfl, hm'⟩, rfl⟩
    · have hc : x.natAbs < y.natAbs := by
        rcases Nat.lt_or_ge x.natAbs y.natAbs with hh | hh
        · exact hh
        · exfalso
          rcases Nat.lt_or_ge y.natAbs x.natAbs with h3 | h3
          · rw [cmpI_gt h3] at h; simp at h
          · rw [show x.natAbs = y.natAbs by omega, cmpI_eq] at h; simp at h
      obtain ⟨p, hp, fp⟩ := fn_sub es ds k m ks ms kd md (by omega) (by omega) H
      rw [mv, kv] at hp
      obtain ⟨w, hw, fw⟩ := fn_numMake (decide (y < 0)) (y.natAbs - x.natAbs) p hp (by omega) H
      have hw := hw.of_make (z := x + y) (by by_cases h1 : x < 0 <;> by_cases h2 : y < 0 <;> simp [h1, h2] at hs ⊢ <;> omega)
      obtain ⟨m', rfl, hm'⟩ := hw
      refine awp_skip ?_
      refine awp_seq_rw hmix ?_
      repeat first | refine rw_v' (fun _ => rfl) trivial ?_ | refine rw_l' (fun _ => rfl) trivial ?_ | refine rw_ln' (fun _ => rfl) ⟨rfl, Nat.le_of_ble_eq_true rfl⟩ ?_ | refine rw_vg' rfl (fun _ => rfl) trivial ?_ | refine rw_sk' rfl rfl ?_
      refine rw_call' rfl fp ?_
      refine rw_call' rfl fw ?_
      refine rw_ln' (st_agg [_, _] rfl rfl (num_imms hm'.sl) rfl rfl) ⟨rfl, Nat.le_of_ble_eq_true rfl⟩ ?_
      refine RW.nil ⟨rfl, awp_ret ?_⟩
      exact ⟨.inr rfl, _, rfl, ⟨m', rfl, hm'⟩, rfl⟩

end Iso
