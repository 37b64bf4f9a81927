import Derived.Test.YtlgejmkkehfllaaGreatZ1
/- The abstract layer, eighth part: stores, slices, maps. Nothing of a program. -/
namespace Iso
open Go Go.RowKit
section
variable {E : Entry} {ρ : Rn} {β : Nat → Option Nat} {s s' : St} {a : Act} {w : World} {P : Program} {o : Oper} {x : T} {G : List Nat}

/-- A block that nobody tracks tells its cells. -/
theorem imm_new (h : SR E ρ β s a w) (ob : Obj) : ρ.imm (w.alloc ob) w.heap.size :=
  ⟨by simp, fun hy => by
    rcases (h.Y _).1 hy with hx | ⟨t, ht⟩
    · have := h.ltX hx; omega
    · have := h.ltβ ht; omega, fun b hb => by have := h.ltφ hb; omega⟩

theorem row_of_heap {ρ : Rn} {w : World} {B : Nat} {C : Array Value} {e : TypeId} {cs : List V} (hB : w.heap[B]? = some (.cells C e (0, 0))) (h : VRs ρ w cs (C.toList.take cs.length)) : VRrow ρ w B 0 cs := by
  refine VRrow.of_get fun i v hv => ?_
  obtain ⟨y, hy, hr⟩ := h.get i v hv
  have hlt : i < cs.length := by
    rcases Nat.lt_or_ge i cs.length with h | h
    · exact h
    · rw [List.getElem?_eq_none h] at hv; cases hv
  rw [List.getElem?_take, if_pos hlt] at hy
  exact ⟨y, by simp only [World.cell?, hB, Nat.zero_add]; simpa using hy, hr⟩

theorem sound_bsl (hs : SR E ρ β s a w) {t e n sz : Nat} {ps : Array (Nat × Operand)} {qs : List (Nat × Nat × Opd)} {z : List V} (ho : o.op = .buildSlice t n ps) (ht : P.underlying t = some (.slice e)) (hsz : sizeOf? P e = some sz) (hz : zero? P e = some z)
    (hn : ¬ (n * sz > 2 ^ 24 ∨ n * sz = 0 ∨ z.length ≠ sz)) (hq : cParts (fun i => some (i * sz, sz)) ps.toList = some qs) (h : aop G o.dst (.bsl n sz z qs) s = some (x, s')) : Sound E P o x s' a w := by
  obtain ⟨i, zv, h1, h2, h3⟩ := zero_VR hz
  have hz1 : z.length = sz := by
    rcases Nat.decEq z.length sz with h | h
    · exact absurd (.inr (.inr h)) hn
    · exact h
  simp only [aop] at h
  split at h
  · rename_i cs hf
    have hzs : VRs ρ w z zv.cells.toList := toVs_VRs h3
    have hzl : zv.cells.size = z.length := by have := hzs.length; simpa using this
    have hrep := rep_VRs (n := n) hzs
    obtain ⟨C', h5, h6⟩ := fill_sound hs hq hf hrep
    have hrun : (execOp a.eval o).run P w = .ok (.value (.slice (some ⟨w.heap.size, 0, none⟩) n n)) (w.alloc (.cells C' e)) := by
      have h7 : ¬ 2 ^ 24 < n * sz := fun hh => hn (.inl hh)
      have h8 : ¬ n * sz = 0 := fun hh => hn (.inr (.inl hh))
      have h5' : Instr.fill (fun i => some (i * sz, sz)) ((Array.range (n * sz)).map (zv.cells[· % zv.cells.size]!)) (ps.toList.map fun p => (p.1, a.eval p.2)) = some C' := by rw [← hz1] at h5 ⊢; exact h5
      simp only [execOp, ho, Instr.buildSlice, Sem.run_bind, run_underlying ht, Result.andThen_ok, sizeOf_run hsz]
      simp [h7, h8, zeroValue_run h1 h2]
      rw [h5']
      simp [newRow]
    split at h
    · cases h
    · rename_i d hd
      have hl6 := h6.length
      split at h
      · cases h
        obtain ⟨ρ', g1, g2, g3⟩ := hs.push (.cells cs) (.cells C' e) (fun ρ' k => newBlk_keep k h6)
        refine ⟨_, _, ρ', β, .inl hrun, g1, ?_⟩
        refine VR.hs_mk (by rw [g3]; exact Nat.lt_succ_self _) g2 ?_
        refine ⟨0, n, rfl, .inl rfl, Nat.le_refl _, C', e, World.alloc_heap_new w _, ?_⟩
        have hc : cs.length = n * sz := by
          have : ∀ {qs : List (Nat × Nat × Opd)} {c c' : List V}, fillA s.A s.H qs c = some c' → c'.length = c.length := by
            intro qs
            induction qs with
            | nil => intro c c' hh; simp [fillA] at hh; subst hh; rfl
            | cons q r ih =>
              intro c c' hh
              obtain ⟨off, szz, xx⟩ := q
              simp only [fillA] at hh
              split at hh
              · split at hh
                · split at hh
                  · rename_i hc
                    rw [ih hh]
                    simp [splice]
                    omega
                  · cases hh
                · cases hh
              · cases hh
          rw [this hf, rep_length, hz1]
        simp at hl6
        omega
      · cases h
        refine ⟨_, _, ρ, β, .inl hrun, hs.alloc _, ?_⟩
        simp only [TR, VR]
        refine ⟨w.heap.size, 0, n, rfl, Nat.le_refl _, imm_new hs _, ?_⟩
        refine row_of_heap (World.alloc_heap_new w _) ?_
        rw [List.take_of_length_le (by omega)]
        exact VRs.keep (Keep.alloc ρ w _) _ _ h6
  · cases h

theorem RowAt.splice {w' : World} {B off : Nat} {cs l : List V} {C : Array Value} {e : TypeId} {y : List Value} (hB : w.heap[B]? = some (.cells C e (0, 0))) (hle : cs.length ≤ C.size) (hr : VRs ρ w cs (C.toList.take cs.length)) (hl : VRs ρ w l y) (hoff : off + l.length ≤ cs.length)
    (hw : w'.heap[B]? = some (.cells (C.toList.take off ++ y ++ C.toList.drop (off + y.length)).toArray e (0, 0))) (k : Keep ρ w ρ w') : RowAt ρ w' B (splice cs off l) := by
  have hyl := hl.length
  have hsl : (Iso.splice cs off l).length = cs.length := by simp [Iso.splice]; omega
  refine ⟨_, e, hw, by rw [hsl]; simp; omega, ?_⟩
  rw [hsl]
  have h1 := VRs.keep k _ _ (hr.splice hl hoff)
  refine cast ?_ h1
  congr 1
  apply List.ext_getElem?
  intro j
  simp only [List.getElem?_append, List.length_append, List.length_take, List.getElem?_take, List.getElem?_drop, Array.length_toList, List.length_drop]
  have e1 : min off (min cs.length C.size) = off := by omega
  have e2 : min off C.size = off := by omega
  rw [e1, e2]
  by_cases h1 : j < off
  · simp only [h1, if_true]
    rw [if_pos (by omega), if_pos (by omega), if_pos (by omega), if_pos (by omega)]
  · by_cases h2 : j < off + y.length
    · simp only [h1, if_false]
      rw [if_pos (by omega), if_pos (by omega), if_pos (by omega)]
    · rw [if_neg (by omega)]
      by_cases h3 : j < cs.length
      · rw [if_pos (by omega), if_pos h3, if_neg (by omega)]
      · rw [if_neg (by omega), if_neg h3]

theorem storeVar_run {t sz B off : Nat} {y : Value} {C : Array Value} {e : TypeId} (hsz : sizeOf? P t = some sz) (hy : y.cells.toList.length = sz) (h1 : ∀ z ∈ y.cells.toList, z.oneCell' = true) (hB : w.heap[B]? = some (.cells C e (0, 0))) (hle : off + sz ≤ C.size) :
    (storeVar t ⟨B, off, none⟩ y).run P w = .ok () (w.setRow B (C.toList.take off ++ y.cells.toList ++ C.toList.drop (off + y.cells.toList.length)).toArray) := by
  have h2 := run_storeCells_at P B off e y.cells.toList 0 C w hB (by omega) h1
  simp only [Nat.add_zero] at h2
  have h3 : y.cells.size = sz := by simpa using hy
  simp only [storeVar, Sem.run_bind, sizeOf_run hsz, Result.andThen_ok]
  rw [if_neg (by simp [h3])]
  simp [h2]

theorem sound_st (hs : SR E ρ β s a w) {t sz : Nat} {p q : Operand} {p' q' : Opd} (ho : o.op = .store t p q) (hsz : sizeOf? P t = some sz) (hp : cOpd p = some p') (hq : cOpd q = some q') (h : aop G o.dst (.st sz p' q') s = some (x, s')) : Sound E P o x s' a w := by
  simp only [aop] at h
  split at h
  · rename_i v hv
    split at h
    · rename_i l hl
      split at h
      · rename_i hlen
        have g := hs.cells hl (hs.opdv hq hv)
        have gl : (a.eval q).cells.toList.length = sz := by rw [g.1.length]; exact hlen
        split at h
        · rename_i t' off hpv
          split at h
          · rename_i cs hcs
            split at h
            · rename_i hle
              cases h
              obtain ⟨B, hB, he, C, e, h1, h2, h3⟩ := hs.lpv hp hpv hcs
              have hrun := storeVar_run (P := P) (off := off) hsz gl g.2 h1 (by omega)
              refine ⟨_, undef, ρ, β, .inr ⟨?_, rfl⟩, hs.writeL hB (Wrote.setRow h1 ?_) (fun k => RowAt.splice h1 h2 h3 g.1 (by omega) (setRow_heap w B C _ e _ h1) k), by simp [TR, VR]⟩
              · simp [execOp, ho, Instr.storeAt, he, Instr.sureAddr, hrun]
              · simp; simp at gl; omega
            · cases h
          · cases h
        · rename_i b off hpv
          split at h
          · rename_i cs hcs
            split at h
            · rename_i hle
              cases h
              obtain ⟨B, hB, he, C, e, h1, h2, h3⟩ := hs.ptrv hp hpv hcs
              have hrun := storeVar_run (P := P) (off := off) hsz gl g.2 h1 (by omega)
              refine ⟨_, undef, ρ, β, .inr ⟨?_, rfl⟩, hs.writeH hB (Wrote.setRow h1 ?_) (fun k => RowAt.splice h1 h2 h3 g.1 (by omega) (setRow_heap w B C _ e _ h1) k), by simp [TR, VR]⟩
              · simp [execOp, ho, Instr.storeAt, he, Instr.sureAddr, hrun]
              · simp; simp at gl; omega
            · cases h
          · cases h
        · cases h
      · cases h
    · cases h
  · cases h

theorem sound_mks (hs : SR E ρ β s a w) {t e : Nat} {i : TypeInfo} {z : List V} {p q : Operand} {p' q' : Opd} (ho : o.op = .makeSlice t p q) (ht : P.underlying t = some (.slice e)) (hi : P.info? e = some i) (hz : zero? P e = some z)
    (hn : ¬ (z.length ≠ i.size ∨ i.size = 0)) (hp : cOpd p = some p') (hq : cOpd q = some q') (h : aop G o.dst (.mks i.size i.bytes z p' q') s = some (x, s')) : Sound E P o x s' a w := by
  obtain ⟨i', zv, h1, h2, h3⟩ := zero_VR hz
  rw [hi] at h1; cases h1
  have hz1 : z.length = i.size := by
    rcases Nat.decEq z.length i.size with h | h
    · exact absurd (.inl h) hn
    · exact h
  have hz0 : i.size ≠ 0 := fun h => hn (.inr h)
  simp only [aop] at h
  split at h
  · rename_i l c hl hc
    split at h
    · rename_i hb
      obtain ⟨b0, b1, b2, b3⟩ := hb
      cases h
      have e1 := hs.litv hp hl
      have e2 := hs.litv hq hc
      have hzs : VRs ρ w z zv.cells.toList := toVs_VRs h3
      have hrep := rep_VRs (n := c.toNat) hzs
      obtain ⟨ln, rfl⟩ := Int.eq_ofNat_of_zero_le b0
      obtain ⟨cn, rfl⟩ := Int.eq_ofNat_of_zero_le (Int.le_trans b0 b1)
      have w1 : IntKind.i64.wrap (ln : Int) = ln := IntWalk.i64_in _ (by omega)
      have w2 : IntKind.i64.wrap (cn : Int) = cn := IntWalk.i64_in _ (by omega)
      have t1 : ¬ ((cn : Int) < 0) := by omega
      have t2 : ¬ ((2 : Int) ^ 48 < i.bytes * cn) := by omega
      have t3 : ¬ ((ln : Int) < 0) := by omega
      have t4 : ¬ ((cn : Int) < ln) := by omega
      have hrun : (execOp a.eval o).run P w = .ok (.value (.slice (some ⟨w.heap.size, 0, none⟩) ln cn)) (w.alloc (.cells ((Array.range (cn * z.length)).map (zv.cells[· % zv.cells.size]!)) e)) := by
        simp only [execOp, ho, Instr.makeSlice, Sem.run_bind, run_underlying ht, Result.andThen_ok, e1, e2]
        simp [asInt, asIntOf, typeInfo, hi, w1, w2, Go.sizeOf, zeroValue_run hi h2, newRow]
        rw [if_neg (by omega), hz1]
        split
        · rename_i h0; have hr0 : Array.range 0 = #[] := rfl; simp [h0, hr0]
        · rfl
      obtain ⟨ρ', g1, g2, g3⟩ := hs.push (.cells (rep z cn)) (.cells ((Array.range (cn * z.length)).map (zv.cells[· % zv.cells.size]!)) e) (fun ρ' k => newBlk_keep k (by simpa using hrep))
      refine ⟨_, _, ρ', β, .inl hrun, by simpa using g1, ?_⟩
      refine VR.hs_mk (by rw [g3]; exact Nat.lt_succ_self _) g2 ?_
      exact ⟨0, cn, by simp, .inl rfl, by simp; omega, _, e, World.alloc_heap_new w _, by simp [hz1]⟩
    · cases h
  · cases h

/-! ### Slices -/
theorem bound_run (hs : SR E ρ β s a w) {d top n : Nat} {y : Option Operand} {y' : Option Opd} (hy : cOpt y = some y') (h : bound s.A d top y' = some n) :
    (y = none ∧ n = d) ∨ (∃ z k i, y = some z ∧ a.eval z = .int k i ∧ 0 ≤ i ∧ i ≤ top ∧ n = i.toNat) := by
  cases y with
  | none => simp [cOpt] at hy; subst hy; simp [bound] at h; exact .inl ⟨rfl, h.symm⟩
  | some z =>
    simp [cOpt, Option.bind_eq_some_iff] at hy
    obtain ⟨z', hz, rfl⟩ := hy
    simp only [bound] at h
    split at h
    · rename_i k i hv
      split at h
      · rename_i hc
        cases h
        exact .inr ⟨z, k, i, rfl, hs.litv hz hv, hc.1, hc.2, rfl⟩
      · cases h
    · cases h

theorem sliceBounds_run (hs : SR E ρ β s a w) {isS : Bool} {n cap l h : Nat} {lo hi : Option Operand} {lo' hi' : Option Opd} (hlo : cOpt lo = some lo') (hhi : cOpt hi = some hi') (hcap : n ≤ cap) (h1 : bound s.A n n hi' = some h) (h2 : bound s.A 0 h lo' = some l) :
    (Instr.sliceBounds isS n cap (lo.map a.eval) (hi.map a.eval) none).run P w = .ok (l, h, cap) w ∧ l ≤ h ∧ h ≤ n := by
  rcases bound_run hs hhi h1 with ⟨rfl, rfl⟩ | ⟨z, k, i, rfl, ez, b0, b1, rfl⟩ <;> rcases bound_run hs hlo h2 with ⟨rfl, rfl⟩ | ⟨z2, k2, i2, rfl, ez2, c0, c1, rfl⟩
  · exact ⟨by simp [Instr.sliceBounds], by omega, by omega⟩
  · exact ⟨by simp [Instr.sliceBounds, Instr.sliceBound, ez2, asIntOf, c0, c1], by omega, by omega⟩
  · exact ⟨by simp [Instr.sliceBounds, Instr.sliceBound, ez, asIntOf, b0, show i ≤ (cap : Int) by omega], by omega, by omega⟩
  · exact ⟨by simp [Instr.sliceBounds, Instr.sliceBound, ez, ez2, asIntOf, b0, c0, show i ≤ (cap : Int) by omega, show i2 ≤ i by omega, show i2 ≤ max i 0 by omega], by omega, by omega⟩

theorem sound_sls (hs : SR E ρ β s a w) {t e sz : Nat} {y : Operand} {y' : Opd} {lo hi : Option Operand} {lo' hi' : Option Opd} (ho : o.op = .slice t y lo hi none) (hy : cOpd y = some y') (hlo : cOpt lo = some lo') (hhi : cOpt hi = some hi')
    (ht : P.underlying t = some (.slice e)) (hsz : sizeOf? P e = some sz) (h : aop G o.dst (.sls sz y' lo' hi') s = some (x, s')) : Sound E P o x s' a w := by
  have fin : ∀ (ad : Option Addr) (n cap l h : Nat), a.eval y = .slice ad n cap → n ≤ cap → bound s.A n n hi' = some h → bound s.A 0 h lo' = some l →
      (execOp a.eval o).run P w = .ok (.value (.slice (if cap = l then ad else ad.map (·.add (l * sz))) (h - l) (cap - l))) w ∧ l ≤ h ∧ h ≤ n := by
    intro ad n cap l h he hc h1 h2
    obtain ⟨g1, g2⟩ := sliceBounds_run (P := P) (isS := true) hs hlo hhi hc h1 h2
    refine ⟨?_, g2⟩
    simp [execOp, ho, he, Instr.sliceAt, Instr.slice, run_underlying ht, g1, sizeOf_run hsz]
  simp only [aop] at h
  split at h
  · rename_i v hv
    split at h
    · rename_i n hn
      split at h
      · rename_i hh h1
        split at h
        · rename_i l h2
          obtain ⟨u, h3, rfl, rfl⟩ := vres_some h
          have g := hs.opdv hy hv
          unfold slV at h3
          split at h3
          · cases h3
            simp only [slLen] at hn; cases hn
            simp only [VR] at g
            obtain ⟨r1, r2, r3⟩ := fin none 0 0 l hh g (Nat.le_refl _) h1 h2
            obtain rfl : l = 0 := by omega
            obtain rfl : hh = 0 := by omega
            exact Sound.pure hs (y := .slice none 0 0) (by simpa using r1) (by simp [TR, VR])
          · rename_i b off n' sz'
            split at h3
            · rename_i hsz'
              subst hsz'
              cases h3
              simp only [slLen] at hn; cases hn
              simp only [VR] at g
              obtain ⟨g0, B, o', cap, he, ho', hc, ⟨C, e', hC, hsz'⟩, hu⟩ := g
              obtain ⟨r1, r2, r3⟩ := fin _ n cap l hh he hc h1 h2
              refine Sound.pure hs r1 ?_
              simp only [TR, VR]
              refine ⟨g0, B, ?_⟩
              by_cases hcl : cap = l
              · rw [if_pos hcl]
                refine ⟨o', cap - l, rfl, .inr ⟨by omega, by omega⟩, by omega, ⟨C, e', hC, ?_⟩, hu⟩
                rw [← hcl, Nat.sub_self, Nat.zero_mul, Nat.add_zero]; exact hsz'
              · rw [if_neg hcl]
                have hl0 : cap ≠ 0 := by omega
                refine ⟨o' + l * sz', cap - l, by simp [add_at], .inl ?_, by omega, ⟨C, e', hC, ?_⟩, hu⟩
                · rcases ho' with rfl | ⟨_, h0⟩
                  · rfl
                  · exact absurd h0 hl0
                · have : off + l * sz' + (cap - l) * sz' = off + cap * sz' := by
                    rw [Nat.add_assoc, ← Nat.add_mul]; congr 2; omega
                  omega
            · cases h3
          · rename_i cs n'
            split at h3
            · rename_i hl
              cases h3
              simp only [slLen] at hn; cases hn
              simp only [VR] at g
              obtain ⟨B, off, cap, he, hc, him, hr⟩ := g
              obtain ⟨r1, r2, r3⟩ := fin _ n cap l hh he hc h1 h2
              refine Sound.pure hs r1 ?_
              simp only [TR, VR]
              by_cases hcl : cap = l
              · rw [if_pos hcl]
                have : hh - l = 0 := by omega
                refine ⟨B, off, cap - l, rfl, by omega, him, ?_⟩
                rw [this]
                simp [VRrow]
              · rw [if_neg hcl]
                refine ⟨B, off + l * sz, cap - l, by simp [add_at], by omega, him, ?_⟩
                exact (hr.drop _).take _
            · cases h3
          · cases h3
        · cases h
      · cases h
    · cases h
  · cases h

theorem sound_sla (hs : SR E ρ β s a w) {t e n sz : Nat} {y : Operand} {y' : Opd} {lo hi : Option Operand} {lo' hi' : Option Opd} (ho : o.op = .slice t y lo hi none) (hy : cOpd y = some y') (hlo : cOpt lo = some lo') (hhi : cOpt hi = some hi')
    (ht : P.underlying t = some (.array n e)) (hsz : sizeOf? P e = some sz) (h : aop G o.dst (.sla n sz y' lo' hi') s = some (x, s')) : Sound E P o x s' a w := by
  simp only [aop] at h
  split at h
  · rename_i hh h1
    split at h
    · rename_i l h2
      obtain ⟨g1, g2, g3⟩ := sliceBounds_run (P := P) (isS := false) hs hlo hhi (Nat.le_refl n) h1 h2
      have hrun : ∀ B off, a.eval y = .pointer (some ⟨B, off, none⟩) → ∃ o', (execOp a.eval o).run P w = .ok (.value (.slice (some ⟨B, o', none⟩) (hh - l) (n - l))) w ∧ (o' = off + l * sz ∨ (hh - l = 0 ∧ n - l = 0)) := by
        intro B off he
        by_cases hnl : n = l
        · subst hnl
          exact ⟨off, by simp [execOp, ho, he, Instr.sliceAt, run_underlying ht, Instr.sureAddr, g1, sizeOf_run hsz], .inr ⟨by omega, by omega⟩⟩
        · exact ⟨off + l * sz, by simp [execOp, ho, he, Instr.sliceAt, run_underlying ht, Instr.sureAddr, g1, sizeOf_run hsz, hnl, add_at], .inl rfl⟩
      have rowfin : ∀ {ρ' : Rn} {B off o' : Nat} {cs : List V}, VRrow ρ' w B (off + l * sz) cs → (o' = off + l * sz ∨ (hh - l = 0 ∧ n - l = 0)) → VRrow ρ' w B o' (cs.take ((hh - l) * sz)) := by
        intro ρ' B off o' cs hr hor
        rcases hor with rfl | ⟨h0, _⟩
        · exact hr.take _
        · rw [h0]; simp [VRrow]
      split at h
      · rename_i t' off hv
        split at h
        · rename_i cs hcs
          split at h
          · rename_i hle
            cases h
            obtain ⟨B, hB, he, hr⟩ := hs.lpv hy hv hcs
            obtain ⟨o', hr', hor⟩ := hrun B off he
            obtain ⟨ρ', β', k1, k2, k3⟩ := hs.freezeL hB
            refine ⟨w, _, ρ', β', .inl hr', k1, ?_⟩
            simp only [TR, VR]
            refine ⟨B, o', n - l, rfl, by omega, k3, ?_⟩
            have := (RowAt.row (hr.keep k2 rfl)).drop (off + l * sz)
            rw [Nat.zero_add] at this
            exact rowfin this hor
          · cases h
        · cases h
      · rename_i b off hv
        split at h
        · rename_i cs hcs
          split at h
          · rename_i hle
            cases h
            obtain ⟨B, hB, he, C, e', c1, c2, c3⟩ := hs.ptrv hy hv hcs
            obtain ⟨o', hr', hor⟩ := hrun B off he
            refine Sound.pure hs hr' ?_
            have g := hs.opdv hy hv
            simp only [VR] at g
            refine VR.hs_mk g.1 hB ?_
            refine ⟨o', n - l, rfl, hor, by omega, C, e', c1, ?_⟩
            have : off + l * sz + (n - l) * sz = off + n * sz := by
              rw [Nat.add_assoc, ← Nat.add_mul]; congr 2; omega
            omega
          · cases h
        · cases h
      · rename_i cs hv
        split at h
        · rename_i hle
          cases h
          have g := hs.opdv hy hv
          simp only [VR] at g
          obtain ⟨B, off, he, him, hr⟩ := g
          obtain ⟨o', hr', hor⟩ := hrun B off he
          refine Sound.pure hs hr' ?_
          simp only [TR, VR]
          exact ⟨B, o', n - l, rfl, by omega, him, rowfin (hr.drop _) hor⟩
        · cases h
      · cases h
    · cases h
  · cases h

theorem SR.hsv (hs : SR E ρ β s a w) {y : Operand} {y' : Opd} (hy : cOpd y = some y') {b off n sz : Nat} (hv : y'.ev s.A = .v (.hs b off n sz)) {kb : Blk} (hc : s.H.get b = some kb) :
    ∃ B o' cap C e, ρ.φ b = some B ∧ BlkAt ρ w B kb ∧ a.eval y = .slice (some ⟨B, o', none⟩) n cap ∧ (o' = off ∨ (n = 0 ∧ cap = 0)) ∧ n ≤ cap ∧ w.heap[B]? = some (.cells C e (0, 0)) ∧ off + cap * sz ≤ C.size := by
  have h := hs.opdv hy hv
  obtain ⟨B, hB, hr⟩ := hs.heap b kb hc
  obtain ⟨o', cap, h1, h2, h3, C, e, h4, h5⟩ := h.hs_at hB
  exact ⟨B, o', cap, C, e, hB, hr, h1, h2, h3, h4, h5⟩

theorem sound_len (hs : SR E ρ β s a w) {c : Call} {t e : Nat} {y : Operand} {y' : Opd} (ho : o.op = .call c) (hc : c.callee = .builtin .len) (ht : c.argTypes[0]? = some t) (hu : P.underlying t = some (.slice e)) (ha : c.args.toList = [y]) (hy : cOpd y = some y')
    (h : aop G o.dst (.len y') s = some (x, s')) : Sound E P o x s' a w := by
  have hargs : c.args = #[y] := by rw [← Array.toArray_toList (xs := c.args), ha]
  have fin : ∀ ad n cap, a.eval y = .slice ad n cap → Sound E P o (.v (.lit (.int .i64 n))) s a w := by
    intro ad n cap he
    refine Sound.pure hs (y := .int .i64 n) ?_ (by simp [TR, VR])
    simp [execOp, ho, resolve, hc, hargs, invoke, builtin, Builtin.len_, ht, run_underlying hu, he, goInt]
  simp only [aop] at h
  split at h
  · rename_i b off n sz hv
    cases h
    have g := hs.opdv hy hv
    simp only [VR] at g
    obtain ⟨_, B, o', cap, he, _⟩ := g
    exact fin _ n cap he
  · rename_i cs n hv
    cases h
    have g := hs.opdv hy hv
    simp only [VR] at g
    obtain ⟨B, off, cap, he, _⟩ := g
    exact fin _ n cap he
  · rename_i hv
    cases h
    have g := hs.litv hy hv
    exact fin _ 0 0 g
  · cases h

theorem sound_lenm (hs : SR E ρ β s a w) {c : Call} {t k e : Nat} {y : Operand} {y' : Opd} (ho : o.op = .call c) (hc : c.callee = .builtin .len) (ht : c.argTypes[0]? = some t) (hu : P.underlying t = some (.map k e)) (ha : c.args.toList = [y]) (hy : cOpd y = some y')
    (h : aop G o.dst (.lenm y') s = some (x, s')) : Sound E P o x s' a w := by
  have hargs : c.args = #[y] := by rw [← Array.toArray_toList (xs := c.args), ha]
  simp only [aop] at h
  split at h
  · rename_i b hv
    split at h
    · rename_i es hb
      cases h
      obtain ⟨B, hB, he, ms, clock, h1, h2, h3⟩ := hs.mpv hy hv hb
      have hl : ms.size = es.length := by have := h2.length; simpa using this
      refine Sound.pure hs (y := .int .i64 es.length) ?_ (by simp [TR, VR])
      simp [execOp, ho, resolve, hc, hargs, invoke, builtin, Builtin.len_, ht, run_underlying hu, he, goInt, getObj, Sem.run, h1, hl]
    · cases h
  · rename_i hv
    cases h
    have g := hs.litv hy hv
    refine Sound.pure hs (y := .int .i64 0) ?_ (by simp [TR, VR])
    simp [execOp, ho, resolve, hc, hargs, invoke, builtin, Builtin.len_, ht, run_underlying hu, g, goInt]
  · cases h
end
end Iso

/- The abstract layer, ninth part: maps. Nothing of a program. -/
namespace Iso
open Go Go.RowKit
section
variable {E : Entry} {ρ : Rn} {β : Nat → Option Nat} {s s' : St} {a : Act} {w : World} {P : Program} {o : Oper} {x : T} {G : List Nat}

theorem eqA_equal {kt : Nat} {kk : Option (List Bool)} {u v : V} {p q : Value} {b : Bool} (hk : keyKind P kt = some kk) (h : eqA kk u v = some b) (hu : VR ρ w u p) (hv : VR ρ w v q) (w' : World) : (Op.equal kt p q).run P w' = .ok b w' := by
  unfold keyKind at hk
  split at hk
  · rename_i k hk'
    cases hk
    simp only [eqA] at h
    exact eqV_run (P := P) h hu hv ⟨_, hk', by simp⟩ 9999 w'
  · rename_i fs hk'
    simp only [Option.map_eq_some_iff] at hk
    obtain ⟨ks, hk, rfl⟩ := hk
    unfold eqA at h
    split at h
    · rename_i ks' xs ys he
      cases he
      simp only [VR] at hu hv
      obtain ⟨xa, rfl, hx⟩ := hu
      obtain ⟨ya, rfl, hy⟩ := hv
      exact run_equalIn_plain (P := P) hk hx hy h 9998 w'
    · rename_i he; cases he
    · cases h
  · cases hk

theorem findAsking_run {kt : Nat} {kk : Option (List Bool)} {k : V} {y : Value} (hk : keyKind P kt = some kk) (hy : VR ρ w k y) (w' : World) : ∀ {es : List (V × V)} {ms : List MapEntry} {r : Option Nat} (i : Nat), midx kk k es = some r → VRs ρ w (es.map (·.1)) (ms.map (·.key)) →
    (Instr.findAsking kt y ms i).run P w' = .ok (r.bind fun j => (ms[j]?).map fun e => (i + j, e.val)) w'
  | [], ms, r, i, hr, hv => by
    simp only [List.map_nil, VRs] at hv
    have : ms = [] := by simpa using hv
    subst this
    simp [midx] at hr
    subst hr
    simp [Instr.findAsking]
  | (q, x) :: es, ms, r, i, hr, hv => by
    simp only [List.map_cons, VRs] at hv
    obtain ⟨z, l, h1, h2, h3⟩ := hv
    cases ms with
    | nil => simp at h1
    | cons m ms =>
      simp only [List.map_cons, List.cons.injEq] at h1
      obtain ⟨rfl, rfl⟩ := h1
      simp only [midx] at hr
      split at hr
      · rename_i he
        cases hr
        simp [Instr.findAsking, eqA_equal hk he hy h2]
      · rename_i he
        simp only [Option.map_eq_some_iff] at hr
        obtain ⟨r', hr, rfl⟩ := hr
        have ih := findAsking_run hk hy w' (i + 1) hr h3
        simp only [Instr.findAsking, Sem.run_bind, eqA_equal hk he hy h2, Result.andThen_ok, Bool.false_eq_true, if_false, ih]
        congr 1
        cases r' with
        | none => rfl
        | some j => simp [Nat.add_assoc, Nat.add_comm 1 j]
      · cases hr

theorem findNow_or {kt : Nat} {kk : Option (List Bool)} {k : V} {y : Value} {d : TypeDesc} (hd : P.underlying kt = some d) (hk : keyKind P kt = some kk) (hy : VR ρ w k y) : ∀ {es : List (V × V)} {ms : List MapEntry} {r : Option Nat} (i : Nat), midx kk k es = some r → VRs ρ w (es.map (·.1)) (ms.map (·.key)) →
    Instr.findNow d y ms i = none ∨ Instr.findNow d y ms i = some (r.bind fun j => (ms[j]?).map fun e => (i + j, e.val))
  | [], ms, r, i, hr, hv => by
    simp only [List.map_nil, VRs] at hv
    have : ms = [] := by simpa using hv
    subst this
    simp [midx] at hr
    subst hr
    simp [Instr.findNow]
  | (q, x) :: es, ms, r, i, hr, hv => by
    simp only [List.map_cons, VRs] at hv
    obtain ⟨z, l, h1, h2, h3⟩ := hv
    cases ms with
    | nil => simp at h1
    | cons m ms =>
      simp only [List.map_cons, List.cons.injEq] at h1
      obtain ⟨rfl, rfl⟩ := h1
      simp only [Instr.findNow]
      cases hs : Instr.sameNow d y m.key with
      | none => exact .inl rfl
      | some b =>
        -- a whole number's key: the model looks at once, as we do
        have hb : eqA kk k q = some b := by
          unfold keyKind at hk
          rw [hd] at hk
          split at hk
          · rename_i ki he
            cases he
            cases hk
            simp only [eqA]
            simp only [midx] at hr
            cases he : eqA none k q with
            | none => rw [he] at hr; cases hr
            | some b' =>
              simp only [eqA] at he
              rw [he]
              unfold eqV at he
              split at he
              · simp only [VR] at hy h2
                subst hy
                rw [h2] at hs
                simp only [Instr.sameNow] at hs
                split at he
                · rename_i hk; subst hk; simp at hs he; rw [← hs, ← he]
                · cases he
              · rename_i hf; cases hf
              · cases he
          · rename_i fs he
            cases he
            simp [Instr.sameNow] at hs
          · cases hk
        simp only [midx, hb] at hr
        cases b with
        | true =>
          cases hr
          exact .inr (by simp)
        | false =>
          simp only [Option.map_eq_some_iff] at hr
          obtain ⟨r', hr, rfl⟩ := hr
          rcases findNow_or hd hk hy (i + 1) hr h3 with h4 | h4
          · exact .inl h4
          · refine .inr (h4.trans ?_)
            congr 1
            cases r' with
            | none => rfl
            | some j => simp [Nat.add_assoc, Nat.add_comm 1 j]

theorem findKey_run {kt : Nat} {kk : Option (List Bool)} {k : V} {y : Value} {es : List (V × V)} {ms : List MapEntry} {r : Option Nat} (hk : keyKind P kt = some kk) (hy : VR ρ w k y) (hr : midx kk k es = some r) (hv : VRs ρ w (es.map (·.1)) (ms.map (·.key))) (w' : World) :
    (Instr.findKey kt y ms).run P w' = .ok (r.bind fun j => (ms[j]?).map fun e => (j, e.val)) w' := by
  have hd : ∃ d, P.underlying kt = some d := by
    unfold keyKind at hk
    split at hk
    · exact ⟨_, ‹_›⟩
    · exact ⟨_, ‹_›⟩
    · cases hk
  obtain ⟨d, hd⟩ := hd
  simp only [Instr.findKey, Sem.run_bind, run_underlying hd, Result.andThen_ok]
  rcases findNow_or hd hk hy 0 hr hv with h | h
  · rw [h]
    have := findAsking_run (P := P) hk hy w' 0 hr hv
    simpa using this
  · rw [h]
    simp

theorem checkKey_flds (em : Bool) (d : Nat) (w' : World) : ∀ {fs : List Field} {n : Nat} {xs : Array Value} {as : List V} {ks : List Bool}, plainFields P n fs = some ks → VRs ρ w as (xs.toList.drop n) → as.length = ks.length →
    (forIn fs PUnit.unit fun (f : Field) (_ : PUnit) => (if f.name ≠ "_" then (do Instr.checkKey em (d + 1) f.type (← part f.type xs f.offset); pure (ForInStep.yield PUnit.unit)) else pure (ForInStep.yield PUnit.unit) : Sem (ForInStep PUnit))).run P w' = .ok PUnit.unit w'
  | [], n, xs, as, ks, hp, hx, hl => by simp
  | f :: fs, n, xs, as, ks, hp, hx, hl => by
    simp only [plainFields] at hp
    split at hp
    · rename_i hc
      simp only [Bool.and_eq_true, bne_iff_ne, beq_iff_eq] at hc
      obtain ⟨hn', hoff'⟩ := hc
      have key : ∃ k ks', ks = k :: ks' ∧ plainFields P (n + 1) fs = some ks' ∧ (∃ d, P.underlying f.type = some d ∧ ((∃ ki, d = .int ki) ∨ d = .bool)) := by
        split at hp
        · rename_i ki hk
          simp only [Option.map_eq_some_iff] at hp
          obtain ⟨ks', h1, rfl⟩ := hp
          exact ⟨true, ks', rfl, h1, _, hk, .inl ⟨ki, rfl⟩⟩
        · rename_i hk
          simp only [Option.map_eq_some_iff] at hp
          obtain ⟨ks', h1, rfl⟩ := hp
          exact ⟨false, ks', rfl, h1, _, hk, .inr rfl⟩
        · cases hp
      obtain ⟨k, ks', rfl, hp', dd, hty, hdd⟩ := key
      cases as with
      | nil => simp at hl
      | cons u as =>
        simp only [VRs] at hx
        obtain ⟨p, xr, hx1, hu, hx2⟩ := hx
        have gx : xs[n]? = some p := by have := congrArg (·[0]?) hx1; simpa using this
        have dx : xs.toList.drop (n + 1) = xr := by have := congrArg List.tail hx1; simpa using this
        have hagg : isAgg? P f.type = some false := by
          unfold isAgg?
          rw [hty]
          rcases hdd with ⟨ki, rfl⟩ | rfl <;> rfl
        have px : (part f.type xs n).run P w' = .ok p w' := by simp [part, isAgg_run hagg, gx]
        have ck : (Instr.checkKey em (d + 1) f.type p).run P w' = .ok () w' := by
          rcases hdd with ⟨ki, rfl⟩ | rfl <;> simp [Instr.checkKey, run_underlying hty]
        have ih := checkKey_flds em d w' hp' (by rw [dx]; exact hx2) (by simpa using hl)
        simp only [List.forIn_cons, Sem.run_bind, if_pos hn', hoff', px, ck, Result.andThen_ok, Sem.run_pure]
        exact ih
    · cases hp

theorem checkKey_int {kt : Nat} {ki : IntKind} (em : Bool) (hd : P.underlying kt = some (.int ki)) (y : Value) (w' : World) (d : Nat) : (Instr.checkKey em (d + 1) kt y).run P w' = .ok () w' := by
  simp [Instr.checkKey, run_underlying hd]
theorem checkKey_struct {kt : Nat} {fs : Array Field} (em : Bool) (hd : P.underlying kt = some (.struct fs)) (xa : Array Value) (w' : World) (d : Nat) : (Instr.checkKey em (d + 1) kt (.agg xa)).run P w' =
    (forIn fs.toList PUnit.unit fun (f : Field) (_ : PUnit) => (if f.name ≠ "_" then (do Instr.checkKey em d f.type (← part f.type xa f.offset); pure (ForInStep.yield PUnit.unit)) else pure (ForInStep.yield PUnit.unit) : Sem (ForInStep PUnit))).run P w' := by
  simp only [Instr.checkKey, Sem.run_bind, run_underlying hd, Result.andThen_ok]
  rw [← Array.forIn_toList]
  generalize Sem.run P (forIn fs.toList PUnit.unit _) w' = r
  cases r <;> rfl

theorem eqVs_len : ∀ (ks : List Bool) (xs ys : List V) (b : Bool), eqVs ks xs ys = some b → xs.length = ks.length := by
  intro ks
  induction ks with
  | nil => intro xs ys b h; unfold eqVs at h; split at h <;> simp_all
  | cons k ks ih =>
    intro xs ys b h
    cases xs with
    | nil => simp [eqVs] at h
    | cons x xs =>
      cases ys with
      | nil => simp [eqVs] at h
      | cons y ys =>
        simp only [eqVs] at h
        split at h
        · simp [ih xs ys b h]
        · split at h
          · rename_i b' hb'; simp [ih xs ys b' hb']
          · cases h
        · cases h

theorem checkKey_run {kt : Nat} {kk : Option (List Bool)} {k : V} {y : Value} (em : Bool) (hk : keyKind P kt = some kk) (hy : VR ρ w k y) (hp : plainKey kk k = true) (w' : World) : (Instr.checkKey em 10000 kt y).run P w' = .ok () w' := by
  unfold keyKind at hk
  split at hk
  · rename_i ki hd
    exact checkKey_int em hd y w' 9999
  · rename_i fs hd
    simp only [Option.map_eq_some_iff] at hk
    obtain ⟨ks, hk, rfl⟩ := hk
    obtain ⟨_, _, fs', h3, _, h5⟩ := plainStruct_some hk
    rw [hd] at h3; cases h3
    simp only [plainKey, Option.isSome_iff_exists] at hp
    obtain ⟨b, hb⟩ := hp
    cases k with
    | agg xs =>
      simp only [eqA] at hb
      simp only [VR] at hy
      obtain ⟨xa, rfl, hx⟩ := hy
      rw [checkKey_struct em hd xa w' 9999]
      exact checkKey_flds (P := P) (ρ := ρ) (w := w) em 9998 w' (xs := xa) (as := xs) h5 (by simpa using hx) (eqVs_len _ _ _ _ hb)
    | _ => simp [eqA] at hb
  · cases hk

theorem midx_lt {kk : Option (List Bool)} {k : V} : ∀ {es : List (V × V)} {i : Nat}, midx kk k es = some (some i) → i < es.length ∧ ∃ q x, es[i]? = some (q, x) ∧ eqA kk k q = some true
  | [], i, h => by simp [midx] at h
  | (q, x) :: es, i, h => by
    simp only [midx] at h
    split at h
    · rename_i he; cases h; exact ⟨by simp, q, x, by simp, he⟩
    · simp only [Option.map_eq_some_iff] at h
      obtain ⟨r, h1, j, rfl, rfl⟩ := h
      obtain ⟨h3, q', x', h4, h5⟩ := midx_lt h1
      exact ⟨by simp; omega, q', x', by simpa using h4, h5⟩
    · cases h

theorem VR_tup2 {u : V} {y : Value} {b : Value} (h : VR ρ w u y) : VR ρ w (.tup [u, .lit b]) (.tuple #[y, b]) := by
  simp only [VR, VRs]
  exact ⟨_, rfl, y, [b], rfl, h, b, [], rfl, rfl, rfl⟩

theorem zeroV_run {e : TypeId} {z : V} (h : zeroV? P e = some z) (w' : World) : ∃ zv, (zeroValue e).run P w' = .ok zv w' ∧ VR ρ w z zv := by
  simp only [zeroV?, Option.bind_eq_bind, Option.bind_eq_some_iff] at h
  obtain ⟨i, h1, zv, h2, h3⟩ := h
  exact ⟨zv, zeroValue_run h1 h2 w', toV_VR h3⟩

theorem sound_lku (hs : SR E ρ β s a w) {t kt e : Nat} {kk : Option (List Bool)} {z : V} {ok : Bool} {p q : Operand} {p' q' : Opd} (ho : o.op = .lookup t p q ok) (ht : P.underlying t = some (.map kt e)) (hk : keyKind P kt = some kk) (hz : zeroV? P e = some z) (hp : cOpd p = some p') (hq : cOpd q = some q')
    (h : aop G o.dst (.lku kk z ok p' q') s = some (x, s')) : Sound E P o x s' a w := by
  simp only [aop] at h
  split at h
  · rename_i b k hb hkv
    split at h
    · rename_i es hes
      split at h
      · rename_i hpk
        obtain ⟨u, h1, rfl, rfl⟩ := vres_some h
        simp only [Option.map_eq_some_iff] at h1
        obtain ⟨r, h1, rfl⟩ := h1
        obtain ⟨B, hB, he, ms, clock, g1, g2, g3⟩ := hs.mpv hp hb hes
        have gk := hs.opdv hq hkv
        obtain ⟨zv, z1, z2⟩ := zeroV_run (P := P) (ρ := ρ) (w := w) hz w
        have hck := checkKey_run (P := P) ms.isEmpty hk gk hpk w
        have hobj : (getObj B).run P w = .ok (.map ms clock) w := by simp [getObj, Sem.run, g1]
        unfold mfind at h1
        have fin : ∀ (rv : Value) (fo : Option (Nat × Value)), (Instr.findKey kt (a.eval q) ms.toList).run P w = .ok fo w → rv = (match fo with | some (_, v) => v | none => zv) →
            (execOp a.eval o).run P w = .ok (.value (if ok then .tuple #[rv, .bool fo.isSome] else rv)) w := by
          intro rv fo hf hrv
          subst hrv
          simp only [execOp, ho, Instr.lookup, Sem.run_bind, run_underlying ht, Result.andThen_ok, he, hobj, Sem.run_pure, hck, hf]
          cases fo with
          | none => simp [z1]
          | some iv => obtain ⟨i, v⟩ := iv; simp
        split at h1
        · rename_i i hi
          cases h1
          obtain ⟨hlt, q0, x0, hx0, _⟩ := midx_lt hi
          have hf := findKey_run (P := P) hk gk hi (by simpa using g2) w
          have hx1 : (es.map (·.2))[i]? = some x0 := by simp [hx0]
          obtain ⟨v, hv, hvr⟩ := g3.get i x0 hx1
          have hm : ∃ m, ms[i]? = some m ∧ m.val = v := by simpa using hv
          obtain ⟨m, hm, rfl⟩ := hm
          have hf' : (Instr.findKey kt (a.eval q) ms.toList).run P w = .ok (some (i, m.val)) w := by
            rw [hf]; simp [hm]
          have hr := fin m.val _ hf' rfl
          refine Sound.pure hs hr ?_
          cases ok
          · simp [TR, hx0]; exact hvr
          · simp only [TR, hx0]
            exact VR_tup2 hvr
        · rename_i hi
          cases h1
          have hf := findKey_run (P := P) hk gk hi (by simpa using g2) w
          have hr := fin zv none (by rw [hf]; rfl) rfl
          refine Sound.pure hs hr ?_
          cases ok
          · simp [TR]; exact z2
          · exact VR_tup2 z2
        · cases h1
      · cases h
    · cases h
  · cases h

theorem sameBits_eqV {k : Bool} {u v : V} {p q : Value} (h : eqV k u v = some true) (hu : VR ρ w u p) (hv : VR ρ w v q) (d : Nat) : Instr.sameBits d q p = true := by
  unfold eqV at h
  split at h
  · simp only [VR] at hu hv
    subst hu hv
    split at h
    · rename_i hk; subst hk; simp at h; subst h; cases d <;> simp [Instr.sameBits]
    · cases h
  · simp only [VR] at hu hv
    subst hu hv
    simp at h
    subst h
    cases d <;> simp [Instr.sameBits]
  · cases h

theorem sameBits_eqVs : ∀ {ks : List Bool} {as bs : List V} {xs ys : List Value} (d : Nat), eqVs ks as bs = some true → VRs ρ w as xs → VRs ρ w bs ys → ys.length = xs.length ∧ ((ys.zip xs).all fun (x, y) => Instr.sameBits d x y) = true
  | [], as, bs, xs, ys, d, h, hx, hy => by
    unfold eqVs at h
    split at h <;> simp_all [VRs]
  | k :: ks, as, bs, xs, ys, d, h, hx, hy => by
    cases as with
    | nil => simp [eqVs] at h
    | cons a as =>
      cases bs with
      | nil => simp [eqVs] at h
      | cons b bs =>
        simp only [eqVs] at h
        split at h
        · rename_i he
          simp only [VRs] at hx hy
          obtain ⟨x, xr, rfl, h1, h2⟩ := hx
          obtain ⟨y, yr, rfl, h3, h4⟩ := hy
          obtain ⟨g1, g2⟩ := sameBits_eqVs d h h2 h4
          exact ⟨by simp [g1], by simp only [List.zip_cons_cons, List.all_cons, sameBits_eqV he h1 h3, Bool.true_and]; exact g2⟩
        · split at h <;> cases h
        · cases h

theorem sameBits_eqA {kk : Option (List Bool)} {u v : V} {p q : Value} (h : eqA kk u v = some true) (hu : VR ρ w u p) (hv : VR ρ w v q) : Instr.sameBits 10000 q p = true := by
  unfold eqA at h
  split at h
  · simp only [VR] at hu hv
    obtain ⟨xs, rfl, hx⟩ := hu
    obtain ⟨ys, rfl, hy⟩ := hv
    obtain ⟨g1, g2⟩ := sameBits_eqVs 9999 h hx hy
    rw [show (10000 : Nat) = 9999 + 1 from rfl, Instr.sameBits]
    simp only [Bool.and_eq_true, beq_iff_eq]
    exact ⟨by simpa using g1, g2⟩
  · exact sameBits_eqV h hu hv _
  · cases h

theorem modify_keys (ms : Array MapEntry) (i : Nat) (k v : Value) : (ms.modify i fun e => { e with key := k, val := v }).toList.map (·.key) = (ms.toList.map (·.key)).set i k := by
  apply List.ext_getElem?
  intro j
  simp only [List.getElem?_map, Array.getElem?_toList, Array.getElem?_modify, List.getElem?_set, List.length_map, Array.length_toList]
  by_cases h : i = j
  · subst h
    by_cases hlt : i < ms.size <;> simp [hlt]
  · simp [h]
theorem modify_vals (ms : Array MapEntry) (i : Nat) (k v : Value) : (ms.modify i fun e => { e with key := k, val := v }).toList.map (·.val) = (ms.toList.map (·.val)).set i v := by
  apply List.ext_getElem?
  intro j
  simp only [List.getElem?_map, Array.getElem?_toList, Array.getElem?_modify, List.getElem?_set, List.length_map, Array.length_toList]
  by_cases h : i = j
  · subst h
    by_cases hlt : i < ms.size <;> simp [hlt]
  · simp [h]

theorem VRs.set {vs : List V} {xs : List Value} (h : VRs ρ w vs xs) (i : Nat) {v : V} {y : Value} (hv : VR ρ w v y) : VRs ρ w (vs.set i v) (xs.set i y) :=
  VRs.of_get (by simp [h.length]) fun j u hu => by
    rw [List.getElem?_set] at hu ⊢
    by_cases hij : i = j
    · subst hij
      simp only [if_true] at hu ⊢
      split at hu
      · rename_i hlt; cases hu; rw [if_pos (by rw [h.length]; exact hlt)]; exact ⟨y, rfl, hv⟩
      · cases hu
    · rw [if_neg hij] at hu ⊢; exact h.get j u hu
theorem VRs.eraseIdx {vs : List V} {xs : List Value} (h : VRs ρ w vs xs) (i : Nat) : VRs ρ w (vs.eraseIdx i) (xs.eraseIdx i) :=
  VRs.of_get (by simp [List.length_eraseIdx, h.length]) fun j u hu => by
    rw [List.getElem?_eraseIdx] at hu ⊢
    split at hu
    · rename_i hl; rw [if_pos hl]; exact h.get j u hu
    · rename_i hl; rw [if_neg hl]; exact h.get _ u hu

theorem putObj_wrote {B : Nat} {ms : Array MapEntry} {clock : Nat} (ms' : Array MapEntry) (clock' : Nat) (h : w.heap[B]? = some (.map ms clock)) : Wrote w (w.putObj B (.map ms' clock')) B :=
  Wrote.putObj _ h (fun C e f hh => by cases hh)

theorem sound_mup (hs : SR E ρ β s a w) {t kt e : Nat} {kk : Option (List Bool)} {p q r : Operand} {p' q' r' : Opd} (ho : o.op = .mapUpdate t p q r ∨ o.op = .insert t p q r) (ht : P.underlying t = some (.map kt e)) (hk : keyKind P kt = some kk) (hp : cOpd p = some p') (hq : cOpd q = some q') (hr : cOpd r = some r')
    (h : aop G o.dst (.mup kk p' q' r') s = some (x, s')) : Sound E P o x s' a w := by
  simp only [aop] at h
  split at h
  · rename_i b k v hb hkv hvv
    split at h
    · rename_i es hes
      split at h
      · rename_i hpk
        simp only [Option.map_eq_some_iff] at h
        obtain ⟨es', h1, he'⟩ := h
        cases he'
        obtain ⟨B, hB, he, ms, clock, g1, g2, g3⟩ := hs.mpv hp hb hes
        have gk := hs.opdv hq hkv
        have gv := hs.opdv hr hvv
        have hlt : B < w.heap.size := (Array.getElem?_eq_some_iff.1 g1).1
        have hck := checkKey_run (P := P) false hk gk hpk w
        have hobj : (getObj B).run P w = .ok (.map ms clock) w := by simp [getObj, Sem.run, g1]
        have hset : ∀ ms' c', (setObj B (.map ms' c')).run P w = .ok () (w.putObj B (.map ms' c')) := by intro ms' c'; simp [setObj, Sem.run, g1, World.putObj]
        have hex : ∀ y, (Instr.mapUpdate t (a.eval p) (a.eval q) (a.eval r)).run P w = .ok () y → (execOp a.eval o).run P w = .ok .skip y := by
          intro y hy
          rcases ho with ho | ho <;> simp [execOp, ho, hy]
        unfold mput at h1
        split at h1
        · rename_i i hi
          cases h1
          obtain ⟨hl, q0, x0, hx0, heq⟩ := midx_lt hi
          have hf := findKey_run (P := P) hk gk hi (by simpa using g2) w
          have hx1 : (es.map (·.1))[i]? = some q0 := by simp [hx0]
          obtain ⟨kv, hkv', hkr⟩ := g2.get i q0 hx1
          have hm : ∃ m, ms[i]? = some m ∧ m.key = kv := by simpa using hkv'
          obtain ⟨m, hm, rfl⟩ := hm
          have hst : (Instr.keyThatStays m.key (a.eval q)).run P w = .ok (a.eval q) w := by
            simp [Instr.keyThatStays, sameBits_eqA heq gk hkr]
          have hrun : (Instr.mapUpdate t (a.eval p) (a.eval q) (a.eval r)).run P w = .ok () (w.putObj B (.map (ms.modify i fun e => { e with key := a.eval q, val := a.eval r }) clock)) := by
            simp only [Instr.mapUpdate, Sem.run_bind, run_underlying ht, Result.andThen_ok, he, hobj, hck, hf]
            simp [hm, hst, hset]
          refine ⟨_, undef, ρ, β, .inr ⟨hex _ hrun, rfl⟩, hs.writeH hB (putObj_wrote _ _ g1) (fun kp => ⟨_, clock, World.putObj_heap_same hlt, ?_, ?_⟩), by simp [TR, VR]⟩
          · rw [modify_keys, List.map_set]
            exact VRs.keep kp _ _ (g2.set i gk)
          · rw [modify_vals, List.map_set]
            exact VRs.keep kp _ _ (g3.set i gv)
        · rename_i hi
          cases h1
          have hf := findKey_run (P := P) hk gk hi (by simpa using g2) w
          have hrun : (Instr.mapUpdate t (a.eval p) (a.eval q) (a.eval r)).run P w = .ok () (w.putObj B (.map (ms.push { key := a.eval q, val := a.eval r, born := clock }) (clock + 1))) := by
            simp only [Instr.mapUpdate, Sem.run_bind, run_underlying ht, Result.andThen_ok, he, hobj, hck, hf]
            simp [hset]
          refine ⟨_, undef, ρ, β, .inr ⟨hex _ hrun, rfl⟩, hs.writeH hB (putObj_wrote _ _ g1) (fun kp => ⟨_, clock + 1, World.putObj_heap_same hlt, ?_, ?_⟩), by simp [TR, VR]⟩
          · have := VRs.keep kp _ _ (g2.append (us := [k]) (ys := [a.eval q]) (by simp only [VRs]; exact ⟨_, _, rfl, gk, rfl⟩))
            simpa using this
          · have := VRs.keep kp _ _ (g3.append (us := [v]) (ys := [a.eval r]) (by simp only [VRs]; exact ⟨_, _, rfl, gv, rfl⟩))
            simpa using this
        · cases h1
      · cases h
    · cases h
  · cases h

theorem map_erase {α β : Type} (f : α → β) : ∀ (l : List α) (i : Nat), (l.eraseIdx i).map f = (l.map f).eraseIdx i
  | [], i => by simp
  | x :: r, 0 => by simp
  | x :: r, i + 1 => by simp [map_erase f r i]

theorem erase_keys (ms : Array MapEntry) (i : Nat) : (ms.eraseIdxIfInBounds i).toList.map (·.key) = (ms.toList.map (·.key)).eraseIdx i := by
  rw [← map_erase]
  congr 1
  unfold Array.eraseIdxIfInBounds
  split
  · simp
  · rename_i h; rw [List.eraseIdx_of_length_le (by simpa using h)]
theorem erase_vals (ms : Array MapEntry) (i : Nat) : (ms.eraseIdxIfInBounds i).toList.map (·.val) = (ms.toList.map (·.val)).eraseIdx i := by
  rw [← map_erase]
  congr 1
  unfold Array.eraseIdxIfInBounds
  split
  · simp
  · rename_i h; rw [List.eraseIdx_of_length_le (by simpa using h)]

theorem sound_dele (hs : SR E ρ β s a w) {c : Call} {t kt e : Nat} {kk : Option (List Bool)} {p q : Operand} {p' q' : Opd} (ho : o.op = .call c) (hc : c.callee = .builtin .delete) (hct : c.argTypes[0]? = some t) (ht : P.underlying t = some (.map kt e)) (hk : keyKind P kt = some kk) (ha : c.args.toList = [p, q]) (hp : cOpd p = some p') (hq : cOpd q = some q')
    (h : aop G o.dst (.dele kk p' q') s = some (x, s')) : Sound E P o x s' a w := by
  have hargs : c.args = #[p, q] := by rw [← Array.toArray_toList (xs := c.args), ha]
  simp only [aop] at h
  split at h
  · rename_i b k hb hkv
    split at h
    · rename_i es hes
      split at h
      · rename_i hpk
        simp only [Option.map_eq_some_iff] at h
        obtain ⟨es', h1, he'⟩ := h
        cases he'
        obtain ⟨B, hB, he, ms, clock, g1, g2, g3⟩ := hs.mpv hp hb hes
        have gk := hs.opdv hq hkv
        have hlt : B < w.heap.size := (Array.getElem?_eq_some_iff.1 g1).1
        have hck := checkKey_run (P := P) ms.isEmpty hk gk hpk w
        have hobj : (getObj B).run P w = .ok (.map ms clock) w := by simp [getObj, Sem.run, g1]
        have hset : ∀ ms' c', (setObj B (.map ms' c')).run P w = .ok () (w.putObj B (.map ms' c')) := by intro ms' c'; simp [setObj, Sem.run, g1, World.putObj]
        have hex : ∀ y, (Builtin.delete_ c.argTypes o.type #[.map (some B), a.eval q]).run P w = .ok (.tuple #[]) y → (execOp a.eval o).run P w = .ok (.value (.tuple #[])) y := by
          intro y hy
          simp [execOp, ho, resolve, hc, hargs, invoke, builtin, he, hy]
        unfold mdel at h1
        split at h1
        · rename_i i hi
          cases h1
          obtain ⟨hl, q0, x0, hx0, heq⟩ := midx_lt hi
          have hf := findKey_run (P := P) hk gk hi (by simpa using g2) w
          have hl2 : i < ms.size := by have := g2.length; simp at this; omega
          have hm : ms[i]? = some ms[i] := Array.getElem?_eq_getElem hl2
          have hrun : (Builtin.delete_ c.argTypes o.type #[.map (some B), a.eval q]).run P w = .ok (.tuple #[]) (w.putObj B (.map (ms.eraseIdxIfInBounds i) clock)) := by
            simp only [Builtin.delete_, hct]
            simp [run_underlying ht, hobj, hck, hf, hm, hset]
          refine ⟨_, _, ρ, β, .inl (hex _ hrun), hs.writeH hB (putObj_wrote _ _ g1) (fun kp => ⟨_, clock, World.putObj_heap_same hlt, ?_, ?_⟩), by simp [TR, VR]⟩
          · rw [erase_keys, map_erase]
            exact VRs.keep kp _ _ (g2.eraseIdx i)
          · rw [erase_vals, map_erase]
            exact VRs.keep kp _ _ (g3.eraseIdx i)
        · rename_i hi
          cases h1
          have hf := findKey_run (P := P) hk gk hi (by simpa using g2) w
          have hrun : (Builtin.delete_ c.argTypes o.type #[.map (some B), a.eval q]).run P w = .ok (.tuple #[]) (w.putObj B (.map ms clock)) := by
            simp only [Builtin.delete_, hct]
            simp [run_underlying ht, hobj, hck, hf, hset]
          refine ⟨_, _, ρ, β, .inl (hex _ hrun), hs.writeH hB (putObj_wrote _ _ g1) (fun kp => ⟨_, clock, World.putObj_heap_same hlt, VRs.keep kp _ _ g2, VRs.keep kp _ _ g3⟩), by simp [TR, VR]⟩
        · cases h1
      · cases h
    · cases h
  · cases h
end
end Iso

/- The abstract layer, tenth part: append and copy. Nothing of a program. -/
namespace Iso
open Go Go.RowKit
section
variable {E : Entry} {ρ : Rn} {β : Nat → Option Nat} {s s' : St} {a : Act} {w : World} {P : Program} {o : Oper} {x : T} {G : List Nat}

/-- The cells of a slice, as they lie. -/
theorem SR.sl (hs : SR E ρ β s a w) {y : Operand} {y' : Opd} (hy : cOpd y = some y') {v : V} (hv : y'.ev s.A = .v v) {m sz : Nat} {cs : List V} (hm : slLen v = some m) (hc : slCells s.H sz v = some cs) :
    cs.length = m * sz ∧ (((∃ oa, a.eval y = .slice oa 0 0) ∧ m = 0 ∧ cs = []) ∨ ∃ ad cap xs, a.eval y = .slice (some ad) m cap ∧ VRs ρ w cs xs ∧ ∀ j u, xs[j]? = some u → w.cell? (ad.add j) = some u) := by
  unfold slCells at hc
  split at hc
  · cases hc
    simp only [slLen] at hm; cases hm
    exact ⟨by simp, .inl ⟨⟨_, hs.litv hy hv⟩, rfl, rfl⟩⟩
  · rename_i b off n s2
    simp only [slLen] at hm; cases hm
    split at hc
    · rename_i he
      subst he
      split at hc
      · rename_i cs0 hH
        split at hc
        · rename_i hle
          cases hc
          obtain ⟨B, o', cap, C, e, hB, hk, he, ho', hcap, hC, hsz⟩ := hs.hsv hy hv hH
          refine ⟨by simp; omega, .inr ⟨⟨B, o', none⟩, cap, ?_⟩⟩
          rcases ho' with rfl | ⟨h0, _⟩
          · have hr := ((RowAt.row hk).drop o').take (m * s2)
            rw [Nat.zero_add] at hr
            obtain ⟨xs, h1, h2⟩ := hr.list
            exact ⟨xs, he, h1, fun j u hu => by rw [add_at]; exact h2 j u hu⟩
          · subst h0
            exact ⟨[], he, by simp [VRs], fun j u hu => by simp at hu⟩
        · cases hc
      · cases hc
    · cases hc
  · rename_i cs0 n
    simp only [slLen] at hm; cases hm
    split at hc
    · rename_i hl
      cases hc
      have g := hs.opdv hy hv
      simp only [VR] at g
      obtain ⟨B, off, cap, he, hcap, him, hr⟩ := g
      obtain ⟨xs, h1, h2⟩ := hr.list
      exact ⟨hl, .inr ⟨_, cap, xs, he, h1, fun j u hu => by rw [add_at]; exact h2 j u hu⟩⟩
    · cases hc
  · cases hc

theorem app_run0 {t ty e : TypeId} {i : TypeInfo} (ht : P.underlying t = some (.slice e)) (hi : P.info? e = some i) (ad : Option Addr) (n cap : Nat) (hc : n ≤ cap) (hn : ad = none → n = 0 ∧ cap = 0) (v : Value) (hv : v = .slice none 0 0 ∨ ∃ ad c, v = .slice (some ad) 0 c) :
    (Builtin.append_ #[t, t] ty #[.slice ad n cap, v]).run P w = .ok (.slice ad n cap) w := by
  rcases hv with rfl | ⟨ad2, c, rfl⟩ <;> cases ad <;> simp [Builtin.append_, run_underlying ht, Go.sizeOf, typeInfo, hi, Builtin.lenOf, hc, Builtin.firstCells, loadCells, loadCellsFrom, storeCells]

theorem sound_app (hs : SR E ρ β s a w) {c : Call} {t e : Nat} {i : TypeInfo} {z : List V} {p q : Operand} {p' q' : Opd} (ho : o.op = .call c) (hc : c.callee = .builtin .append) (ht0 : c.argTypes = #[t, t]) (ht : P.underlying t = some (.slice e)) (hi : P.info? e = some i) (hz : zero? P e = some z) (hn : ¬ (z.length ≠ i.size ∨ i.size = 0)) (ha : c.args.toList = [p, q]) (hp : cOpd p = some p') (hq : cOpd q = some q')
    (h : aop G o.dst (.app i.size i.bytes p' q') s = some (x, s')) : Sound E P o x s' a w := by
  have hargs : c.args = #[p, q] := by rw [← Array.toArray_toList (xs := c.args), ha]
  obtain ⟨i', zv, h1, h2, h3⟩ := zero_VR hz
  rw [hi] at h1; cases h1
  have hz1 : z.length = i.size := by
    rcases Nat.decEq z.length i.size with h | h
    · exact absurd (.inl h) hn
    · exact h
  have hz0 : i.size ≠ 0 := fun h => hn (.inr h)
  have hzl : zv.cells.size = i.size := by have := (toVs_VRs (ρ := ρ) (w := w) h3).length; simp at this; omega
  have hex : ∀ y w', (Builtin.append_ #[t, t] o.type #[a.eval p, a.eval q]).run P w = .ok y w' → (execOp a.eval o).run P w = .ok (.value y) w' := by
    intro y w' hy
    simp [execOp, ho, resolve, hc, hargs, invoke, builtin, ht0, hy]
  simp only [aop] at h
  split at h
  · rename_i u v hu hv
    split at h
    · rename_i m news hm hnews
      split at h
      · rename_i hones
        obtain ⟨hnl, hsrc⟩ := hs.sl hq hv hm hnews
        have hsrc0 : m = 0 → a.eval q = .slice none 0 0 ∨ ∃ ad c, a.eval q = .slice (some ad) 0 c := by
          intro h0
          rcases hsrc with ⟨⟨oa, g⟩, _⟩ | ⟨ad, cap, xs, g, _⟩
          · cases oa with
            | none => exact .inl g
            | some ad => exact .inr ⟨ad, 0, g⟩
          · exact .inr ⟨ad, cap, by rw [g, h0]⟩
        split at h
        · -- nil
          have e1 := hs.litv hp hu
          split at h
          · rename_i h0
            cases h
            refine Sound.pure hs (y := .slice none 0 0) (hex _ _ ?_) (by simp [TR, VR])
            rw [e1]
            exact app_run0 ht hi none 0 0 (Nat.le_refl _) (fun _ => ⟨rfl, rfl⟩) _ (hsrc0 h0)
          · rename_i h0
            split at h
            · rename_i hb
              cases h
              rcases hsrc with ⟨_, g, _⟩ | ⟨ad, cap, xs, g1, g2, g3⟩
              · exact absurd g h0
              · have hxl : xs.length = m * i.size := by rw [g2.length, hnl]
                have hr := run_append_nil (P := P) w t o.type e i zv ht hi h2 ad m cap xs hxl g3 (by omega) (by omega) (by omega)
                have hrow : VRs ρ w.drew news (List.take news.length (xs.toArray ++ Builtin.zeroCells zv.cells (grownCap w m 0 e - m)).toList) := by
                  have : List.take news.length (xs.toArray ++ Builtin.zeroCells zv.cells (grownCap w m 0 e - m)).toList = xs := by
                    simp only [Array.toList_append]
                    rw [hnl, ← hxl, List.take_left]
                  rw [this]
                  exact VRs.keep (⟨Nat.le_refl _, fun _ _ _ h => h, fun B hB => ⟨hB, rfl⟩, fun B C e hC => ⟨C, hC, rfl⟩⟩ : Keep ρ w ρ w.drew) _ _ g2
                obtain ⟨ρ', k1, k2, k3⟩ := hs.drew.push (.cells news) (.cells (xs.toArray ++ Builtin.zeroCells zv.cells (grownCap w m 0 e - m)) e) (fun ρ' k => ⟨_, e, World.alloc_heap_new _ _, by simp; omega, VRs.keep k _ _ hrow⟩)
                refine ⟨_, _, ρ', β, .inl (hex _ _ (by rw [e1, g1]; exact hr)), k1, ?_⟩
                refine VR.hs_mk (by rw [k3]; exact Nat.lt_succ_self _) k2 ?_
                have hge := grownCap_ge w m 0 e
                refine ⟨0, grownCap w m 0 e, rfl, .inl rfl, hge, _, e, World.alloc_heap_new _ _, ?_⟩
                simp only [Array.size_append, List.size_toArray, size_zeroCells, hzl, hxl, Nat.zero_add, ← Nat.add_mul]
                exact Nat.mul_le_mul_right _ (by omega)
            · cases h
        · rename_i b off n s2
          split at h
          · rename_i cs hH
            split at h
            · rename_i hcond
              obtain ⟨rfl, rfl, hle⟩ := hcond
              obtain ⟨B, o', cap, C, e', hB, hk, he, ho', hcap, hC, hsz⟩ := hs.hsv hp hu hH
              split at h
              · rename_i h0
                cases h
                refine Sound.pure hs (y := a.eval p) (hex _ _ ?_) (hs.opdv hp hu)
                rw [he]
                exact app_run0 ht hi _ n cap hcap (fun hh => by cases hh) _ (hsrc0 h0)
              · rename_i h0
                split at h
                · rename_i hb
                  cases h
                  rcases hsrc with ⟨_, g, _⟩ | ⟨ad, cap2, xs, g1, g2, g3⟩
                  · exact absurd g h0
                  · have hxl : xs.length = m * i.size := by rw [g2.length, hnl]
                    have hx1 := hs.ones hones g2
                    obtain ⟨C2, e2, c1, c2, c3⟩ := hk
                    rw [hC] at c1; cases c1
                    by_cases hroom : n + m ≤ cap
                    · -- there is room
                      obtain rfl : o' = 0 := by omega
                      have hfit : n * i.size + xs.length ≤ C.size := by
                        rw [hxl, ← Nat.add_mul]
                        have := Nat.mul_le_mul_right i.size hroom
                        omega
                      have hr : (Builtin.append_ #[t, t] o.type #[.slice (some ⟨B, 0, none⟩) n cap, .slice (some ad) m cap2]).run P w = .ok (.slice (some ⟨B, 0, none⟩) (n + m) cap) (w.setRow B (C.toList.take (n * i.size) ++ xs ++ C.toList.drop (n * i.size + xs.length)).toArray) := by
                        have hf := run_firstCells_some (P := P) w i.size m ad m cap2 xs hxl g3
                        have hst := run_storeCells_at P B (n * i.size) e' xs 0 C w hC (by simpa using hfit) hx1
                        simp only [Nat.add_zero] at hst
                        simp [Builtin.append_, run_underlying ht, Go.sizeOf, typeInfo, hi, Builtin.lenOf, hroom, hf, Addr.add_lit, hst]
                      have hwr : Wrote w (w.setRow B (C.toList.take (n * i.size) ++ xs ++ C.toList.drop (n * i.size + xs.length)).toArray) B := Wrote.setRow hC (by simp; omega)
                      have hrow : VRs ρ w (cs.take (n * i.size) ++ news) (C.toList.take (n * i.size) ++ xs) := by
                        refine VRs.append ?_ g2
                        have := c3.take (n * i.size)
                        rw [List.take_take, Nat.min_eq_left hle] at this
                        exact this
                      have hll : (cs.take (n * i.size) ++ news).length = n * i.size + xs.length := by simp; omega
                      obtain ⟨ρ', k1, k2, k3⟩ := hs.rename (kb := .cells (cs.take (n * i.size) ++ news)) hB hwr (fun ρ' k => ⟨_, e', setRow_heap w B C _ e' _ hC, by rw [hll]; simp; omega, by
                        have h9 := VRs.keep k _ _ hrow
                        have h8 : List.take (cs.take (n * i.size) ++ news).length (C.toList.take (n * i.size) ++ xs ++ C.toList.drop (n * i.size + xs.length)).toArray.toList = C.toList.take (n * i.size) ++ xs := by
                          rw [List.toList_toArray, ← hrow.length]; exact List.take_left
                        rw [h8]; exact h9⟩)
                      refine ⟨_, _, ρ', β, .inl (hex _ _ (by rw [he, g1]; exact hr)), k1, ?_⟩
                      refine VR.hs_mk (by rw [k3]; exact Nat.lt_succ_self _) k2 ?_
                      exact ⟨0, cap, rfl, .inl rfl, hroom, _, e', setRow_heap w B C _ e' _ hC, by simp; omega⟩
                    · -- it grows
                      obtain ⟨olds, o1, o2, o3⟩ : ∃ olds : List Value, olds.length = n * i.size ∧ VRs ρ w (cs.take (n * i.size)) olds ∧ ∀ j u, olds[j]? = some u → w.cell? ((⟨B, o', none⟩ : Addr).add j) = some u := by
                        rcases ho' with rfl | ⟨g, _⟩
                        · have hr := (row_of_heap hC c3).take (n * i.size)
                          obtain ⟨olds, q1, q2⟩ := hr.list
                          exact ⟨olds, by rw [q1.length]; simp; omega, q1, fun j u hu => by rw [add_at]; exact q2 j u hu⟩
                        · subst g
                          exact ⟨[], by simp, by simp [VRs], fun j u hu => by simp at hu⟩
                      have hr := run_append_grow (P := P) w t o.type e i zv ht hi h2 ⟨B, o', none⟩ n cap olds o1 o3 ad m cap2 xs hxl g3 (by omega) (by omega) (growslice_fits (by omega) hb.1)
                      have hrow : VRs ρ w.drew (cs.take (n * i.size) ++ news) (olds ++ xs) :=
                        VRs.keep (⟨Nat.le_refl _, fun _ _ _ h => h, fun B hB => ⟨hB, rfl⟩, fun B C e hC => ⟨C, hC, rfl⟩⟩ : Keep ρ w ρ w.drew) _ _ (o2.append g2)
                      obtain ⟨ρ1, j1, j2, _, j4⟩ := hs.drew.del b
                      have hrow1 := VRs.keep j2 _ _ hrow
                      have hge := grownCap_ge w (n + m) cap e
                      have hnsz : (olds.toArray ++ xs.toArray ++ Builtin.zeroCells zv.cells (grownCap w (n + m) cap e - (n + m))).toList = olds ++ xs ++ (Builtin.zeroCells zv.cells (grownCap w (n + m) cap e - (n + m))).toList := by simp
                      obtain ⟨ρ', k1, k2, k3⟩ := j1.push (.cells (cs.take (n * i.size) ++ news)) (.cells (olds.toArray ++ xs.toArray ++ Builtin.zeroCells zv.cells (grownCap w (n + m) cap e - (n + m))) e) (fun ρ' k => ⟨_, e, World.alloc_heap_new _ _, by simp; omega, by
                        rw [hnsz, ← hrow.length, List.take_left]; exact VRs.keep k _ _ hrow1⟩)
                      refine ⟨_, _, ρ', β, .inl (hex _ _ (by rw [he, g1]; exact hr)), k1, ?_⟩
                      refine VR.hs_mk (by rw [k3]; exact Nat.lt_succ_self _) k2 ?_
                      refine ⟨0, _, rfl, .inl rfl, hge, _, e, World.alloc_heap_new _ _, ?_⟩
                      simp only [Array.size_append, List.size_toArray, size_zeroCells, hzl, hxl, o1, Nat.zero_add, ← Nat.add_mul]
                      exact Nat.mul_le_mul_right _ (by omega)
                · cases h
            · cases h
          · cases h
        · cases h
      · cases h
    · cases h
  · cases h

theorem sound_cpy (hs : SR E ρ β s a w) {c : Call} {t e sz : Nat} {p q : Operand} {p' q' : Opd} (ho : o.op = .call c) (hc : c.callee = .builtin .copy) (ht0 : c.argTypes[0]? = some t) (ht : P.underlying t = some (.slice e)) (hsz : sizeOf? P e = some sz) (ha : c.args.toList = [p, q]) (hp : cOpd p = some p') (hq : cOpd q = some q')
    (h : aop G o.dst (.cpy sz p' q') s = some (x, s')) : Sound E P o x s' a w := by
  have hargs : c.args = #[p, q] := by rw [← Array.toArray_toList (xs := c.args), ha]
  have hex : ∀ y w', (Builtin.copy_ c.argTypes o.type #[a.eval p, a.eval q]).run P w = .ok y w' → (execOp a.eval o).run P w = .ok (.value y) w' := by
    intro y w' hy
    simp [execOp, ho, resolve, hc, hargs, invoke, builtin, hy]
  simp only [aop] at h
  split at h
  · rename_i b off n s2 v hu hv
    split at h
    · rename_i m news cs hm hnews hH
      split at h
      · rename_i hcond
        obtain ⟨hones, rfl, hle⟩ := hcond
        cases h
        obtain ⟨hnl, hsrc⟩ := hs.sl hq hv hm hnews
        obtain ⟨B, o', cap, C, e', hB, hk, he, ho', hcap, hC, hszC⟩ := hs.hsv hp hu hH
        obtain ⟨C2, e2, c1, c2, c3⟩ := hk
        rw [hC] at c1; cases c1
        have key : ∃ ys : List Value, VRs ρ w (news.take (min m n * s2)) ys ∧ (∀ z ∈ ys, z.oneCell' = true) ∧ (Builtin.copy_ c.argTypes o.type #[a.eval p, a.eval q]).run P w = ((storeCells ⟨B, o', none⟩ ys).run P w).andThen fun _ w' => .ok (.int .i64 (min m n : Nat)) w' := by
          rcases hsrc with ⟨⟨oa, g⟩, g1, g2⟩ | ⟨ad, cap2, xs, g1, g2, g3⟩
          · subst g1 g2
            refine ⟨[], by simp [VRs], (fun z hz => by cases hz), ?_⟩
            have hz0 : Nat.min 0 n = 0 := Nat.zero_min n
            cases oa <;> simp [Builtin.copy_, ht0, he, g, run_underlying ht, Builtin.lenOf, Builtin.firstCells, sizeOf_run hsz, storeCells, goInt, hz0, loadCells, loadCellsFrom]
          · have hxl : xs.length = m * s2 := by rw [g2.length, hnl]
            have hmn : min m n * s2 ≤ m * s2 := Nat.mul_le_mul_right _ (Nat.min_le_left _ _)
            have hl : (xs.take (min m n * s2)).length = min m n * s2 := by simp; omega
            have hload := run_loadCells_list (P := P) w ad (xs.take (min m n * s2)) (fun j u hu => by
              rw [List.getElem?_take] at hu
              split at hu
              · exact g3 j u hu
              · cases hu)
            rw [hl] at hload
            refine ⟨xs.take (min m n * s2), g2.take _, fun z hz => hs.ones hones g2 z (List.mem_of_mem_take hz), ?_⟩
            have hnm : Nat.min m n = min m n := rfl
            simp [Builtin.copy_, ht0, he, g1, run_underlying ht, Builtin.lenOf, Builtin.firstCells, sizeOf_run hsz, hnm, hload, goInt]
        obtain ⟨ys, k1, k2, k3⟩ := key
        have hyl : ys.length = min m n * s2 := by
          have := k1.length
          have h9 : min m n * s2 ≤ m * s2 := Nat.mul_le_mul_right _ (Nat.min_le_left _ _)
          simp at this; omega
        have hmn2 : min m n * s2 ≤ n * s2 := Nat.mul_le_mul_right _ (Nat.min_le_right _ _)
        by_cases h0 : ys = []
        · subst h0
          have hz0 : min m n * s2 = 0 := by simpa using hyl.symm
          have hrun : (Builtin.copy_ c.argTypes o.type #[a.eval p, a.eval q]).run P w = .ok (.int .i64 (min m n : Nat)) w := by rw [k3]; simp [storeCells]
          refine ⟨w, _, ρ, β, .inl (hex _ _ hrun), ?_, by simp [TR, VR]⟩
          have hsame : splice cs off (news.take (min m n * s2)) = cs := by rw [hz0]; simp [splice]
          rw [hsame]
          have hkeep : s.H.set b (.cells cs) = s.H := by
            unfold AH.set
            congr 1
            funext i
            split
            · rename_i hi; rw [hi, hH]
            · rfl
          rw [hkeep]
          exact hs
        · have hn0 : n ≠ 0 := by
            intro hn; subst hn
            apply h0
            apply List.eq_nil_of_length_eq_zero
            simpa using hyl
          obtain rfl : o' = off := by
            rcases ho' with h | ⟨h, _⟩
            · exact h
            · exact absurd h hn0
          have hst := run_storeCells_at P B o' e' ys 0 C w hC (by omega) k2
          simp only [Nat.add_zero] at hst
          have hrun : (Builtin.copy_ c.argTypes o.type #[a.eval p, a.eval q]).run P w = .ok (.int .i64 (min m n : Nat)) (w.setRow B (C.toList.take o' ++ ys ++ C.toList.drop (o' + ys.length)).toArray) := by
            rw [k3, hst]; rfl
          have hnt : (news.take (min m n * s2)).length = ys.length := k1.length.symm
          exact ⟨_, _, ρ, β, .inl (hex _ _ hrun), hs.writeH hB (Wrote.setRow hC (by simp; omega)) (fun k => RowAt.splice hC c2 c3 k1 (by omega) (setRow_heap w B C _ e' _ hC) k), by simp [TR, VR]⟩
      · cases h
    · cases h
  · cases h
end
end Iso

/- The abstract layer, eleventh part: every operation that compiles, at once. Nothing of a program. -/
namespace Iso
open Go Go.RowKit
section
variable {E : Entry} {ρ : Rn} {β : Nat → Option Nat} {s s' : St} {a : Act} {w : World} {P : Program} {o : Oper} {x : T} {G : List Nat}

theorem comp_call {c : Call} (hs : SR E ρ β s a w) (hop : o.op = .call c) {i : I} (hc : comp P o = some i) (h : aop G o.dst i s = some (x, s')) : Sound E P o x s' a w := by
  cases hcal : c.callee with
  | invoke r n => simp [comp, hop, hcal] at hc
  | value f =>
    cases f with
    | func f =>
      simp only [comp, hop, hcal, Option.pure_def, Option.bind_eq_bind, Option.bind_eq_some_iff] at hc
      obtain ⟨args, h1, hc⟩ := hc
      split at hc
      · cases hc; simp [aop] at h
      · split at hc
        · split at hc
          · rename_i hf; cases hc; exact sound_adc hs hop hcal h1 hf h
          · split at hc
            · rename_i hf; cases hc; exact sound_sbb hs hop hcal h1 hf h
            · cases hc
        · cases hc
    | tmp t =>
      simp only [comp, hop, hcal, Option.pure_def, Option.bind_eq_bind, Option.bind_eq_some_iff] at hc
      obtain ⟨_, _, _, _, hc⟩ := hc
      cases hc; simp [aop] at h
    | const v =>
      simp only [comp, hop, hcal, Option.pure_def, Option.bind_eq_bind, Option.bind_eq_some_iff] at hc
      obtain ⟨_, _, _, _, hc⟩ := hc
      cases hc; simp [aop] at h
    | global g =>
      simp only [comp, hop, hcal, Option.pure_def, Option.bind_eq_bind, Option.bind_eq_some_iff] at hc
      obtain ⟨_, _, _, _, hc⟩ := hc
      cases hc; simp [aop] at h
  | builtin b =>
    cases b with
    | len =>
      simp only [comp, hop, hcal, Option.pure_def, Option.bind_eq_bind, Option.bind_eq_some_iff] at hc
      obtain ⟨t, h1, d, h2, hc⟩ := hc
      split at hc
      · rename_i e y ha
        simp only [Option.bind_eq_some_iff] at hc
        obtain ⟨y', hy, hc⟩ := hc
        cases hc
        exact sound_len hs hop hcal h1 h2 ha hy h
      · rename_i k e y ha
        simp only [Option.bind_eq_some_iff] at hc
        obtain ⟨y', hy, hc⟩ := hc
        cases hc
        exact sound_lenm hs hop hcal h1 h2 ha hy h
      · cases hc
    | min =>
      simp only [comp, hop, hcal, Option.pure_def, Option.bind_eq_bind, Option.bind_eq_some_iff] at hc
      obtain ⟨xs, h1, hc⟩ := hc
      cases hc
      exact sound_mnx hs hop (by simpa using hcal) h1 h
    | max =>
      simp only [comp, hop, hcal, Option.pure_def, Option.bind_eq_bind, Option.bind_eq_some_iff] at hc
      obtain ⟨xs, h1, hc⟩ := hc
      cases hc
      exact sound_mnx hs hop (by simpa using hcal) h1 h
    | append =>
      simp only [comp, hop, hcal, Option.pure_def, Option.bind_eq_bind] at hc
      split at hc
      · rename_i t u y z ht ha
        simp only [Option.bind_eq_some_iff] at hc
        obtain ⟨d, h1, hc⟩ := hc
        split at hc
        · rename_i e
          simp only [Option.bind_eq_some_iff] at hc
          obtain ⟨i, h2, zz, h3, hc⟩ := hc
          split at hc
          · cases hc
          · rename_i hn
            simp only [Option.bind_eq_some_iff] at hc
            obtain ⟨y', hy, z', hz, hc⟩ := hc
            cases hc
            have hu : u = t := by
              rcases Nat.decEq u t with h | h
              · exact absurd (.inr (.inr h)) hn
              · exact h
            subst hu
            exact sound_app hs hop hcal (by rw [← Array.toArray_toList (xs := c.argTypes), ht]) h1 h2 h3 (fun hh => hn (hh.elim .inl fun q => .inr (.inl q))) ha hy hz h
        · cases hc
      · cases hc
    | copy =>
      simp only [comp, hop, hcal, Option.pure_def, Option.bind_eq_bind, Option.bind_eq_some_iff] at hc
      obtain ⟨t, h1, d, h2, hc⟩ := hc
      split at hc
      · rename_i e
        split at hc
        · rename_i y z ha
          simp only [Option.bind_eq_some_iff] at hc
          obtain ⟨sz, hsz, y', hy, z', hz, hc⟩ := hc
          cases hc
          exact sound_cpy hs hop hcal h1 h2 hsz ha hy hz h
        · cases hc
      · cases hc
    | delete =>
      simp only [comp, hop, hcal, Option.pure_def, Option.bind_eq_bind, Option.bind_eq_some_iff] at hc
      obtain ⟨t, h1, d, h2, hc⟩ := hc
      split at hc
      · rename_i kt e
        split at hc
        · rename_i y z ha
          simp only [Option.bind_eq_some_iff] at hc
          obtain ⟨kk, hk, y', hy, z', hz, hc⟩ := hc
          cases hc
          exact sound_dele hs hop hcal h1 h2 hk ha hy hz h
        · cases hc
      · cases hc
    | _ => simp [comp, hop, hcal] at hc

theorem comp_sound (hs : SR E ρ β s a w) {i : I} (hc : comp P o = some i) (h : aop G o.dst i s = some (x, s')) : Sound E P o x s' a w := by
  cases hop : o.op with
  | move y =>
    simp only [comp, hop, Option.pure_def, Option.bind_eq_bind, Option.bind_eq_some_iff] at hc
    obtain ⟨y', hy, hc⟩ := hc; cases hc
    exact sound_mv hs (.inl hop) hy h
  | assign y =>
    simp only [comp, hop, Option.pure_def, Option.bind_eq_bind, Option.bind_eq_some_iff] at hc
    obtain ⟨y', hy, hc⟩ := hc; cases hc
    exact sound_mv hs (.inr hop) hy h
  | pick c y z =>
    simp only [comp, hop, Option.pure_def, Option.bind_eq_bind, Option.bind_eq_some_iff] at hc
    obtain ⟨c', hc', y', hy, z', hz, hc⟩ := hc; cases hc
    exact sound_pick hs hop hc' hy hz h
  | alloc e =>
    simp only [comp, hop, Option.pure_def, Option.bind_eq_bind, Option.bind_eq_some_iff] at hc
    obtain ⟨z, hz, hc⟩ := hc; cases hc
    exact sound_new hs hop hz h
  | box e y =>
    simp only [comp, hop, Option.pure_def, Option.bind_eq_bind, Option.bind_eq_some_iff] at hc
    obtain ⟨y', hy, hc⟩ := hc; cases hc
    exact sound_box hs hop hy h
  | build t ps =>
    simp only [comp, hop, Option.pure_def, Option.bind_eq_bind, Option.bind_eq_some_iff] at hc
    obtain ⟨z, hz, d, hd, hc⟩ := hc
    split at hc
    · simp only [Option.bind_eq_some_iff] at hc
      obtain ⟨pl, hpl, qs, hqs, hc⟩ := hc; cases hc
      exact sound_bld_s hs hop hz hd hpl hqs h
    · simp only [Option.bind_eq_some_iff] at hc
      obtain ⟨sz, hsz, qs, hqs, hc⟩ := hc; cases hc
      exact sound_bld_a hs hop hz hd hsz hqs h
    · cases hc
  | buildSlice t n ps =>
    simp only [comp, hop, Option.pure_def, Option.bind_eq_bind, Option.bind_eq_some_iff] at hc
    obtain ⟨d, hd, hc⟩ := hc
    split at hc
    · simp only [Option.bind_eq_some_iff] at hc
      obtain ⟨sz, hsz, z, hz, hc⟩ := hc
      split at hc
      · cases hc
      · rename_i hn
        simp only [Option.bind_eq_some_iff] at hc
        obtain ⟨qs, hqs, hc⟩ := hc; cases hc
        exact sound_bsl hs hop hd hsz hz hn hqs h
    · cases hc
  | load t y =>
    simp only [comp, hop, Option.pure_def, Option.bind_eq_bind, Option.bind_eq_some_iff] at hc
    obtain ⟨ag, hag, sz, hsz, y', hy, hc⟩ := hc; cases hc
    exact sound_ld hs hop hy hag hsz h
  | store t y z =>
    simp only [comp, hop, Option.pure_def, Option.bind_eq_bind, Option.bind_eq_some_iff] at hc
    obtain ⟨sz, hsz, y', hy, z', hz, hc⟩ := hc; cases hc
    exact sound_st hs hop hsz hy hz h
  | nilCheck y =>
    simp only [comp, hop, Option.pure_def, Option.bind_eq_bind, Option.bind_eq_some_iff] at hc
    obtain ⟨y', hy, hc⟩ := hc; cases hc
    exact sound_nck hs hop hy h
  | binOp op t y z t2 =>
    simp only [comp, hop, Option.pure_def, Option.bind_eq_bind, Option.bind_eq_some_iff] at hc
    obtain ⟨y', hy, z', hz, d, hd, hc⟩ := hc
    split at hc
    · cases hc; exact sound_bin hs hop hy hz h
    · cases hc; exact sound_eqb (neg := false) hs hd hop hy hz h
    · cases hc; exact sound_eqb (neg := true) hs hd hop hy hz h
    · cases hc; exact sound_eqn (neg := false) hs hd hop hy hz h
    · cases hc; exact sound_eqn (neg := true) hs hd hop hy hz h
    · simp only [Option.bind_eq_some_iff] at hc
      obtain ⟨ks, hks, hc⟩ := hc; cases hc
      exact sound_eqc (neg := false) hs hks hop hy hz h
    · simp only [Option.bind_eq_some_iff] at hc
      obtain ⟨ks, hks, hc⟩ := hc; cases hc
      exact sound_eqc (neg := true) hs hks hop hy hz h
    · cases hc
  | unOp op t y =>
    simp only [comp, hop, Option.pure_def, Option.bind_eq_bind, Option.bind_eq_some_iff] at hc
    obtain ⟨y', hy, hc⟩ := hc; cases hc
    exact sound_un hs hop hy h
  | convert t d y =>
    simp only [comp, hop, Option.pure_def, Option.bind_eq_bind, Option.bind_eq_some_iff] at hc
    obtain ⟨dt, hdt, hc⟩ := hc
    split at hc
    · simp only [Option.bind_eq_some_iff] at hc
      obtain ⟨dd, hdd, hc⟩ := hc
      split at hc
      · simp only [Option.bind_eq_some_iff] at hc
        obtain ⟨y', hy, hc⟩ := hc; cases hc
        exact sound_cv hs hop hdt hdd hy h
      · cases hc
    · cases hc
  | makeFunc f fs cs =>
    cases f with
    | func f =>
      simp only [comp, hop, Option.pure_def, Option.bind_eq_bind] at hc
      split at hc
      · rename_i hf
        simp only [Option.bind_eq_some_iff] at hc
        obtain ⟨cs', hcs, hc⟩ := hc; cases hc
        exact sound_mkf hs hop hf hcs h
      · cases hc
    | _ => simp [comp, hop] at hc
  | makeMap t r =>
    simp only [comp, hop] at hc
    split at hc
    · rename_i hr
      split at hc
      · cases hc; exact sound_mkm hs hop (by simpa using hr) h
      · cases hc
    · cases hc
  | makeSlice t l c =>
    simp only [comp, hop, Option.pure_def, Option.bind_eq_bind, Option.bind_eq_some_iff] at hc
    obtain ⟨d, hd, hc⟩ := hc
    split at hc
    · simp only [Option.bind_eq_some_iff] at hc
      obtain ⟨i, hi, z, hz, hc⟩ := hc
      split at hc
      · cases hc
      · rename_i hn
        simp only [Option.bind_eq_some_iff] at hc
        obtain ⟨l', hl, c', hc', hc⟩ := hc; cases hc
        exact sound_mks hs hop hd hi hz hn hl hc' h
    · cases hc
  | slice t y lo hi mx =>
    cases mx with
    | some m => simp [comp, hop] at hc
    | none =>
      simp only [comp, hop, Option.pure_def, Option.bind_eq_bind, Option.bind_eq_some_iff] at hc
      obtain ⟨y', hy, lo', hlo, hi', hhi, d, hd, hc⟩ := hc
      split at hc
      · simp only [Option.bind_eq_some_iff] at hc
        obtain ⟨sz, hsz, hc⟩ := hc; cases hc
        exact sound_sls hs hop hy hlo hhi hd hsz h
      · simp only [Option.bind_eq_some_iff] at hc
        obtain ⟨sz, hsz, hc⟩ := hc; cases hc
        exact sound_sla hs hop hy hlo hhi hd hsz h
      · cases hc
  | fieldAddr t y f =>
    simp only [comp, hop, Option.pure_def, Option.bind_eq_bind, Option.bind_eq_some_iff] at hc
    obtain ⟨d, hd, hc⟩ := hc
    split at hc
    · simp only [Option.bind_eq_some_iff] at hc
      obtain ⟨fd, hfd, sz, hsz, hc⟩ := hc
      split at hc
      · cases hc
      · rename_i h0
        simp only [Option.bind_eq_some_iff] at hc
        obtain ⟨y', hy, hc⟩ := hc; cases hc
        exact sound_fad hs hop hy hd hfd hsz h0 h
    · cases hc
  | indexAddr t y z =>
    simp only [comp, hop, Option.pure_def, Option.bind_eq_bind, Option.bind_eq_some_iff] at hc
    obtain ⟨y', hy, z', hz, d, hd, hc⟩ := hc
    split at hc
    · simp only [Option.bind_eq_some_iff] at hc
      obtain ⟨sz, hsz, hc⟩ := hc; cases hc
      exact sound_iad hs hop hy hz hd hsz h
    · simp only [Option.bind_eq_some_iff] at hc
      obtain ⟨sz, hsz, hc⟩ := hc; cases hc
      exact sound_iaa hs hop hy hz hd hsz h
    · cases hc
  | index t y z =>
    simp only [comp, hop, Option.pure_def, Option.bind_eq_bind, Option.bind_eq_some_iff] at hc
    obtain ⟨d, hd, hc⟩ := hc
    split at hc
    · simp only [Option.bind_eq_some_iff] at hc
      obtain ⟨sz, hsz, ag, hag, y', hy, z', hz, hc⟩ := hc; cases hc
      exact sound_ixa hs hop hy hz hd hsz hag h
    · split at hc
      · simp only [Option.bind_eq_some_iff] at hc
        obtain ⟨z', hz, hc⟩ := hc; cases hc
        exact sound_ixs hs hop hz hd h
      · cases hc
    · cases hc
  | field t y f =>
    simp only [comp, hop, Option.pure_def, Option.bind_eq_bind, Option.bind_eq_some_iff] at hc
    obtain ⟨d, hd, hc⟩ := hc
    split at hc
    · simp only [Option.bind_eq_some_iff] at hc
      obtain ⟨fd, hfd, sz, hsz, ag, hag, y', hy, hc⟩ := hc; cases hc
      exact sound_fld hs hop hy hd hfd hsz hag h
    · cases hc
  | lookup t m k ok =>
    simp only [comp, hop, Option.pure_def, Option.bind_eq_bind, Option.bind_eq_some_iff] at hc
    obtain ⟨d, hd, hc⟩ := hc
    split at hc
    · simp only [Option.bind_eq_some_iff] at hc
      obtain ⟨kk, hkk, z, hz, m', hm, k', hk, hc⟩ := hc; cases hc
      exact sound_lku hs hop hd hkk hz hm hk h
    · cases hc
  | mapUpdate t m k y =>
    simp only [comp, hop, Option.pure_def, Option.bind_eq_bind, Option.bind_eq_some_iff] at hc
    obtain ⟨d, hd, hc⟩ := hc
    split at hc
    · simp only [Option.bind_eq_some_iff] at hc
      obtain ⟨kk, hkk, m', hm, k', hk, y', hy, hc⟩ := hc; cases hc
      exact sound_mup hs (.inl hop) hd hkk hm hk hy h
    · cases hc
  | insert t m k y =>
    simp only [comp, hop, Option.pure_def, Option.bind_eq_bind, Option.bind_eq_some_iff] at hc
    obtain ⟨d, hd, hc⟩ := hc
    split at hc
    · simp only [Option.bind_eq_some_iff] at hc
      obtain ⟨kk, hkk, m', hm, k', hk, y', hy, hc⟩ := hc; cases hc
      exact sound_mup hs (.inr hop) hd hkk hm hk hy h
    · cases hc
  | extract y i =>
    simp only [comp, hop, Option.pure_def, Option.bind_eq_bind, Option.bind_eq_some_iff] at hc
    obtain ⟨y', hy, hc⟩ := hc; cases hc
    exact sound_ext hs hop hy h
  | call c => exact comp_call hs hop hc h
  | _ => simp [comp, hop] at hc
end
end Iso

/- The abstract layer, twelfth part: one operation as a step between abstract states, with what it reads and what it changes; operations in any order that a region may draw. Nothing of a program. -/
namespace Iso
open Go Go.RowKit

/-- No fence: every function, any depth; in a plain frame, or in a round's. -/
def FW (l : Option Nat) : Fence := { fn := fun _ => True, depth := none, alive := false, round := l }

/-- A call's entry; at none: outside of any loop over a function. -/
structure Ent (l : Option Nat) where
  e : Entry
  ok : l = none → e.l = none
instance {l : Option Nat} : CoeOut (Ent l) Entry := ⟨Ent.e⟩

structure Rd where
  tmps : List Nat := []
  slots : List Nat := []
  heap : Bool := false

structure Eff where
  kill : Option Nat := none
  slot : Option (Nat × Option (List V)) := none
  heap : Option AH := none

def killA : Option Nat → Env → Env
  | some d, A => A.kill d
  | none, A => A
def slotL : Option (Nat × Option (List V)) → Loc → Loc
  | some (d, some z), L => L.put d z
  | some (d, none), L => L.del d
  | none, L => L

structure It where
  dst : Option Nat
  x : T
  rd : Rd
  eff : Eff

def It.app (it : It) (s : St) : St := ⟨(killA it.eff.kill s.A).put? it.dst it.x, slotL it.eff.slot s.L, it.eff.heap.getD s.H⟩

/-! ### States that say the same -/
structure Same (s t : St) : Prop where
  A : ∀ n, s.A.get n = t.A.get n
  L : ∀ d, s.L.get d = t.L.get d
  H : s.H = t.H

theorem Same.refl (s : St) : Same s s := ⟨fun _ => rfl, fun _ => rfl, rfl⟩
theorem Same.symm {s t : St} (h : Same s t) : Same t s := ⟨fun n => (h.A n).symm, fun d => (h.L d).symm, h.H.symm⟩
theorem Same.trans {s t u : St} (h : Same s t) (k : Same t u) : Same s u := ⟨fun n => (h.A n).trans (k.A n), fun d => (h.L d).trans (k.L d), h.H.trans k.H⟩

theorem SR.same {E : Entry} {ρ : Rn} {β : Nat → Option Nat} {s t : St} {a : Act} {w : World} (h : SR E ρ β s a w) (e : Same s t) : SR E ρ β t a w := by
  obtain ⟨A, L, H⟩ := s
  obtain ⟨A', L', H'⟩ := t
  have hH : H = H' := e.H
  subst hH
  exact { h with tmps := fun n => by rw [← e.A n]; exact h.tmps n, loc := fun d cs hd => h.loc d cs (by rw [e.L d]; exact hd), nloc := fun d hd => h.nloc d (by rw [e.L d]; exact hd) }

/-- The same, as far as someone reads. -/
structure Agree (rd : Rd) (s t : St) : Prop where
  A : ∀ n ∈ rd.tmps, s.A.get n = t.A.get n
  L : ∀ d ∈ rd.slots, s.L.get d = t.L.get d
  H : rd.heap = true → s.H = t.H

theorem Agree.refl (rd : Rd) (s : St) : Agree rd s s := ⟨fun _ _ => rfl, fun _ _ => rfl, fun _ => rfl⟩
theorem Agree.symm {rd : Rd} {s t : St} (h : Agree rd s t) : Agree rd t s := ⟨fun n hn => (h.A n hn).symm, fun d hd => (h.L d hd).symm, fun hh => (h.H hh).symm⟩
theorem Agree.trans {rd : Rd} {s t u : St} (h : Agree rd s t) (k : Agree rd t u) : Agree rd s u := ⟨fun n hn => (h.A n hn).trans (k.A n hn), fun d hd => (h.L d hd).trans (k.L d hd), fun hh => (h.H hh).trans (k.H hh)⟩
theorem Same.agree {s t : St} (h : Same s t) (rd : Rd) : Agree rd s t := ⟨fun n _ => h.A n, fun d _ => h.L d, fun _ => h.H⟩

/-! ### A step -/
/-- A pointer to a local variable: the variable is there. -/
def WF (s : St) : Prop := ∀ n d o, s.A.get n = .lp d o → (s.L.get d).isSome = true

theorem WF.same {s t : St} (h : WF s) (e : Same s t) : WF t := fun n d o hn => by
  rw [← e.L d]; exact h n d o ((e.A n).trans hn)

def Lands (P : Program) (l : Option Nat) (N : Nat) (ops : Array Oper) (i : Nat) (s s' : St) : Prop :=
  WF s → WF s' ∧ ∀ (E : Ent l) (ρ : Rn) (β : Nat → Option Nat) (a : Act) (w : World), SR E ρ β s a w → a.tmps.size = N →
    ∀ (Q : Exit → Act → World → Prop) (K : Act → World → Prop), (∀ a' w' ρ' β', SR E ρ' β' s' a' w' → a'.tmps.size = N → K a' w') → wpOpIn (FW E.e.l) 0 P ops Q i K a w

def Good (P : Program) (l : Option Nat) (N : Nat) (ci : CI) (it : It) (s : St) : Prop :=
  ∀ (ops : Array Oper) (i : Nat) (o : Oper), ops[i]? = some o → compCI P ops o = some ci → (∀ d, ci.dst = some d → d < N) → ∀ t, Agree it.rd s t → Lands P l N ops i t (it.app t)

theorem Good.agree {P : Program} {l : Option Nat} {N : Nat} {ci : CI} {it : It} {s t : St} (h : Good P l N ci it s) (e : Agree it.rd s t) : Good P l N ci it t :=
  fun ops i o ho hc hd u hu => h ops i o ho hc hd u (e.trans hu)

/-- The one neither reads nor changes what the other changes. -/
def Ind1 (i j : It) : Bool :=
  (match i.dst with | some d => !j.rd.tmps.contains d && (j.dst != some d) | none => true) &&
  (match i.eff.slot with | some (d, _) => !j.rd.slots.contains d && (match j.eff.slot with | some (e, _) => d != e | none => true) | none => true) &&
  (match i.eff.heap with | some _ => !j.rd.heap && j.eff.heap.isNone | none => true) &&
  i.eff.kill.isNone
def Ind (i j : It) : Bool := Ind1 i j && Ind1 j i

theorem Env.get_put? (A : Env) (d : Option Nat) (x : T) (n : Nat) : (A.put? d x).get n = if d = some n then x else A.get n := by
  cases d with
  | none => simp [Env.put?]
  | some d =>
    simp only [Env.put?, Env.get_put, Option.some.injEq]
    by_cases h : n = d
    · subst h; simp
    · rw [if_neg h, if_neg (Ne.symm h)]
theorem killA_get (k : Option Nat) (A : Env) (n : Nat) : (killA k A).get n = (match k with | some d => (A.get n).kill d | none => A.get n) := by
  cases k with
  | none => rfl
  | some d => exact Env.get_kill d A n
theorem slotL_get (x : Option (Nat × Option (List V))) (L : Loc) (n : Nat) : (slotL x L).get n = (match x with | some (d, z) => if n = d then z else L.get n | none => L.get n) := by
  cases x with
  | none => rfl
  | some p =>
    obtain ⟨d, z⟩ := p
    cases z with
    | none => exact Loc.get_del L d n
    | some z => exact Loc.get_put L d n z

theorem Ind1.agree {i j : It} (h : Ind1 i j = true) (s : St) : Agree j.rd s (i.app s) := by
  simp only [Ind1, Bool.and_eq_true] at h
  obtain ⟨⟨⟨h1, h2⟩, h3⟩, h4⟩ := h
  have hk : i.eff.kill = none := by simpa using h4
  refine ⟨fun n hn => ?_, fun d hd => ?_, fun hh => ?_⟩
  · simp only [It.app, Env.get_put?, killA_get, hk]
    rw [if_neg]
    intro hd
    simp only [hd, Bool.and_eq_true, Bool.not_eq_true'] at h1
    have h1 := h1.1
    simp [hn] at h1
  · simp only [It.app, slotL_get]
    cases hs : i.eff.slot with
    | none => rfl
    | some p =>
      obtain ⟨e, z⟩ := p
      simp only [hs, Bool.and_eq_true, Bool.not_eq_true'] at h2
      show _ = if d = e then z else s.L.get d
      rw [if_neg]
      rintro rfl
      have h2 := h2.1
      simp [hd] at h2
  · simp only [It.app]
    cases hs : i.eff.heap with
    | none => rfl
    | some H => simp [hs, hh] at h3

theorem Ind.comm {i j : It} (h : Ind i j = true) (s : St) : Same (i.app (j.app s)) (j.app (i.app s)) := by
  simp only [Ind, Bool.and_eq_true] at h
  obtain ⟨h, k⟩ := h
  simp only [Ind1, Bool.and_eq_true] at h k
  obtain ⟨⟨⟨h1, h2⟩, h3⟩, h4⟩ := h
  obtain ⟨⟨⟨k1, k2⟩, k3⟩, k4⟩ := k
  have hi : i.eff.kill = none := by simpa using h4
  have hj : j.eff.kill = none := by simpa using k4
  refine ⟨fun n => ?_, fun d => ?_, ?_⟩
  · simp only [It.app, Env.get_put?, killA_get, hi, hj]
    have hij : i.dst = some n → j.dst ≠ some n := fun hi hj => by
      simp [hi, hj] at h1
    by_cases hi : i.dst = some n
    · simp [hi, hij hi]
    · simp [hi]
  · simp only [It.app, slotL_get]
    cases hi : i.eff.slot with
    | none => rfl
    | some p =>
      cases hj : j.eff.slot with
      | none => rfl
      | some q =>
        obtain ⟨e, z⟩ := p
        obtain ⟨f, y⟩ := q
        simp only [hi, hj, Bool.and_eq_true] at h2
        have : e ≠ f := by simpa using h2.2
        show (if d = e then z else if d = f then y else _) = if d = f then y else if d = e then z else _
        by_cases h : d = e
        · subst h; simp [this]
        · simp [h]
  · simp only [It.app]
    cases hi : i.eff.heap with
    | none => rfl
    | some p =>
      cases hj : j.eff.heap with
      | none => rfl
      | some q => simp [hi, hj] at h3

theorem It.app_same (it : It) {s t : St} (h : Same s t) : Same (it.app s) (it.app t) := by
  refine ⟨fun n => ?_, fun d => ?_, ?_⟩
  · simp only [It.app, Env.get_put?, killA_get, h.A n]
  · simp only [It.app, slotL_get, h.L d]
  · simp only [It.app, h.H]

/-! ### Operations one after the other, in the text's order -/
structure Nd where
  i : Nat
  ci : CI
  it : It

inductive RunsL (P : Program) (l : Option Nat) (N : Nat) : List Nd → St → St → Prop
  | nil {s s' : St} : Same s s' → RunsL P l N [] s s'
  | cons {n : Nd} {r : List Nd} {s s' : St} : Good P l N n.ci n.it s → RunsL P l N r (n.it.app s) s' → RunsL P l N (n :: r) s s'

section
variable {P : Program} {l : Option Nat} {N : Nat}

theorem RunsL.same {r : List Nd} {s s' : St} (h : RunsL P l N r s s') : ∀ {t : St}, Same s t → RunsL P l N r t s' := by
  induction h with
  | nil e => exact fun e' => .nil (e'.symm.trans e)
  | cons g _ ih => exact fun e' => .cons (g.agree (e'.agree _)) (ih (It.app_same _ e'))

/-- Who may go first goes first. -/
theorem RunsL.hoist {j : Nd} : ∀ {pre post : List Nd} {s s' : St}, (∀ i ∈ pre, Ind i.it j.it = true) → RunsL P l N (pre ++ j :: post) s s' → RunsL P l N (j :: (pre ++ post)) s s'
  | [], post, s, s', _, h => h
  | i :: pre, post, s, s', hi, h => by
    cases h with
    | cons g h =>
      have h' := RunsL.hoist (fun k hk => hi k (List.mem_cons_of_mem _ hk)) h
      cases h' with
      | cons gj h' =>
        have hij := hi i (List.mem_cons_self ..)
        have hij' := hij
        simp only [Ind, Bool.and_eq_true] at hij'
        exact .cons (Good.agree gj (Ind1.agree hij'.1 s).symm) (.cons (g.agree (Ind1.agree hij'.2 s)) (h'.same (Ind.comm (by simp only [Ind, Bool.and_eq_true]; exact ⟨hij'.2, hij'.1⟩) s)))

/-! ### In any order -/
/-- Is asked to come before: in one step, or in several. -/
inductive Before (ops : Array Oper) : Nat → Nat → Prop
  | one {i j : Nat} {o : Oper} {e : Edge} : ops[j]? = some o → e ∈ o.after → Region.binds .any e = true → e.on = i → Before ops i j
  | more {i k j : Nat} {o : Oper} {e : Edge} : ops[j]? = some o → e ∈ o.after → Region.binds .any e = true → e.on = k → Before ops i k → Before ops i j

/-- What is listed is closed: with an operation, all that it waits for. -/
def Closed (ops : Array Oper) (listed : Array Bool) : Prop :=
  ∀ j o, ops[j]? = some o → listed.getD j false = true → ∀ e ∈ o.after, Region.binds .any e = true → listed.getD e.on false = true

theorem Before.listed {ops : Array Oper} {listed : Array Bool} (hc : Closed ops listed) {i j : Nat} (h : Before ops i j) :
    (∀ o, ops[j]? = some o → ∀ e ∈ o.after, Region.binds .any e = true → listed.getD e.on false = true) → listed.getD i false = true := by
  induction h with
  | one ho he hb hi => exact fun hr => hi ▸ hr _ ho _ he hb
  | more ho he hb hk hB ih =>
    intro hr
    have hl := hr _ ho _ he hb
    rw [hk] at hl
    exact ih fun o ho' e' he' hb' => hc _ o ho' hl e' he' hb'

theorem getD_set {listed : Array Bool} {i j : Nat} (d : Bool) : (listed.setIfInBounds i true).getD j d = if i = j ∧ i < listed.size then true else listed.getD j d := by
  simp only [Array.getD_eq_getD_getElem?, Array.getElem?_setIfInBounds]
  by_cases h : i = j
  · subst h
    by_cases hl : i < listed.size
    · simp [hl]
    · simp [hl]
  · simp [h]

theorem any_order {ops : Array Oper} {Q : Exit → Act → World → Prop} {E : Ent l} {s' : St}
    (hback : ∀ j o, ops[j]? = some o → ∀ e ∈ o.after, Region.binds .any e = true → e.on < j)
    (hQ : ∀ a' w' ρ' β', SR E ρ' β' s' a' w' → WF s' → a'.tmps.size = N → Q .normal a' w') :
    ∀ (R : List Nd) (s : St) (listed : Array Bool) (ρ : Rn) (β : Nat → Option Nat) (a : Act) (w : World), listed.size = ops.size →
      (∀ n ∈ R, ∃ o, ops[n.i]? = some o ∧ compCI P ops o = some n.ci ∧ (∀ d, n.ci.dst = some d → d < N)) →
      R.Pairwise (fun x y => x.i < y.i ∧ (Before ops x.i y.i ∨ Ind x.it y.it = true)) →
      (∀ i, i < ops.size → (listed.getD i true = false ↔ ∃ n ∈ R, n.i = i)) →
      Closed ops listed → RunsL P l N R s s' → WF s → SR E ρ β s a w → a.tmps.size = N → wpAnyIn (FW E.e.l) 0 P .any ops Q R.length listed a w := by
  intro R
  induction hn : R.length generalizing R with
  | zero =>
    intro s listed ρ β a w hsz ho hp hl hc hr hwf hs hN
    cases R with
    | cons _ _ => simp at hn
    | nil =>
      have hready : Region.ready .any ops listed = [] := by
        refine List.eq_nil_iff_forall_not_mem.2 fun j hj => ?_
        obtain ⟨h0, o, hjo, _⟩ := mem_ready.1 hj
        have := (hl j (Array.getElem?_eq_some_iff.1 hjo).1).1 h0
        simp at this
      cases hr with
      | nil e => exact ⟨hready, hQ a w ρ β (hs.same e) (hwf.same e) hN⟩
  | succ n ih =>
    intro s listed ρ β a w hsz ho hp hl hc hr hwf hs hN
    have mem : ∀ j, j < ops.size → listed.getD j false = false → ∃ n ∈ R, n.i = j := fun j hj h => (hl j hj).1 (by
      have : j < listed.size := by omega
      simp [Array.getD_eq_getD_getElem?, this] at h ⊢; exact h)
    refine ⟨fun hnil => ?_, fun j hj => ?_⟩
    · exfalso
      cases R with
      | nil => simp at hn
      | cons x R =>
        obtain ⟨o, hxo, _, _⟩ := ho x (List.mem_cons_self ..)
        have hx : x.i < ops.size := (Array.getElem?_eq_some_iff.1 hxo).1
        have : x.i ∈ Region.ready .any ops listed := by
          refine mem_ready.2 ⟨(hl x.i hx).2 ⟨x, List.mem_cons_self .., rfl⟩, o, hxo, fun e he hb => ?_⟩
          have hlt := hback _ _ hxo e he hb
          cases h : listed.getD e.on false with
          | true => rfl
          | false =>
            obtain ⟨y, hy, hyi⟩ := mem e.on (by omega) h
            rcases List.mem_cons.1 hy with rfl | hy
            · omega
            · have := (List.rel_of_pairwise_cons hp hy).1
              omega
        rw [hnil] at this
        cases this
    · obtain ⟨h0, o, hjo, hall⟩ := mem_ready.1 hj
      have hjlt : j < ops.size := (Array.getElem?_eq_some_iff.1 hjo).1
      obtain ⟨x, hx, hxj⟩ := (hl j hjlt).1 h0
      subst hxj
      obtain ⟨pre, post, rfl⟩ := List.append_of_mem hx
      have hpre : ∀ i ∈ pre, Ind i.it x.it = true := fun y hy => by
        have h1 := (List.pairwise_append.1 hp).2.2 y hy x (List.mem_cons_self ..)
        refine h1.2.resolve_left fun hB => ?_
        have hyl := hB.listed hc fun o' ho' e he hb => by
          rw [hjo] at ho'; cases ho'; exact hall e he hb
        obtain ⟨oy, hyo, _⟩ := ho y (by simp [hy])
        have hylt : y.i < ops.size := (Array.getElem?_eq_some_iff.1 hyo).1
        have := (hl y.i hylt).2 ⟨y, by simp [hy], rfl⟩
        have hlt : y.i < listed.size := by omega
        simp [Array.getD_eq_getD_getElem?, hlt] at this hyl
        rw [this] at hyl; cases hyl
      have hr' := hr.hoist hpre
      cases hr' with
      | cons g hr' =>
        obtain ⟨o', ho1, hci, hd⟩ := ho x (by simp)
        have hland := g ops x.i o' ho1 hci hd s (Agree.refl _ _) hwf
        refine hland.2 E ρ β a w hs hN Q _ fun a' w' ρ' β' hs' hN' => ?_
        have hp' : (pre ++ post).Pairwise (fun x y => x.i < y.i ∧ (Before ops x.i y.i ∨ Ind x.it y.it = true)) :=
          hp.sublist (by simp)
        have hne : ∀ y ∈ pre ++ post, y.i ≠ x.i := fun y hy => by
          rcases List.mem_append.1 hy with hy | hy
          · have := ((List.pairwise_append.1 hp).2.2 y hy x (List.mem_cons_self ..)).1; omega
          · have := (List.rel_of_pairwise_cons (List.pairwise_append.1 hp).2.1 hy).1; omega
        have hlen : (pre ++ post).length = n := by simp at hn ⊢; omega
        have hfin := ih (pre ++ post) hlen (x.it.app s) (listed.setIfInBounds x.i true) ρ' β' a' w' (by simpa using hsz) (fun y hy => ho y (by
          rcases List.mem_append.1 hy with hy | hy <;> simp [hy])) hp' (fun i hi => ?_) (fun k ok hk hlk e he hb => ?_) hr' hland.1 hs' hN'
        · exact hfin
        · rw [getD_set]
          by_cases hxi : x.i = i
          · subst hxi
            have hlt : x.i < listed.size := by omega
            simp only [hlt, and_self, if_true, Bool.true_eq_false, false_iff]
            rintro ⟨y, hy, hyx⟩
            exact hne y hy hyx
          · simp only [hxi, false_and, if_false]
            rw [hl i hi]
            constructor
            · rintro ⟨y, hy, rfl⟩
              refine ⟨y, ?_, rfl⟩
              rcases List.mem_append.1 hy with hy | hy
              · simp [hy]
              · rcases List.mem_cons.1 hy with rfl | hy
                · exact absurd rfl hxi
                · simp [hy]
            · rintro ⟨y, hy, rfl⟩
              refine ⟨y, ?_, rfl⟩
              rcases List.mem_append.1 hy with hy | hy <;> simp [hy]
        · rw [getD_set] at hlk ⊢
          split
          · rfl
          · rename_i hne2
            by_cases hkx : x.i = k ∧ x.i < listed.size
            · obtain ⟨rfl, _⟩ := hkx
              rw [hjo] at hk; cases hk
              exact hall e he hb
            · rw [if_neg hkx] at hlk
              exact hc k ok hk hlk e he hb

end
end Iso

/- The abstract layer, thirteenth part: code, its instructions, its rules: one behind the other, branches, blocks, loops, regions in their order and in any order. Nothing of a program. -/
namespace Iso
open Go Go.RowKit

inductive AC where
  | skip
  | reg (draw : Bool) (ed : List (List Nat)) (ops : List CI)
  | seq (a b : AC)
  | cond (c : Opd) (x y : AC)
  | block (id : Nat) (b : AC)
  | loop (b : AC)
  | exit (id : Nat)
  | ret
  | no
  | lab
  | scope (b : AC)
  | rng (f : Opd) (ps : List Nat) (x y : AC)

/-- No range over a function within. -/
def AC.plain : AC → Bool
  | .seq a b => a.plain && b.plain
  | .cond _ x y => x.plain && y.plain
  | .block _ b => b.plain
  | .loop b => b.plain
  | .scope b => b.plain
  | .rng _ _ _ _ => false
  | _ => true

def edgesOf (o : Oper) : List Nat := (o.after.toList.filter (Region.binds .any)).map (·.on)
def dstOK (N : Nat) (c : CI) : Bool := match c.dst with | some d => decide (d < N) | none => true
def backOK : Nat → List (List Nat) → Bool
  | _, [] => true
  | j, e :: r => e.all (fun i => decide (i < j)) && backOK (j + 1) r

def compC (P : Program) (N : Nat) : Code → Option AC
  | .skip => some .skip
  | .region _ ops draw => match compOps P ops ops.toList with
    | some cs => if cs.all (dstOK N) && (!draw || backOK 0 (ops.toList.map edgesOf)) then some (.reg draw (if draw then ops.toList.map edgesOf else []) cs) else some .no
    | none => some .no
  | .seq a b => match compC P N a, compC P N b with
    | some a, some b => some (.seq a b)
    | _, _ => none
  | .cond c x y => match cOpd c, compC P N x, compC P N y with
    | some c, some x, some y => some (.cond c x y)
    | _, _, _ => some .no
  | .block id b => match compC P N b with
    | some b => some (.block id b)
    | none => none
  | .loop b => match compC P N b with
    | some b => some (.loop b)
    | none => none
  | .scope b => match compC P N b with
    | some b => some (.scope b)
    | none => none
  | .rangeFunc g ps x y => match cOpd g, compC P N x, compC P N y with
    | some g, some x, some y => if x.plain && y.plain then some (.rng g ps.toList x y) else some .no
    | _, _, _ => some .no
  | .label _ => some .lab
  | .exit id => some (.exit id)
  | .ret => some .ret
  | _ => some .no

/-! ### Operations in the text's order -/
inductive Steps' (P : Program) (l : Option Nat) (N : Nat) : List CI → List It → St → St → Prop
  | nil {s : St} : Steps' P l N [] [] s s
  | cons {c : CI} {r : List CI} {it : It} {its : List It} {s s' : St} : Good P l N c it s → Steps' P l N r its (it.app s) s' → Steps' P l N (c :: r) (it :: its) s s'

def RW (P : Program) (l : Option Nat) (N : Nat) (ops : List CI) (acc : List It) (Q : List It → St → Prop) (s : St) : Prop :=
  ∃ its s', Steps' P l N ops its s s' ∧ Q (acc ++ its) s'

theorem RW.nil {P : Program} {l : Option Nat} {N : Nat} {acc : List It} {Q : List It → St → Prop} {s : St} (h : Q acc s) : RW P l N [] acc Q s :=
  ⟨[], s, .nil, by simpa using h⟩
theorem RW.cons {P : Program} {l : Option Nat} {N : Nat} {c : CI} {r : List CI} {acc : List It} {Q : List It → St → Prop} {s : St} (it : It) (g : Good P l N c it s)
    (h : RW P l N r (acc ++ [it]) Q (it.app s)) : RW P l N (c :: r) acc Q s := by
  obtain ⟨its, s', hs, hq⟩ := h
  exact ⟨it :: its, s', .cons g hs, by simpa using hq⟩

section
variable {P : Program} {l : Option Nat} {N : Nat}

theorem compOps_get {ops : Array Oper} : ∀ {os : List Oper} {cs : List CI}, compOps P ops os = some cs → cs.length = os.length ∧ ∀ (k : Nat) (c : CI), cs[k]? = some c → ∃ o, os[k]? = some o ∧ compCI P ops o = some c
  | [], cs, h => by simp [compOps] at h; subst h; simp
  | o :: os, cs, h => by
    simp only [compOps, Option.pure_def, Option.bind_eq_bind, Option.bind_eq_some_iff] at h
    obtain ⟨c, h1, cs', h2, h3⟩ := h
    cases h3
    obtain ⟨hl, hg⟩ := compOps_get h2
    refine ⟨by simp [hl], fun k d hd => ?_⟩
    cases k with
    | zero => simp at hd; subst hd; exact ⟨o, by simp, h1⟩
    | succ k => simp at hd; simpa using hg k d hd

theorem steps_seq {ops : Array Oper} {Q : Exit → Act → World → Prop} {cs : List CI} {its : List It} {s s' : St} (h : Steps' P l N cs its s s') : ∀ (k : Nat),
    (∀ (m : Nat) (c : CI), cs[m]? = some c → ∃ o, ops[k + m]? = some o ∧ compCI P ops o = some c) → (∀ c ∈ cs, dstOK N c = true) → WF s →
    WF s' ∧ ∀ (E : Ent l) (ρ : Rn) (β : Nat → Option Nat) (a : Act) (w : World), SR E ρ β s a w → a.tmps.size = N →
      (∀ a' w' ρ' β', SR E ρ' β' s' a' w' → a'.tmps.size = N → Q .normal a' w') → wpOpsIn (FW E.e.l) 0 P ops Q (List.range' k cs.length) a w := by
  induction h with
  | nil => exact fun k _ _ hwf => ⟨hwf, fun E ρ β a w hs hN hQ => hQ a w ρ β hs hN⟩
  | cons g _ ih =>
    rename_i c r it its s s' _
    intro k hk hd hwf
    obtain ⟨o, ho, hc⟩ := hk 0 c (by simp)
    have hland := g ops k o ho hc (fun d hdd => by
      have := hd c (List.mem_cons_self ..)
      simpa [dstOK, hdd] using this) s (Agree.refl _ _) hwf
    have hrest := ih (k + 1) (fun m c' hc' => by
      obtain ⟨o', h1, h2⟩ := hk (m + 1) c' (by simpa using hc')
      exact ⟨o', by rw [show k + 1 + m = k + (m + 1) by omega]; exact h1, h2⟩) (fun c' hc' => hd c' (List.mem_cons_of_mem _ hc')) hland.1
    refine ⟨hrest.1, fun E ρ β a w hs hN hQ => ?_⟩
    simp only [List.length_cons, List.range'_succ, wpOpsIn_cons]
    exact hland.2 E ρ β a w hs hN Q _ fun a' w' ρ' β' hs' hN' => hrest.2 E ρ' β' a' w' hs' hN' hQ

/-! ### The order's check -/
def prevOK (anc : List Nat) (j : It) : Nat → List It → Bool
  | _, [] => true
  | i, x :: r => (anc.contains i || Ind x j) && prevOK anc j (i + 1) r
def chkGo : List (List Nat) → List It → List (List Nat) → List It → Bool
  | [], [], _, _ => true
  | e :: ed, j :: its, an, pv =>
    let a := e ++ e.flatMap fun k => (an[k]?).getD []
    prevOK a j 0 pv && chkGo ed its (an ++ [a]) (pv ++ [j])
  | _, _, _, _ => false
def chk (ed : List (List Nat)) (its : List It) : Bool := chkGo ed its [] []

theorem prevOK_get {anc : List Nat} {j : It} : ∀ {r : List It} {i : Nat}, prevOK anc j i r = true → ∀ k x, r[k]? = some x → anc.contains (i + k) = true ∨ Ind x j = true
  | [], _, _, k, x, hx => by simp at hx
  | y :: r, i, h, k, x, hx => by
    simp only [prevOK, Bool.and_eq_true, Bool.or_eq_true] at h
    cases k with
    | zero => simp at hx; subst hx; exact h.1
    | succ k =>
      simp at hx
      have := prevOK_get h.2 k x hx
      rw [show i + (k + 1) = i + 1 + k by omega]
      exact this

theorem mem_edgesOf {o : Oper} {i : Nat} : i ∈ edgesOf o ↔ ∃ e ∈ o.after, Region.binds .any e = true ∧ e.on = i := by
  simp only [edgesOf, List.mem_map, List.mem_filter, Array.mem_toList_iff]
  constructor
  · rintro ⟨e, ⟨h1, h2⟩, h3⟩; exact ⟨e, h1, h2, h3⟩
  · rintro ⟨e, h1, h2, h3⟩; exact ⟨e, ⟨h1, h2⟩, h3⟩

theorem chkGo_spec {ops : Array Oper} : ∀ {ed : List (List Nat)} {its : List It} {an : List (List Nat)} {pv : List It}, chkGo ed its an pv = true → an.length = pv.length →
    (∀ (k : Nat) (a : List Nat), an[k]? = some a → ∀ i ∈ a, Before ops i k) → (∀ (k : Nat) (e : List Nat), ed[k]? = some e → ∃ o, ops[pv.length + k]? = some o ∧ e = edgesOf o) →
    ∀ (p q : Nat) (x y : It), p < q → pv.length ≤ q → (pv ++ its)[p]? = some x → (pv ++ its)[q]? = some y → Before ops p q ∨ Ind x y = true
  | [], [], an, pv, _, _, _, _, p, q, x, y, _, hq, _, hy => by
    simp only [List.append_nil] at hy
    rw [List.getElem?_eq_none (by omega)] at hy
    cases hy
  | [], j :: its, an, pv, h, _, _, _, _, _, _, _, _, _, _, _ => by simp [chkGo] at h
  | e :: ed, [], an, pv, h, _, _, _, _, _, _, _, _, _, _, _ => by simp [chkGo] at h
  | e :: ed, j :: its, an, pv, h, hl, ha, he, p, q, x, y, hpq, hq, hx, hy => by
    simp only [chkGo, Bool.and_eq_true] at h
    obtain ⟨o, ho, heo⟩ := he 0 e (by simp)
    simp only [Nat.add_zero] at ho
    have hanc : ∀ i ∈ (e ++ e.flatMap fun k => (an[k]?).getD []), Before ops i pv.length := by
      intro i hi
      rcases List.mem_append.1 hi with hi | hi
      · rw [heo, mem_edgesOf] at hi
        obtain ⟨ee, h1, h2, h3⟩ := hi
        exact .one ho h1 h2 h3
      · obtain ⟨k, hk, hik⟩ := List.mem_flatMap.1 hi
        rw [heo, mem_edgesOf] at hk
        obtain ⟨ee, h1, h2, h3⟩ := hk
        cases hak : an[k]? with
        | none => rw [hak] at hik; simp at hik
        | some a =>
          rw [hak] at hik
          exact .more ho h1 h2 h3 (ha k a hak i hik)
    rcases Nat.lt_or_ge pv.length q with hlt | hge
    · refine chkGo_spec h.2 (by simp [hl]) (fun k a hk => ?_) (fun k e' hk => ?_) p q x y hpq (by simp; omega) (by simpa using hx) (by simpa using hy)
      · rcases Nat.lt_or_ge k an.length with h1 | h1
        · rw [List.getElem?_append_left h1] at hk; exact ha k a hk
        · rw [List.getElem?_append_right h1] at hk
          have : k = an.length := by
            rcases Nat.lt_or_ge (k - an.length) 1 with h2 | h2
            · omega
            · rw [List.getElem?_eq_none (by simpa using h2)] at hk; cases hk
          subst this
          simp at hk
          subst hk
          rw [hl]
          exact hanc
      · obtain ⟨o', h1, h2⟩ := he (k + 1) e' (by simpa using hk)
        exact ⟨o', by rw [show (pv ++ [j]).length + k = pv.length + (k + 1) by simp; omega]; exact h1, h2⟩
    · have : q = pv.length := by omega
      subst this
      rw [List.getElem?_append_right (by omega)] at hy
      simp at hy
      subst hy
      rw [List.getElem?_append_left (by omega)] at hx
      have := prevOK_get h.1 p x hx
      rw [Nat.zero_add] at this
      rcases this with h1 | h1
      · exact .inl (hanc p (by simpa using h1))
      · exact .inr h1

theorem backOK_get : ∀ {r : List (List Nat)} {j : Nat}, backOK j r = true → ∀ k e, r[k]? = some e → ∀ i ∈ e, i < j + k
  | [], _, _, k, e, h, i, _ => by simp at h
  | e :: r, j, h, k, e', hk, i, hi => by
    simp only [backOK, Bool.and_eq_true] at h
    cases k with
    | zero => simp at hk; subst hk; have := List.all_eq_true.1 h.1 i hi; simpa using this
    | succ k =>
      simp at hk
      have := backOK_get h.2 k e' hk i hi
      omega

/-! ### What code does to abstract states -/
def BS (P : Program) (l : Option Nat) (N : Nat) (ac : AC) (s : St) (e : Exit) (s' : St) : Prop :=
  ∀ c, compC P N c = some ac → WF s → WF s' ∧ ∀ (E : Ent l) (ρ : Rn) (β : Nat → Option Nat) (a : Act) (w : World), SR E ρ β s a w → a.tmps.size = N →
    c.wpIn (FW E.e.l) 0 P (fun e' a' w' => e' = e ∧ a'.tmps.size = N ∧ ∃ ρ' β', SR E ρ' β' s' a' w') a w

def AWp (P : Program) (l : Option Nat) (N : Nat) (ac : AC) (Q : Exit → St → Prop) (s : St) : Prop := ∃ e s', BS P l N ac s e s' ∧ Q e s'

def thenS (K : St → Prop) (Q : Exit → St → Prop) : Exit → St → Prop
  | .normal, s => K s
  | e, s => Q e s
def inBlockS (id : Nat) (Q : Exit → St → Prop) : Exit → St → Prop
  | .exit i, s => if i = id then Q .normal s else Q (.exit i) s
  | e, s => Q e s

variable {Q : Exit → St → Prop} {s : St}

theorem AWp.mono {ac : AC} {Q' : Exit → St → Prop} (h : AWp P l N ac Q s) (hq : ∀ e s, Q e s → Q' e s) : AWp P l N ac Q' s :=
  let ⟨e, s', hb, q⟩ := h; ⟨e, s', hb, hq e s' q⟩

theorem awp_skip (h : Q .normal s) : AWp P l N .skip Q s := by
  refine ⟨.normal, s, fun c hc hwf => ⟨hwf, fun E ρ β a w hs hN => ?_⟩, h⟩
  cases c with
  | skip => exact wpIn_skip ⟨rfl, hN, ρ, β, hs⟩
  | region id ops d => simp only [compC] at hc; (repeat' split at hc) <;> cases hc
  | seq a b => simp only [compC] at hc; split at hc <;> cases hc
  | cond c x y => simp only [compC] at hc; split at hc <;> cases hc
  | block id b => simp only [compC] at hc; split at hc <;> cases hc
  | loop b => simp only [compC] at hc; split at hc <;> cases hc
  | scope b => simp only [compC] at hc; split at hc <;> cases hc
  | rangeFunc g ps x y => simp only [compC] at hc; (repeat' split at hc) <;> cases hc
  | _ => simp [compC] at hc

theorem awp_exit {id : Nat} (h : Q (.exit id) s) : AWp P l N (.exit id) Q s := by
  refine ⟨.exit id, s, fun c hc hwf => ⟨hwf, fun E ρ β a w hs hN => ?_⟩, h⟩
  cases c with
  | exit i => simp only [compC] at hc; cases hc; exact wpIn_exit ⟨rfl, hN, ρ, β, hs⟩
  | region id ops d => simp only [compC] at hc; (repeat' split at hc) <;> cases hc
  | seq a b => simp only [compC] at hc; split at hc <;> cases hc
  | cond c x y => simp only [compC] at hc; split at hc <;> cases hc
  | block id b => simp only [compC] at hc; split at hc <;> cases hc
  | loop b => simp only [compC] at hc; split at hc <;> cases hc
  | scope b => simp only [compC] at hc; split at hc <;> cases hc
  | rangeFunc g ps x y => simp only [compC] at hc; (repeat' split at hc) <;> cases hc
  | _ => simp [compC] at hc

theorem awp_ret (h : Q .ret s) : AWp P l N .ret Q s := by
  refine ⟨.ret, s, fun c hc hwf => ⟨hwf, fun E ρ β a w hs hN => ?_⟩, h⟩
  cases c with
  | ret => exact wpIn_ret ⟨rfl, hN, ρ, β, hs⟩
  | region id ops d => simp only [compC] at hc; (repeat' split at hc) <;> cases hc
  | seq a b => simp only [compC] at hc; split at hc <;> cases hc
  | cond c x y => simp only [compC] at hc; split at hc <;> cases hc
  | block id b => simp only [compC] at hc; split at hc <;> cases hc
  | loop b => simp only [compC] at hc; split at hc <;> cases hc
  | scope b => simp only [compC] at hc; split at hc <;> cases hc
  | rangeFunc g ps x y => simp only [compC] at hc; (repeat' split at hc) <;> cases hc
  | _ => simp [compC] at hc

theorem compC_seq {c : Code} {x y : AC} (h : compC P N c = some (.seq x y)) : ∃ a b, c = .seq a b ∧ compC P N a = some x ∧ compC P N b = some y := by
  cases c with
  | region id ops d => simp only [compC] at h; (repeat' split at h) <;> cases h
  | seq a b =>
    simp only [compC] at h
    split at h
    · rename_i h1 h2; cases h; exact ⟨a, b, rfl, h1, h2⟩
    · cases h
  | cond c x y => simp only [compC] at h; split at h <;> cases h
  | block id b => simp only [compC] at h; split at h <;> cases h
  | loop b => simp only [compC] at h; split at h <;> cases h
  | scope b => simp only [compC] at h; split at h <;> cases h
  | rangeFunc g ps x y => simp only [compC] at h; (repeat' split at h) <;> cases h
  | _ => simp [compC] at h

theorem compC_cond {c : Code} {k : Opd} {x y : AC} (h : compC P N c = some (.cond k x y)) : ∃ d a b, c = .cond d a b ∧ cOpd d = some k ∧ compC P N a = some x ∧ compC P N b = some y := by
  cases c with
  | region id ops d => simp only [compC] at h; (repeat' split at h) <;> cases h
  | cond d a b =>
    simp only [compC] at h
    split at h
    · rename_i h0 h1 h2; cases h; exact ⟨d, a, b, rfl, h0, h1, h2⟩
    · cases h
  | seq a b => simp only [compC] at h; split at h <;> cases h
  | block id b => simp only [compC] at h; split at h <;> cases h
  | loop b => simp only [compC] at h; split at h <;> cases h
  | scope b => simp only [compC] at h; split at h <;> cases h
  | rangeFunc g ps x y => simp only [compC] at h; (repeat' split at h) <;> cases h
  | _ => simp [compC] at h

theorem compC_block {c : Code} {i : Nat} {x : AC} (h : compC P N c = some (.block i x)) : ∃ a, c = .block i a ∧ compC P N a = some x := by
  cases c with
  | region id ops d => simp only [compC] at h; (repeat' split at h) <;> cases h
  | block id b =>
    simp only [compC] at h
    split at h
    · rename_i h1; cases h; exact ⟨b, rfl, h1⟩
    · cases h
  | seq a b => simp only [compC] at h; split at h <;> cases h
  | cond c x y => simp only [compC] at h; split at h <;> cases h
  | loop b => simp only [compC] at h; split at h <;> cases h
  | scope b => simp only [compC] at h; split at h <;> cases h
  | rangeFunc g ps x y => simp only [compC] at h; (repeat' split at h) <;> cases h
  | _ => simp [compC] at h

theorem compC_loop {c : Code} {x : AC} (h : compC P N c = some (.loop x)) : ∃ a, c = .loop a ∧ compC P N a = some x := by
  cases c with
  | region id ops d => simp only [compC] at h; (repeat' split at h) <;> cases h
  | loop b =>
    simp only [compC] at h
    split at h
    · rename_i h1; cases h; exact ⟨b, rfl, h1⟩
    · cases h
  | seq a b => simp only [compC] at h; split at h <;> cases h
  | cond c x y => simp only [compC] at h; split at h <;> cases h
  | block id b => simp only [compC] at h; split at h <;> cases h
  | scope b => simp only [compC] at h; split at h <;> cases h
  | rangeFunc g ps x y => simp only [compC] at h; (repeat' split at h) <;> cases h
  | _ => simp [compC] at h

theorem compC_reg {c : Code} {d : Bool} {ed : List (List Nat)} {cs : List CI} (h : compC P N c = some (.reg d ed cs)) :
    ∃ id ops, c = .region id ops d ∧ compOps P ops ops.toList = some cs ∧ (∀ x ∈ cs, dstOK N x = true) ∧ (d = true → ed = ops.toList.map edgesOf ∧ backOK 0 ed = true) := by
  cases c with
  | region id ops d' =>
    simp only [compC] at h
    split at h
    · rename_i cs' hcs
      split at h
      · rename_i hb
        cases h
        simp only [Bool.and_eq_true] at hb
        refine ⟨id, ops, rfl, hcs, List.all_eq_true.1 hb.1, fun hd => ?_⟩
        subst hd
        simpa using hb.2
      · cases h
    · cases h
  | seq a b => simp only [compC] at h; split at h <;> cases h
  | cond c x y => simp only [compC] at h; split at h <;> cases h
  | block id b => simp only [compC] at h; split at h <;> cases h
  | loop b => simp only [compC] at h; split at h <;> cases h
  | scope b => simp only [compC] at h; split at h <;> cases h
  | rangeFunc g ps x y => simp only [compC] at h; (repeat' split at h) <;> cases h
  | _ => simp [compC] at h

theorem awp_seq {x y : AC} (h : AWp P l N x (thenS (fun s' => AWp P l N y Q s') Q) s) : AWp P l N (.seq x y) Q s := by
  obtain ⟨e, s', hb, hq⟩ := h
  cases e with
  | normal =>
    obtain ⟨e2, s2, hb2, hq2⟩ := hq
    refine ⟨e2, s2, fun c hc hwf => ?_, hq2⟩
    obtain ⟨a, b, rfl, ha, hb'⟩ := compC_seq hc
    have h1 := hb a ha hwf
    have h2 := hb2 b hb' h1.1
    refine ⟨h2.1, fun E ρ β a' w hs hN => wpIn_seq (wpIn_mono (h1.2 E ρ β a' w hs hN) ?_)⟩
    rintro e a1 w1 ⟨rfl, hN1, ρ1, β1, hs1⟩
    exact h2.2 E ρ1 β1 a1 w1 hs1 hN1
  | _ =>
    refine ⟨_, s', fun c hc hwf => ?_, hq⟩
    obtain ⟨a, b, rfl, ha, hb'⟩ := compC_seq hc
    have h1 := hb a ha hwf
    refine ⟨h1.1, fun E ρ β a' w hs hN => wpIn_seq (wpIn_mono (h1.2 E ρ β a' w hs hN) ?_)⟩
    rintro e a1 w1 ⟨rfl, hN1, ρ1, β1, hs1⟩
    exact ⟨rfl, hN1, ρ1, β1, hs1⟩

theorem awp_cond {k : Opd} {x y : AC} {b : Bool} (hk : k.ev s.A = .v (.lit (.bool b))) (ht : b = true → AWp P l N x Q s) (hf : b = false → AWp P l N y Q s) : AWp P l N (.cond k x y) Q s := by
  have key : ∀ {t : Bool}, b = t → ∀ e s', BS P l N (if t then x else y) s e s' → BS P l N (.cond k x y) s e s' := by
    intro t ht e s' hb c hc hwf
    obtain ⟨d, a, a', rfl, h0, h1, h2⟩ := compC_cond hc
    have h3 := hb (if t then a else a') (by cases t <;> simp [h1, h2]) hwf
    refine ⟨h3.1, fun E ρ β ac w hs hN => ?_⟩
    have hev := hs.opd h0
    rw [hk] at hev
    simp only [TR, VR] at hev
    exact wpIn_cond (hev.trans (by rw [ht])) (h3.2 E ρ β ac w hs hN)
  cases hb : b with
  | true => obtain ⟨e, s', h1, h2⟩ := ht hb; exact ⟨e, s', key hb e s' h1, h2⟩
  | false => obtain ⟨e, s', h1, h2⟩ := hf hb; exact ⟨e, s', key hb e s' h1, h2⟩

theorem awp_block {id : Nat} {x : AC} (h : AWp P l N x (inBlockS id Q) s) : AWp P l N (.block id x) Q s := by
  obtain ⟨e, s', hb, hq⟩ := h
  have key : ∀ e', (∀ a w, e' = e' → Exit.inBlock id (fun e'' (_ : Act) (_ : World) => e'' = e') e a w) → BS P l N (.block id x) s e' s' := by
    intro e' he c hc hwf
    obtain ⟨a, rfl, ha⟩ := compC_block hc
    have h1 := hb a ha hwf
    refine ⟨h1.1, fun E ρ β ac w hs hN => wpIn_block (wpIn_mono (h1.2 E ρ β ac w hs hN) ?_)⟩
    rintro e1 a1 w1 ⟨rfl, hN1, ρ1, β1, hs1⟩
    have := he a1 w1 rfl
    cases e1 with
    | exit i =>
      simp only [Exit.inBlock] at this ⊢
      split at this <;> rename_i hi
      · rw [if_pos hi]; exact ⟨this, hN1, ρ1, β1, hs1⟩
      · rw [if_neg hi]; exact ⟨this, hN1, ρ1, β1, hs1⟩
    | _ => exact ⟨this, hN1, ρ1, β1, hs1⟩
  cases e with
  | exit i =>
    simp only [inBlockS] at hq
    split at hq
    · rename_i hi; exact ⟨.normal, s', key _ (fun a w _ => by simp [Exit.inBlock, hi]), hq⟩
    · rename_i hi; exact ⟨.exit i, s', key _ (fun a w _ => by simp [Exit.inBlock, hi]), hq⟩
  | normal => exact ⟨_, s', key _ (fun a w _ => rfl), hq⟩
  | _ => exact ⟨_, s', key _ (fun a w _ => rfl), hq⟩

theorem awp_lab (h : Q .normal s) : AWp P l N .lab Q s := by
  refine ⟨.normal, s, fun c hc hwf => ⟨hwf, fun E ρ β a w hs hN => ?_⟩, h⟩
  cases c with
  | label l => exact wpIn_label ⟨rfl, hN, ρ, β, hs⟩
  | region id ops d => simp only [compC] at hc; (repeat' split at hc) <;> cases hc
  | seq a b => simp only [compC] at hc; split at hc <;> cases hc
  | cond c x y => simp only [compC] at hc; split at hc <;> cases hc
  | block id b => simp only [compC] at hc; split at hc <;> cases hc
  | loop b => simp only [compC] at hc; split at hc <;> cases hc
  | scope b => simp only [compC] at hc; split at hc <;> cases hc
  | rangeFunc g ps x y => simp only [compC] at hc; (repeat' split at hc) <;> cases hc
  | _ => simp [compC] at hc

theorem compC_scope {c : Code} {x : AC} (h : compC P N c = some (.scope x)) : ∃ a, c = .scope a ∧ compC P N a = some x := by
  cases c with
  | region id ops d => simp only [compC] at h; (repeat' split at h) <;> cases h
  | scope b =>
    simp only [compC] at h
    split at h
    · rename_i h1; cases h; exact ⟨b, rfl, h1⟩
    · cases h
  | seq a b => simp only [compC] at h; split at h <;> cases h
  | cond c x y => simp only [compC] at h; split at h <;> cases h
  | block id b => simp only [compC] at h; split at h <;> cases h
  | loop b => simp only [compC] at h; split at h <;> cases h
  | rangeFunc g ps x y => simp only [compC] at h; (repeat' split at h) <;> cases h
  | _ => simp [compC] at h

theorem compC_rng {c : Code} {f : Opd} {ps : List Nat} {x y : AC} (h : compC P N c = some (.rng f ps x y)) : ∃ g qs a b, c = .rangeFunc g qs a b ∧ cOpd g = some f ∧ qs.toList = ps ∧ compC P N a = some x ∧ compC P N b = some y := by
  cases c with
  | region id ops d => simp only [compC] at h; (repeat' split at h) <;> cases h
  | rangeFunc g qs a b =>
    simp only [compC] at h
    split at h
    · rename_i h0 h1 h2
      split at h
      · cases h; exact ⟨g, qs, a, b, rfl, h0, rfl, h1, h2⟩
      · cases h
    · cases h
  | scope b => simp only [compC] at h; split at h <;> cases h
  | seq a b => simp only [compC] at h; split at h <;> cases h
  | cond c x y => simp only [compC] at h; split at h <;> cases h
  | block id b => simp only [compC] at h; split at h <;> cases h
  | loop b => simp only [compC] at h; split at h <;> cases h
  | _ => simp [compC] at h

/-- A scope into which nobody jumps back. -/
theorem awp_scope {x : AC} (h : AWp P l N x (fun e s' => (∀ t, e ≠ .goto t) ∧ Q e s') s) : AWp P l N (.scope x) Q s := by
  obtain ⟨e, s', hb, hg, hq⟩ := h
  refine ⟨e, s', fun c hc hwf => ?_, hq⟩
  obtain ⟨d, rfl, hd⟩ := compC_scope hc
  have h1 := hb d hd hwf
  refine ⟨h1.1, fun E ρ β a w hs hN b k cs hro hfb hr => ?_⟩
  obtain ⟨e1, a1, w1, ⟨rfl, q⟩, harr⟩ := h1.2 E ρ β a w hs hN b (.inScope d :: k) cs hro hfb hr
  have s1 : StepsIn (Machine.fenced P (FW E.e.l)) P (lone (b.atR a (.code (.scope d) :: k)) cs w) (lone (b.atR a (.code d :: .inScope d :: k)) cs w) :=
    .one (fenced_calm hfb hr rfl) (step_lone_go (by simp [stepG, stepG.exec, Frame.atR]))
  cases e1 with
  | normal =>
    exact ⟨_, a1, w1, ⟨rfl, q⟩, .of_steps s1 (StepsIn.trans harr (.one (fenced_calm hfb hr rfl) (step_lone_go (by simp [stepG, stepG.exec, Frame.atR]))))⟩
  | goto t => exact absurd rfl (hg t)
  | exit id => exact ⟨_, a1, w1, ⟨rfl, q⟩, .of_steps s1 ⟨fun k' hk => harr.1 k' (by simpa [exitTo] using hk), fun hr' hk => harr.2 hr' (by simpa [exitTo] using hk)⟩⟩
  | ret => exact ⟨_, a1, w1, ⟨rfl, q⟩, .of_steps s1 harr⟩
  | panic ch => exact ⟨_, a1, w1, ⟨rfl, q⟩, .of_steps s1 harr⟩
  | outgrown => exact ⟨_, a1, w1, ⟨rfl, q⟩, .of_steps s1 harr⟩

/-- What says less. -/
def Le (s t : St) : Prop := WF s → WF t ∧ ∀ (E : Entry) (ρ : Rn) (β : Nat → Option Nat) (a : Act) (w : World), SR E ρ β s a w → ∃ ρ' β', SR E ρ' β' t a w

theorem Le.refl (s : St) : Le s s := fun h => ⟨h, fun E ρ β a w hs => ⟨ρ, β, hs⟩⟩
theorem Le.trans {s t u : St} (h : Le s t) (k : Le t u) : Le s u := fun hw =>
  ⟨(k (h hw).1).1, fun E ρ β a w hs => let ⟨ρ1, β1, h1⟩ := (h hw).2 E ρ β a w hs; (k (h hw).1).2 E ρ1 β1 a w h1⟩

theorem awp_le {ac : AC} {t : St} (hle : Le s t) (h : AWp P l N ac Q t) : AWp P l N ac Q s := by
  obtain ⟨e, s', hb, hq⟩ := h
  refine ⟨e, s', fun c hc hwf => ?_, hq⟩
  have h1 := hle hwf
  have h2 := hb c hc h1.1
  refine ⟨h2.1, fun E ρ β a w hs hN => ?_⟩
  obtain ⟨ρ1, β1, hs1⟩ := h1.2 E ρ β a w hs
  exact h2.2 E ρ1 β1 a w hs1 hN

theorem awp_loop {γ : Type} {x : AC} (I : γ → St) (μ : γ → Nat) (g : γ) (hs : Le s (I g))
    (round : ∀ g, AWp P l N x (thenS (fun s' => ∃ g', μ g' < μ g ∧ Le s' (I g')) Q) (I g)) : AWp P l N (.loop x) Q s := by
  refine awp_le hs ?_
  have key : ∀ n g, μ g = n → ∃ e s', Q e s' ∧ (∀ c, compC P N c = some x → WF (I g) → WF s' ∧ ∀ (E : Ent l) (ρ : Rn) (β : Nat → Option Nat) (a : Act) (w : World), SR E ρ β (I g) a w → a.tmps.size = N →
      ∀ (b : Frame) (k : List Item) (cs : List Frame), b.roundOf = (FW E.e.l).round → (FW E.e.l).fn b.fn → (FW E.e.l).room (cs.length + 1 + 0) →
        ∃ e' a' w', (e' = e ∧ a'.tmps.size = N ∧ ∃ ρ' β', SR E ρ' β' s' a' w') ∧ ArrivesIn (Machine.fenced P (FW E.e.l)) P (lone (b.atR a (.code c :: .inLoop c :: k)) cs w) b k cs e' a' w') := by
    intro n
    induction n using Nat.strongRecOn with
    | _ n ih =>
      intro g hn
      obtain ⟨e, s1, hb, hq⟩ := round g
      cases e with
      | normal =>
        obtain ⟨g', hlt, hle⟩ := hq
        obtain ⟨e2, s2, hq2, h2⟩ := ih (μ g') (hn ▸ hlt) g' rfl
        refine ⟨e2, s2, hq2, fun c hc hwf => ?_⟩
        have h1 := hb c hc hwf
        have hl := hle h1.1
        have h3 := h2 c hc hl.1
        refine ⟨h3.1, fun E ρ β a w hs hN b k cs hro hfb hr => ?_⟩
        obtain ⟨e1, a1, w1, ⟨rfl, hN1, ρ1, β1, hs1⟩, harr⟩ := h1.2 E ρ β a w hs hN b (.inLoop c :: k) cs hro hfb hr
        obtain ⟨ρ2, β2, hs2⟩ := hl.2 E ρ1 β1 a1 w1 hs1
        obtain ⟨e', a', w', q, harr2⟩ := h3.2 E ρ2 β2 a1 w1 hs2 hN1 b k cs hro hfb hr
        exact ⟨e', a', w', q, .of_steps (StepsIn.trans harr (.one (fenced_calm hfb hr rfl) stepR_inLoop)) harr2⟩
      | _ =>
        refine ⟨_, s1, hq, fun c hc hwf => ?_⟩
        have h1 := hb c hc hwf
        refine ⟨h1.1, fun E ρ β a w hs hN b k cs hro hfb hr => ?_⟩
        obtain ⟨e1, a1, w1, ⟨rfl, q⟩, harr⟩ := h1.2 E ρ β a w hs hN b (.inLoop c :: k) cs hro hfb hr
        exact ⟨_, a1, w1, ⟨rfl, q⟩, .pass (x := .inLoop c) rfl (fun _ _ => .inl (by simp)) harr⟩
  obtain ⟨e, s', hq, h⟩ := key _ g rfl
  refine ⟨e, s', fun c hc hwf => ?_, hq⟩
  obtain ⟨a, rfl, ha⟩ := compC_loop hc
  have h1 := h a ha hwf
  refine ⟨h1.1, fun E ρ β ac w hs hN b k cs hro hfb hr => ?_⟩
  obtain ⟨e', a', w', q, harr⟩ := h1.2 E ρ β ac w hs hN b k cs hro hfb hr
  exact ⟨e', a', w', q, .of_steps (.one (fenced_calm hfb hr rfl) stepR_loop) harr⟩

theorem awp_reg {ed : List (List Nat)} {cs : List CI} (h : RW P l N cs [] (fun _ s' => Q .normal s') s) : AWp P l N (.reg false ed cs) Q s := by
  obtain ⟨its, s', hst, hq⟩ := h
  refine ⟨.normal, s', fun c hc hwf => ?_, hq⟩
  obtain ⟨id, ops, rfl, hops, hd, _⟩ := compC_reg hc
  obtain ⟨hlen, hget⟩ := compOps_get hops
  have hseq := fun Q => steps_seq (Q := Q) hst (ops := ops) 0 (fun m c hm => by
    obtain ⟨o, h1, h2⟩ := hget m c hm
    exact ⟨o, by simpa using h1, h2⟩) hd hwf
  refine ⟨(hseq fun _ _ _ => True).1, fun E ρ β a w hs hN => wpIn_region ?_⟩
  have := (hseq (fun e' a' w' => e' = Exit.normal ∧ a'.tmps.size = N ∧ ∃ ρ' β', SR E ρ' β' s' a' w')).2 E ρ β a w hs hN (fun a' w' ρ' β' hs' hN' => ⟨rfl, hN', ρ', β', hs'⟩)
  rw [List.range_eq_range', ← Array.length_toList, ← hlen]
  exact this

def nodes : Nat → List CI → List It → List Nd
  | k, c :: cs, it :: its => ⟨k, c, it⟩ :: nodes (k + 1) cs its
  | _, _, _ => []

theorem nodes_runs {cs : List CI} {its : List It} {s s' : St} (h : Steps' P l N cs its s s') : ∀ k, RunsL P l N (nodes k cs its) s s' := by
  induction h with
  | nil => exact fun _ => .nil (Same.refl _)
  | cons g _ ih => exact fun k => .cons g (ih (k + 1))
theorem Steps'.len {cs : List CI} {its : List It} {s s' : St} (h : Steps' P l N cs its s s') : its.length = cs.length := by
  induction h with
  | nil => rfl
  | cons _ _ ih => simp [ih]
theorem nodes_get : ∀ (k : Nat) (cs : List CI) (its : List It), its.length = cs.length → (nodes k cs its).length = cs.length ∧ ∀ (m : Nat) (n : Nd), (nodes k cs its)[m]? = some n → n.i = k + m ∧ cs[m]? = some n.ci ∧ its[m]? = some n.it
  | k, [], [], _ => by simp [nodes]
  | k, c :: cs, it :: its, h => by
    obtain ⟨h1, h2⟩ := nodes_get (k + 1) cs its (by simpa using h)
    refine ⟨by simp [nodes, h1], fun m n hm => ?_⟩
    cases m with
    | zero => simp [nodes] at hm; subst hm; simp
    | succ m =>
      simp [nodes] at hm
      obtain ⟨h3, h4, h5⟩ := h2 m n hm
      exact ⟨by omega, by simpa using h4, by simpa using h5⟩
  | k, [], _ :: _, h => by simp at h
  | k, _ :: _, [], h => by simp at h

theorem awp_regd {ed : List (List Nat)} {cs : List CI} (hm : P.follows .mixedOrders = true) (h : RW P l N cs [] (fun its s' => chk ed its = true ∧ Q .normal s') s) : AWp P l N (.reg true ed cs) Q s := by
  obtain ⟨its, s', hst, hck, hq⟩ := h
  refine ⟨.normal, s', fun c hc hwf => ?_, hq⟩
  obtain ⟨id, ops, rfl, hops, hd, hed⟩ := compC_reg hc
  obtain ⟨hed, hback⟩ := hed rfl
  obtain ⟨hlen, hget⟩ := compOps_get hops
  have hseq := steps_seq (Q := fun _ _ _ => True) hst (ops := ops) 0 (fun m c hm => by
    obtain ⟨o, h1, h2⟩ := hget m c hm
    exact ⟨o, by simpa using h1, h2⟩) hd hwf
  have hnl := hst.len
  obtain ⟨hlen2, hn⟩ := nodes_get 0 cs its hnl
  have hsz : ops.size = cs.length := by rw [← Array.length_toList, ← hlen]
  refine ⟨hseq.1, fun E ρ β a w hs hN => wpIn_region_any hm ?_⟩
  have hspec := chkGo_spec (ops := ops) hck rfl (fun k a hk => by simp at hk) (fun k e hk => by
    rw [hed] at hk
    simp only [List.getElem?_map, Option.map_eq_some_iff] at hk
    obtain ⟨o, h1, h2⟩ := hk
    exact ⟨o, by simpa using h1, h2.symm⟩)
  have hord := any_order (P := P) (l := l) (N := N) (ops := ops) (Q := fun e' a' w' => e' = Exit.normal ∧ a'.tmps.size = N ∧ ∃ ρ' β', SR E ρ' β' s' a' w') (E := E) (s' := s')
    (fun j o hj e he hb => by
      have := backOK_get hback j (edgesOf o) (by rw [hed]; simp [hj]) e.on (mem_edgesOf.2 ⟨e, he, hb, rfl⟩)
      omega)
    (fun a' w' ρ' β' hs' _ hN' => ⟨rfl, hN', ρ', β', hs'⟩)
    (nodes 0 cs its) s (Array.replicate ops.size false) ρ β a { w with drawn := w.drawn + 1 } (by simp)
    (fun n hmem => by
      obtain ⟨m, hm⟩ := List.mem_iff_getElem?.1 hmem
      obtain ⟨h1, h2, h3⟩ := hn m n hm
      obtain ⟨o, h4, h5⟩ := hget m n.ci h2
      refine ⟨o, by rw [h1]; simpa using h4, h5, fun d hdd => ?_⟩
      have := hd n.ci (List.mem_of_getElem? h2)
      simpa [dstOK, hdd] using this)
    (List.pairwise_iff_getElem.2 fun p q hp hq hpq => by
      obtain ⟨h1, h2, h3⟩ := hn p _ (List.getElem?_eq_getElem hp)
      obtain ⟨h4, h5, h6⟩ := hn q _ (List.getElem?_eq_getElem hq)
      refine ⟨by omega, ?_⟩
      have := hspec p q _ _ hpq (Nat.zero_le _) (by simpa using h3) (by simpa using h6)
      rw [h1, h4]
      simpa using this)
    (fun i hi => by
      have : i < (nodes 0 cs its).length := by omega
      obtain ⟨h1, h2, h3⟩ := hn i _ (List.getElem?_eq_getElem this)
      simp only [Array.getD_eq_getD_getElem?, Array.getElem?_replicate, hi, if_true, Option.getD_some, true_iff]
      exact ⟨_, List.getElem_mem this, by rw [h1]; omega⟩)
    (fun j o hj hl => by
      simp only [Array.getD_eq_getD_getElem?, Array.getElem?_replicate] at hl
      split at hl <;> simp at hl)
    (nodes_runs hst 0) hwf (hs.drew) hN
  rw [hlen2, ← hsz] at hord
  exact hord

end
end Iso
