import Derived.Test.YtlgejmkkehfllaaGreatZ2
/- The abstract layer, fourteenth part: instructions as steps, calls, functions, giving up what is not needed. Nothing of a program. -/
namespace Iso
open Go Go.RowKit

section
variable {P : Program} {l : Option Nat} {N : Nat} {G : List Nat}

/-- What an operation does, whatever its guard says. -/
def GoodI (P : Program) (l : Option Nat) (N : Nat) (dst : Option Nat) (i : I) (it : It) (s : St) : Prop :=
  ∀ o : Oper, comp1 P o = some i → o.dst = dst → (∀ d, dst = some d → d < N) → ∀ t, Agree it.rd s t → WF t →
    WF (it.app t) ∧ ∀ (E : Ent l) (ρ : Rn) (β : Nat → Option Nat) (a : Act) (w : World), SR E ρ β t a w → a.tmps.size = N →
      ∀ (Q : Exit → Act → World → Prop) (K : Act → World → Prop), (∀ a' w' ρ' β', SR E ρ' β' (it.app t) a' w' → a'.tmps.size = N → K a' w') → o.wpIn (FW E.e.l) 0 P a w K Q

theorem compCI_none {ops : Array Oper} {o : Oper} {dst : Option Nat} {i : I} (h : compCI P ops o = some ⟨dst, none, i⟩) : comp1 P o = some i ∧ o.dst = dst ∧ o.guard = none := by
  simp only [compCI, Option.pure_def, Option.bind_eq_bind, Option.bind_eq_some_iff] at h
  obtain ⟨j, h1, h⟩ := h
  split at h
  · rename_i hg; cases h; exact ⟨h1, rfl, hg⟩
  · simp only [Option.bind_eq_some_iff] at h
    obtain ⟨_, _, _, _, h⟩ := h
    cases h
theorem compCI_some {ops : Array Oper} {o : Oper} {dst : Option Nat} {i : I} {g : Nat} {want : Bool} (h : compCI P ops o = some ⟨dst, some (g, want), i⟩) :
    comp1 P o = some i ∧ o.dst = dst ∧ ∃ j oj, o.guard = some (j, want) ∧ ops[j]? = some oj ∧ oj.dst = some g := by
  simp only [compCI, Option.pure_def, Option.bind_eq_bind, Option.bind_eq_some_iff] at h
  obtain ⟨k, h1, h⟩ := h
  split at h
  · cases h
  · rename_i j w hg
    simp only [Option.bind_eq_some_iff] at h
    obtain ⟨oj, h2, t, h3, h⟩ := h
    cases h
    exact ⟨h1, rfl, j, oj, hg, h2, h3⟩

theorem good_plain {dst : Option Nat} {i : I} {it : It} {s : St} (h : GoodI P l N dst i it s) : Good P l N ⟨dst, none, i⟩ it s := by
  intro ops k o ho hc hd t ht hwf
  obtain ⟨h1, h2, h3⟩ := compCI_none hc
  obtain ⟨h4, h5⟩ := h o h1 h2 hd t ht hwf
  refine ⟨h4, fun E ρ β a w hs hN Q K hK => ?_⟩
  simp only [wpOpIn, ho]
  rw [if_pos (by simp [Region.wanted, h3])]
  exact h5 E ρ β a w hs hN Q K hK

theorem yield_of {ops : Array Oper} {j g : Nat} {oj : Oper} {E : Entry} {ρ : Rn} {β : Nat → Option Nat} {t : St} {a : Act} {w : World} {b : Bool} (hs : SR E ρ β t a w) (h1 : ops[j]? = some oj) (h2 : oj.dst = some g) (hg : t.A.get g = .v (.lit (.bool b))) :
    yielded ops a.tmps j = some b := by
  have h3 := hs.tmps g
  rw [hg] at h3
  simp only [TR, VR] at h3
  simp only [yielded, h1, h2, Option.bind_some]
  rw [Array.getD_eq_getD_getElem?] at h3
  cases hx : a.tmps[g]? with
  | none => rw [hx] at h3; simp [undef] at h3
  | some x => rw [hx] at h3; simp at h3; subst h3; rfl

theorem good_guard {dst : Option Nat} {i : I} {x : T} {rd : Rd} {eff : Eff} {s : St} {g : Nat} {want : Bool} (hg : s.A.get g = .v (.lit (.bool want))) (h : GoodI P l N dst i ⟨dst, x, rd, eff⟩ s) :
    Good P l N ⟨dst, some (g, want), i⟩ ⟨dst, x, ⟨g :: rd.tmps, rd.slots, rd.heap⟩, eff⟩ s := by
  intro ops k o ho hc hd t ht hwf
  obtain ⟨h1, h2, j, oj, h3, h6, h7⟩ := compCI_some hc
  obtain ⟨h4, h5⟩ := h o h1 h2 hd t ⟨fun n hn => ht.A n (List.mem_cons_of_mem _ hn), ht.L, ht.H⟩ hwf
  refine ⟨h4, fun E ρ β a w hs hN Q K hK => ?_⟩
  simp only [wpOpIn, ho]
  have hy := yield_of hs h6 h7 ((ht.A g (List.mem_cons_self ..)).symm.trans hg)
  rw [if_pos (by simp [Region.wanted, h3, hy])]
  exact h5 E ρ β a w hs hN Q K hK

theorem WF.any {t : St} (h : WF t) (d : Option Nat) (x : V) : WF ⟨t.A.put? d (.v x), t.L, t.H⟩ := fun n e o hn => by
  simp only [Env.get_put?] at hn
  split at hn
  · cases hn
  · exact h n e o hn

theorem good_skip {dst : Option Nat} {i : I} {s : St} {g : Nat} {want b : Bool} (hg : s.A.get g = .v (.lit (.bool b))) (hne : b ≠ want) :
    Good P l N ⟨dst, some (g, want), i⟩ ⟨dst, .v .any, { tmps := [g] }, {}⟩ s := by
  intro ops k o ho hc hd t ht hwf
  obtain ⟨h1, h2, j, oj, h3, h6, h7⟩ := compCI_some hc
  refine ⟨hwf.any dst .any, fun E ρ β a w hs hN Q K hK => ?_⟩
  simp only [wpOpIn, ho]
  have hy := yield_of hs h6 h7 ((ht.A g (List.mem_cons_self ..)).symm.trans hg)
  rw [if_neg (by simp [Region.wanted, h3, hy, hne])]
  refine ⟨fun f hf => trivial, ?_⟩
  subst h2
  exact hK _ _ ρ β (hs.put o.dst (fun d h => by rw [hN]; exact hd d h) (by simp [TR, VR])) (by rw [put_size]; exact hN)

theorem rw_step {dst : Option Nat} {i : I} {it : It} {s : St} {r : List CI} {acc : List It} {Q : List It → St → Prop} (h : GoodI P l N dst i it s) (k : RW P l N r (acc ++ [it]) Q (it.app s)) : RW P l N (⟨dst, none, i⟩ :: r) acc Q s :=
  .cons it (good_plain h) k
theorem rw_gstep {dst : Option Nat} {i : I} {x : T} {rd : Rd} {eff : Eff} {s : St} {g : Nat} {want : Bool} {r : List CI} {acc : List It} {Q : List It → St → Prop} (hg : s.A.get g = .v (.lit (.bool want))) (h : GoodI P l N dst i ⟨dst, x, rd, eff⟩ s)
    (k : RW P l N r (acc ++ [⟨dst, x, ⟨g :: rd.tmps, rd.slots, rd.heap⟩, eff⟩]) Q (It.app ⟨dst, x, ⟨g :: rd.tmps, rd.slots, rd.heap⟩, eff⟩ s)) : RW P l N (⟨dst, some (g, want), i⟩ :: r) acc Q s :=
  .cons _ (good_guard hg h) k
theorem rw_gskip {dst : Option Nat} {i : I} {s : St} {g : Nat} {want b : Bool} {r : List CI} {acc : List It} {Q : List It → St → Prop} (hg : s.A.get g = .v (.lit (.bool b))) (hne : b ≠ want)
    (k : RW P l N r (acc ++ [⟨dst, .v .any, { tmps := [g] }, {}⟩]) Q (It.app ⟨dst, .v .any, { tmps := [g] }, {}⟩ s)) : RW P l N (⟨dst, some (g, want), i⟩ :: r) acc Q s :=
  .cons _ (good_skip hg hne) k

theorem comp1_comp {o : Oper} {i : I} (h : comp1 P o = some i) : comp P o = some i ∧ (callI i = true → ∃ c, o.op = .call c) := by
  simp only [comp1] at h
  split at h
  · rename_i j hj
    split at h
    · cases h
    · rename_i hn
      cases h
      refine ⟨hj, fun hi => ?_⟩
      cases hop : o.op with
      | call c => exact ⟨c, rfl⟩
      | _ => simp [hi, isCallOp, hop] at hn
  · cases h

theorem comp_no_defer {o : Oper} {i : I} (h : comp P o = some i) (c : Call) : o.op ≠ .defer c := by
  intro hd
  simp [comp, hd] at h

/-- An instruction that 'aop' knows. -/
theorem goodI_of_aop {dst : Option Nat} {i : I} {it : It} {s : St} (hdst : it.dst = dst)
    (h : ∀ t, Agree it.rd s t → WF t → WF (it.app t) ∧ ∃ s', aop G dst i t = some (it.x, s') ∧ Same ⟨s'.A.put? it.dst it.x, s'.L, s'.H⟩ (it.app t)) : GoodI P l N dst i it s := by
  intro o hc ho hd t ht hwf
  have hc := (comp1_comp hc).1
  obtain ⟨h1, s', h2, h3⟩ := h t ht hwf
  refine ⟨h1, fun E ρ β a w hs hN Q K hK => ?_⟩
  subst ho
  obtain ⟨w', y, ρ', β', hrun, hs', hx⟩ := comp_sound hs hc h2
  refine ⟨fun f hf => trivial, ?_⟩
  rw [Oper.semAt_eq _ _ _ (comp_no_defer hc)]
  have hput := (hs'.put o.dst (fun d h => by rw [hN]; exact hd d h) hx)
  rw [hdst] at h3
  have hfin := hK (a.put o.dst y) w' ρ' β' (hput.same h3) (by rw [put_size]; exact hN)
  rcases hrun with hr | ⟨hr, hy⟩
  · rw [hr]; exact hfin
  · rw [hr]; subst hy; exact hfin

/-! ### Calls -/
def E0 (ρ : Rn) (H : AH) (w : World) : Entry := ⟨ρ.φ, H.next, ρ.Y, w, none⟩
def HR (ρ : Rn) (H : AH) (w : World) : Prop := SR (E0 ρ H w) ρ (fun _ => none) ⟨[], [], H⟩ ⟨#[], []⟩ w

/-- A function, called with these arguments upon this heap, returns this, and leaves this heap. -/
def FN (P : Program) (f : Nat) (args : List V) (H : AH) (v : V) (H' : AH) : Prop :=
  ∀ (ρ : Rn) (w : World) (xs : List Value), HR ρ H w → VRs ρ w args xs →
    CallsIn Fence.wide 0 P f xs.toArray w fun e w' => ∃ y ρ', e = .returned y ∧ SR (E0 ρ H w) ρ' (fun _ => none) ⟨[], [], H'⟩ ⟨#[], []⟩ w' ∧ VR ρ' w' v y

theorem SR.hr {E : Entry} {ρ : Rn} {β : Nat → Option Nat} {s : St} {a : Act} {w : World} (h : SR E ρ β s a w) : HR ρ s.H w where
  tmps := fun t => by simp [Env.get, TR, VR]
  loc := fun t cs hc => by simp [Loc.get] at hc
  nloc := fun _ _ => rfl
  heap := h.heap
  nheap := h.nheap
  Y := fun B => by simp [E0]
  injφ := h.injφ
  injβ := fun t t' B h1 _ => by simp at h1
  disj := fun t b B h1 => by simp at h1
  Xφ := fun b B hx hb => by
    rcases (h.Y B).1 hx with hx | ⟨t, ht⟩
    · exact h.Xφ b B hx hb
    · exact h.disj t b B ht hb
  Xlt := fun B hx => by
    rcases (h.Y B).1 hx with hx | ⟨t, ht⟩
    · exact h.ltX hx
    · exact h.ltβ ht
  next := h.next
  dead := h.dead
  dfr := trivial
  size := Nat.le_refl _
  frame := fun B _ _ => rfl
  fromφ := fun b B hb => .inl ⟨b, hb⟩
  fromβ := fun t B h1 => by simp at h1
  names := fun b B _ hb => hb
  n0 := Nat.le_refl _
  os := rfl
  tape := rfl
  output := rfl
  shape := fun B C e hC => ⟨C, hC, rfl⟩

theorem HR.keep {ρ ρ' : Rn} {H H' : AH} {w w' : World} (hρ : ρ.next = H.next) (hφ : ∀ b B, ρ.φ b = some B → B < w.heap.size) (h : SR (E0 ρ H w) ρ' (fun _ => none) ⟨[], [], H'⟩ ⟨#[], []⟩ w') : Keep ρ w ρ' w' where
  next := by rw [h.next, hρ]; exact h.n0
  names := fun b B hb hB => h.names b B (by rw [hρ] at hb; exact hb) hB
  imm := fun B hB => by
    refine ⟨⟨Nat.lt_of_lt_of_le hB.1 h.size, fun hy => ?_, fun b hb => ?_⟩, h.frame B hB.1 hB.2.2⟩
    · rcases (h.Y B).1 hy with hx | ⟨t, ht⟩
      · exact hB.2.1 hx
      · cases ht
    · rcases h.fromφ b B hb with ⟨b0, h0⟩ | h0
      · exact hB.2.2 b0 h0
      · exact absurd hB.1 (Nat.not_lt.2 h0)
  shape := h.shape

theorem SR.called {E : Entry} {ρ ρ' : Rn} {β : Nat → Option Nat} {s : St} {a : Act} {w w' : World} {H' : AH} (h : SR E ρ β s a w) (k : SR (E0 ρ s.H w) ρ' (fun _ => none) ⟨[], [], H'⟩ ⟨#[], []⟩ w') :
    SR E ρ' β ⟨s.A, s.L, H'⟩ a w' := by
  have kp : Keep ρ w ρ' w' := HR.keep h.next (fun b B hb => h.ltφ hb) k
  refine { tmps := fun t => (h.tmps t).keep kp, loc := fun t cs hc => ?_, nloc := h.nloc, heap := k.heap, nheap := k.nheap, Y := fun B => ?_, injφ := k.injφ, injβ := h.injβ, disj := fun t b B ht hb => ?_, Xφ := fun b B hx hb => ?_, Xlt := h.Xlt, next := k.next, dead := k.dead, dfr := h.dfr.keep kp, size := Nat.le_trans h.size k.size, frame := fun B hB hn => ?_, fromφ := fun b B hb => ?_, fromβ := h.fromβ, names := fun b B hb hB => ?_, n0 := Nat.le_trans h.n0 k.n0, os := k.os.trans h.os, tape := k.tape.trans h.tape, output := k.output.trans h.output, shape := fun B C e hC => ?_ }
  · obtain ⟨B, h1, h2⟩ := h.loc t cs hc
    exact ⟨B, h1, h2.keep kp (k.frame B (h.ltβ h1) fun b hb => h.disj t b B h1 hb)⟩
  · rw [k.Y B]
    constructor
    · rintro (hx | ⟨t, ht⟩)
      · exact (h.Y B).1 hx
      · cases ht
    · exact fun hx => .inl ((h.Y B).2 hx)
  · exact k.Xφ b B ((h.Y B).2 (.inr ⟨t, ht⟩)) hb
  · exact k.Xφ b B ((h.Y B).2 (.inl hx)) hb
  · have : ∀ b, ρ.φ b ≠ some B := fun b hb => by
      rcases h.fromφ b B hb with ⟨b0, h0⟩ | h0
      · exact hn b0 h0
      · omega
    exact (k.frame B (Nat.lt_of_lt_of_le hB h.size) this).trans (h.frame B hB hn)
  · rcases k.fromφ b B hb with ⟨b0, h0⟩ | h0
    · exact h.fromφ b0 B h0
    · exact .inr (Nat.le_trans h.size h0)
  · exact h.names b B hb (k.names b B (Nat.lt_of_lt_of_le hb h.n0) hB)
  · obtain ⟨C', h1, h2⟩ := h.shape B C e hC
    obtain ⟨C'', h3, h4⟩ := k.shape B C' e h1
    exact ⟨C'', h3, h4.trans h2⟩

theorem comp_call_func {o : Oper} {c : Call} {f : Nat} {args : List Opd} (hop : o.op = .call c) (h : comp P o = some (.call f args)) : c.callee = .value (.func f) ∧ cOpds c.args.toList = some args ∧ hasBody P f = true := by
  cases hcal : c.callee with
  | invoke r n => simp [comp, hop, hcal] at h
  | value g =>
    cases g with
    | func g =>
      simp only [comp, hop, hcal, Option.pure_def, Option.bind_eq_bind, Option.bind_eq_some_iff] at h
      obtain ⟨as, h1, hc⟩ := h
      split at hc
      · rename_i hb; cases hc; exact ⟨rfl, h1, hb⟩
      · (repeat' split at hc) <;> cases hc
    | tmp t =>
      simp only [comp, hop, hcal, Option.pure_def, Option.bind_eq_bind, Option.bind_eq_some_iff] at h
      obtain ⟨_, _, _, _, hc⟩ := h
      cases hc
    | const v =>
      simp only [comp, hop, hcal, Option.pure_def, Option.bind_eq_bind, Option.bind_eq_some_iff] at h
      obtain ⟨_, _, _, _, hc⟩ := h
      cases hc
    | global g =>
      simp only [comp, hop, hcal, Option.pure_def, Option.bind_eq_bind, Option.bind_eq_some_iff] at h
      obtain ⟨_, _, _, _, hc⟩ := h
      cases hc
  | builtin b =>
    exfalso
    cases b with
    | len =>
      simp only [comp, hop, hcal, Option.pure_def, Option.bind_eq_bind, Option.bind_eq_some_iff] at h
      obtain ⟨t, h1, d, h2, hc⟩ := h
      split at hc
      · simp only [Option.bind_eq_some_iff] at hc; obtain ⟨y', hy, hc⟩ := hc; cases hc
      · simp only [Option.bind_eq_some_iff] at hc; obtain ⟨y', hy, hc⟩ := hc; cases hc
      · cases hc
    | min =>
      simp only [comp, hop, hcal, Option.pure_def, Option.bind_eq_bind, Option.bind_eq_some_iff] at h
      obtain ⟨xs, h1, hc⟩ := h; cases hc
    | max =>
      simp only [comp, hop, hcal, Option.pure_def, Option.bind_eq_bind, Option.bind_eq_some_iff] at h
      obtain ⟨xs, h1, hc⟩ := h; cases hc
    | append =>
      simp only [comp, hop, hcal, Option.pure_def, Option.bind_eq_bind] at h
      split at h
      · simp only [Option.bind_eq_some_iff] at h
        obtain ⟨d, h1, hc⟩ := h
        split at hc
        · simp only [Option.bind_eq_some_iff] at hc
          obtain ⟨i, h2, zz, h3, hc⟩ := hc
          split at hc
          · cases hc
          · simp only [Option.bind_eq_some_iff] at hc
            obtain ⟨y', hy, z', hz, hc⟩ := hc
            cases hc
        · cases hc
      · cases h
    | copy =>
      simp only [comp, hop, hcal, Option.pure_def, Option.bind_eq_bind, Option.bind_eq_some_iff] at h
      obtain ⟨t, h1, d, h2, hc⟩ := h
      split at hc
      · split at hc
        · simp only [Option.bind_eq_some_iff] at hc
          obtain ⟨sz, hsz, y', hy, z', hz, hc⟩ := hc
          cases hc
        · cases hc
      · cases hc
    | delete =>
      simp only [comp, hop, hcal, Option.pure_def, Option.bind_eq_bind, Option.bind_eq_some_iff] at h
      obtain ⟨t, h1, d, h2, hc⟩ := h
      split at hc
      · split at hc
        · simp only [Option.bind_eq_some_iff] at hc
          obtain ⟨kk, hk, y', hy, z', hz, hc⟩ := hc
          cases hc
        · cases hc
      · cases hc
    | _ => simp [comp, hop, hcal] at h

theorem comp_call_val {o : Oper} {c : Call} {fo : Opd} {args : List Opd} (hop : o.op = .call c) (h : comp P o = some (.callv fo args)) : ∃ g, c.callee = .value g ∧ cOpd g = some fo ∧ cOpds c.args.toList = some args := by
  cases hcal : c.callee with
  | invoke r n => simp [comp, hop, hcal] at h
  | value g =>
    cases g with
    | func g =>
      simp only [comp, hop, hcal, Option.pure_def, Option.bind_eq_bind, Option.bind_eq_some_iff] at h
      obtain ⟨as, h1, hc⟩ := h
      split at hc
      · cases hc
      · (repeat' split at hc) <;> cases hc
    | tmp t =>
      simp only [comp, hop, hcal, Option.pure_def, Option.bind_eq_bind, Option.bind_eq_some_iff] at h
      obtain ⟨_, h1, _, h2, hc⟩ := h
      cases hc
      exact ⟨_, rfl, h1, h2⟩
    | const v =>
      simp only [comp, hop, hcal, Option.pure_def, Option.bind_eq_bind, Option.bind_eq_some_iff] at h
      obtain ⟨_, h1, _, h2, hc⟩ := h
      cases hc
      exact ⟨_, rfl, h1, h2⟩
    | global g =>
      simp only [comp, hop, hcal, Option.pure_def, Option.bind_eq_bind, Option.bind_eq_some_iff] at h
      obtain ⟨_, h1, _, h2, hc⟩ := h
      cases hc
      exact ⟨_, rfl, h1, h2⟩
  | builtin b =>
    exfalso
    cases b with
    | len =>
      simp only [comp, hop, hcal, Option.pure_def, Option.bind_eq_bind, Option.bind_eq_some_iff] at h
      obtain ⟨t, h1, d, h2, hc⟩ := h
      split at hc
      · simp only [Option.bind_eq_some_iff] at hc; obtain ⟨y', hy, hc⟩ := hc; cases hc
      · simp only [Option.bind_eq_some_iff] at hc; obtain ⟨y', hy, hc⟩ := hc; cases hc
      · cases hc
    | min =>
      simp only [comp, hop, hcal, Option.pure_def, Option.bind_eq_bind, Option.bind_eq_some_iff] at h
      obtain ⟨xs, h1, hc⟩ := h; cases hc
    | max =>
      simp only [comp, hop, hcal, Option.pure_def, Option.bind_eq_bind, Option.bind_eq_some_iff] at h
      obtain ⟨xs, h1, hc⟩ := h; cases hc
    | append =>
      simp only [comp, hop, hcal, Option.pure_def, Option.bind_eq_bind] at h
      split at h
      · simp only [Option.bind_eq_some_iff] at h
        obtain ⟨d, h1, hc⟩ := h
        split at hc
        · simp only [Option.bind_eq_some_iff] at hc
          obtain ⟨i, h2, zz, h3, hc⟩ := hc
          split at hc
          · cases hc
          · simp only [Option.bind_eq_some_iff] at hc
            obtain ⟨y', hy, z', hz, hc⟩ := hc
            cases hc
        · cases hc
      · cases h
    | copy =>
      simp only [comp, hop, hcal, Option.pure_def, Option.bind_eq_bind, Option.bind_eq_some_iff] at h
      obtain ⟨t, h1, d, h2, hc⟩ := h
      split at hc
      · split at hc
        · simp only [Option.bind_eq_some_iff] at hc
          obtain ⟨sz, hsz, y', hy, z', hz, hc⟩ := hc
          cases hc
        · cases hc
      · cases hc
    | delete =>
      simp only [comp, hop, hcal, Option.pure_def, Option.bind_eq_bind, Option.bind_eq_some_iff] at h
      obtain ⟨t, h1, d, h2, hc⟩ := h
      split at hc
      · split at hc
        · simp only [Option.bind_eq_some_iff] at hc
          obtain ⟨kk, hk, y', hy, z', hz, hc⟩ := hc
          cases hc
        · cases hc
      · cases hc
    | _ => simp [comp, hop, hcal] at h

theorem cOpds_eval {E : Entry} {ρ : Rn} {β : Nat → Option Nat} {s : St} {a : Act} {w : World} (hs : SR E ρ β s a w) : ∀ {xs : List Operand} {os : List Opd} {vs : List V}, cOpds xs = some os → evs s.A os = some vs → VRs ρ w vs (xs.map a.eval)
  | [], os, vs, h, hv => by simp [cOpds] at h; subst h; simp [evs] at hv; subst hv; simp [VRs]
  | x :: xs, os, vs, h, hv => by
    simp only [cOpds, Option.pure_def, Option.bind_eq_bind, Option.bind_eq_some_iff] at h
    obtain ⟨y, h1, ys, h2, h3⟩ := h
    cases h3
    simp only [evs] at hv
    split at hv
    · rename_i u hu
      split at hv
      · rename_i us hus
        cases hv
        have := hs.opd h1
        rw [hu] at this
        simp only [VRs, List.map_cons]
        exact ⟨_, _, rfl, this, cOpds_eval hs h2 hus⟩
      · cases hv
    · cases hv

theorem run_enter {f : Nat} (hf : hasBody P f = true) (args : Array Value) (w : World) : (callFunc f args).run P w = .ok (.enter f args) w := by
  unfold hasBody at hf
  split at hf
  · rename_i fn hfn
    simp only [Bool.and_eq_true, Bool.not_eq_true', beq_eq_false_iff_ne, ne_eq] at hf
    simp only [callFunc]
    simp [hfn, hf.2, hf.1]
    intro hn
    simp [hn] at hf
  · cases hf

theorem FW_calls {l : Option Nat} {f : Nat} {xs : Array Value} {w : World} {R : Ending → World → Prop} (h : CallsIn Fence.wide 0 P f xs w R) : CallsIn (FW l) 0 P f xs w R := h

def opdTmps : List Opd → List Nat
  | [] => []
  | .t n :: r => n :: opdTmps r
  | .k _ :: r => opdTmps r

theorem ev_agree {x : Opd} {s t : St} (h : ∀ n ∈ opdTmps [x], s.A.get n = t.A.get n) : x.ev t.A = x.ev s.A := by
  cases x with
  | t n => exact (h n (by simp [opdTmps])).symm
  | k v => rfl
theorem evs_agree {s t : St} : ∀ {xs : List Opd}, (∀ n ∈ opdTmps xs, s.A.get n = t.A.get n) → evs t.A xs = evs s.A xs
  | [], _ => rfl
  | x :: xs, h => by
    have h1 : x.ev t.A = x.ev s.A := by
      cases x with
      | t n => exact (h n (by simp [opdTmps])).symm
      | k v => rfl
    have h2 : evs t.A xs = evs s.A xs := evs_agree fun n hn => h n (by cases x <;> simp [opdTmps, hn])
    simp only [evs, h1, h2]

theorem run_call_wp {o : Oper} {f : Nat} {xs : Array Value} {vs : List V} {H' : AH} {v : V} {E : Entry} {ρ : Rn} {β : Nat → Option Nat} {t : St} {a : Act} {w : World} {Q : Exit → Act → World → Prop} {K : Act → World → Prop}
    (hnd : ∀ c, o.op ≠ .defer c) (hrun : (execOp a.eval o).run P w = .ok (.enter f xs) w) (hxs : VRs ρ w vs xs.toList) (hf : FN P f vs t.H v H') (hs : SR E ρ β t a w) (hN : a.tmps.size = N) (hd : ∀ d, o.dst = some d → d < N)
    (hK : ∀ a' w' ρ' β', SR E ρ' β' ⟨t.A.put? o.dst (.v v), t.L, H'⟩ a' w' → a'.tmps.size = N → K a' w') : o.wpIn (FW E.l) 0 P a w K Q := by
  refine ⟨fun f hf => trivial, ?_⟩
  rw [Oper.semAt_eq _ _ _ hnd, hrun]
  rw [Oper.uponIn_enter]
  refine ⟨fun h => by simp [FW] at h, FW_calls ?_⟩
  have := hf ρ w xs.toList hs.hr hxs
  rw [Array.toArray_toList] at this
  refine this.mono ?_
  rintro e w' ⟨y, ρ', rfl, hs', hv⟩
  exact hK _ w' ρ' β ((hs.called hs').put o.dst (fun d h => by rw [hN]; exact hd d h) hv) (by rw [put_size]; exact hN)

theorem goodI_call {dst : Option Nat} {f : Nat} {args : List Opd} {vs : List V} {v : V} {H' : AH} {hh : Option AH} {s : St} (hargs : evs s.A args = some vs) (hf : FN P f vs s.H v H') (hH : hh.getD s.H = H') :
    GoodI P l N dst (.call f args) ⟨dst, .v v, { tmps := opdTmps args, heap := true }, { heap := hh }⟩ s := by
  intro o hc ho hd t ht hwf
  obtain ⟨hc, hcall⟩ := comp1_comp hc
  obtain ⟨c, hop⟩ := hcall rfl
  obtain ⟨h1, h2, h3⟩ := comp_call_func hop hc
  have htH : s.H = t.H := ht.H rfl
  refine ⟨fun n e o hn => ?_, fun E ρ β a w hs hN Q K hK => ?_⟩
  · simp only [It.app, killA, Env.get_put?] at hn
    split at hn
    · cases hn
    · exact hwf n e o hn
  · have hxs := cOpds_eval hs h2 ((evs_agree ht.A).trans hargs)
    refine run_call_wp (f := f) (xs := c.args.map a.eval) (vs := vs) (v := v) (H' := H') (fun c' => by simp [hop]) ?_ (by simpa using hxs) (by rw [← htH]; exact hf) hs hN (by rw [ho]; exact hd) ?_
    · have hf0 : a.eval (.func f) = .func (.func f) #[] #[] := rfl
      simp only [execOp, hop, resolve, h1]
      simp [hf0, Deferred.ofValue, invoke]
      exact run_enter h3 _ _
    · intro a' w' ρ' β' hs' hN'
      refine hK a' w' ρ' β' ?_ hN'
      subst ho
      simpa only [It.app, killA, slotL, ← htH, hH] using hs'

theorem goodI_callv {dst : Option Nat} {f : Nat} {fo : Opd} {caps : List V} {args : List Opd} {vs : List V} {v : V} {H' : AH} {hh : Option AH} {s : St} (hfo : fo.ev s.A = .v (.fn f caps)) (hargs : evs s.A args = some vs) (hb : hasBody P f = true) (hf : FN P f (vs ++ caps) s.H v H') (hH : hh.getD s.H = H') :
    GoodI P l N dst (.callv fo args) ⟨dst, .v v, { tmps := opdTmps (fo :: args), heap := true }, { heap := hh }⟩ s := by
  intro o hc ho hd t ht hwf
  obtain ⟨hc, hcall⟩ := comp1_comp hc
  obtain ⟨c, hop⟩ := hcall rfl
  obtain ⟨g, h1, h2, h3⟩ := comp_call_val hop hc
  have htH : s.H = t.H := ht.H rfl
  refine ⟨fun n e o hn => ?_, fun E ρ β a w hs hN Q K hK => ?_⟩
  · simp only [It.app, killA, Env.get_put?] at hn
    split at hn
    · cases hn
    · exact hwf n e o hn
  · have hxs := cOpds_eval hs h3 ((evs_agree fun n hn => ht.A n (by cases fo <;> simp [opdTmps] at hn ⊢ <;> simp [hn])).trans hargs)
    have hg := hs.opd h2
    rw [ev_agree (x := fo) (s := s) (t := t) (fun n hn => ht.A n (by cases fo <;> simp [opdTmps] at hn ⊢; simp [hn])), hfo] at hg
    simp only [TR, VR] at hg
    obtain ⟨ys, hg, hys⟩ := hg
    refine run_call_wp (f := f) (xs := c.args.map a.eval ++ ys) (vs := vs ++ caps) (v := v) (H' := H') (fun c' => by simp [hop]) ?_ (by simpa using hxs.append hys) (by rw [← htH]; exact hf) hs hN (by rw [ho]; exact hd) ?_
    · simp only [execOp, hop, resolve, h1]
      simp [hg, Deferred.ofValue, invoke]
      exact run_enter hb _ _
    · intro a' w' ρ' β' hs' hN'
      refine hK a' w' ρ' β' ?_ hN'
      subst ho
      simpa only [It.app, killA, slotL, ← htH, hH] using hs'

end
end Iso

/- The abstract layer, fifteenth part: a function from its body; forgetting and freezing. Nothing of a program. -/
namespace Iso
open Go Go.RowKit

/-! ### Freezing -/
mutual
def V.frz (b : Nat) (cs : List V) : V → V
  | .hs b' o n sz => if b' = b then .vs ((cs.drop o).take (n * sz)) n else .hs b' o n sz
  | .ptr b' o => if b' = b then .vp (cs.drop o) else .ptr b' o
  | .vs xs n => .vs (Vs.frz b cs xs) n
  | .vp xs => .vp (Vs.frz b cs xs)
  | .fn f xs => .fn f (Vs.frz b cs xs)
  | .agg xs => .agg (Vs.frz b cs xs)
  | .tup xs => .tup (Vs.frz b cs xs)
  | .any => .any
  | .lit v => .lit v
  | .mp b => .mp b
  | .yl b => .yl b
def Vs.frz (b : Nat) (cs : List V) : List V → List V
  | [] => []
  | x :: r => V.frz b cs x :: Vs.frz b cs r
end

section
variable {ρ ρ' : Rn} {w : World} {b B : Nat} {cs : List V}

mutual
theorem VR.frz (k : Keep ρ w ρ' w) (hB : ρ.φ b = some B) (himm : ρ'.imm w B) (hrow : VRrow ρ' w B 0 cs) : ∀ (v : V) (x : Value), VR ρ w v x → VR ρ' w (v.frz b cs) x
  | .any, x, h => by simp [V.frz, VR]
  | .lit v, x, h => by simpa [V.frz, VR] using h
  | .ptr b' o, x, h => by
    simp only [V.frz]
    split
    · rename_i hb
      subst hb
      have hx := h.ptr_at hB
      simp only [VR]
      have hr := hrow.drop o
      rw [Nat.zero_add] at hr
      exact ⟨B, o, hx, himm, hr⟩
    · exact VR.keep k _ _ h
  | .hs b' o n sz, x, h => by
    simp only [V.frz]
    split
    · rename_i hb
      subst hb
      obtain ⟨o', cap, hx, ho, hn, _⟩ := h.hs_at hB
      simp only [VR]
      refine ⟨B, o', cap, hx, hn, himm, ?_⟩
      rcases ho with rfl | ⟨rfl, _⟩
      · have hr := (hrow.drop o').take (n * sz)
        rw [Nat.zero_add] at hr
        exact hr
      · simp [VRrow]
    · exact VR.keep k _ _ h
  | .vs xs n, x, h => by
    simp only [V.frz, VR] at h ⊢
    obtain ⟨B', o, cap, hx, hn, hi, hr⟩ := h
    exact ⟨B', o, cap, hx, hn, (k.imm B' hi).1, VRrow.frz k hB himm hrow xs B' o hr⟩
  | .vp xs, x, h => by
    simp only [V.frz, VR] at h ⊢
    obtain ⟨B', o, hx, hi, hr⟩ := h
    exact ⟨B', o, hx, (k.imm B' hi).1, VRrow.frz k hB himm hrow xs B' o hr⟩
  | .mp b, x, h => by simp only [V.frz]; exact VR.keep k _ _ h
  | .yl b, x, h => by simp only [V.frz]; exact VR.keep k _ _ h
  | .fn f xs, x, h => by
    simp only [V.frz, VR] at h ⊢
    obtain ⟨ys, hx, hr⟩ := h
    exact ⟨ys, hx, VRs.frz k hB himm hrow xs _ hr⟩
  | .agg xs, x, h => by
    simp only [V.frz, VR] at h ⊢
    obtain ⟨ys, hx, hr⟩ := h
    exact ⟨ys, hx, VRs.frz k hB himm hrow xs _ hr⟩
  | .tup xs, x, h => by
    simp only [V.frz, VR] at h ⊢
    obtain ⟨ys, hx, hr⟩ := h
    exact ⟨ys, hx, VRs.frz k hB himm hrow xs _ hr⟩
theorem VRs.frz (k : Keep ρ w ρ' w) (hB : ρ.φ b = some B) (himm : ρ'.imm w B) (hrow : VRrow ρ' w B 0 cs) : ∀ (vs : List V) (xs : List Value), VRs ρ w vs xs → VRs ρ' w (Vs.frz b cs vs) xs
  | [], xs, h => by simpa [Vs.frz, VRs] using h
  | v :: vs, xs, h => by
    simp only [Vs.frz, VRs] at h ⊢
    obtain ⟨x, r, hx, h1, h2⟩ := h
    exact ⟨x, r, hx, VR.frz k hB himm hrow v x h1, VRs.frz k hB himm hrow vs r h2⟩
theorem VRrow.frz (k : Keep ρ w ρ' w) (hB : ρ.φ b = some B) (himm : ρ'.imm w B) (hrow : VRrow ρ' w B 0 cs) : ∀ (vs : List V) (B' o : Nat), VRrow ρ w B' o vs → VRrow ρ' w B' o (Vs.frz b cs vs)
  | [], _, _, _ => by simp [Vs.frz, VRrow]
  | v :: vs, B', o, h => by
    simp only [Vs.frz, VRrow] at h ⊢
    obtain ⟨⟨x, hx, h1⟩, h2⟩ := h
    exact ⟨⟨x, hx, VR.frz k hB himm hrow v x h1⟩, VRrow.frz k hB himm hrow vs B' (o + 1) h2⟩
end
end

def T.frz (b : Nat) (cs : List V) : T → T
  | .v x => .v (x.frz b cs)
  | .lp t o => .lp t o
def Env.frz (b : Nat) (cs : List V) : Env → Env
  | [] => []
  | (s, x) :: r => (s, x.frz b cs) :: Env.frz b cs r
theorem Env.get_frz (b : Nat) (cs : List V) : ∀ (A : Env) (t : Nat), (A.frz b cs).get t = (A.get t).frz b cs
  | [], _ => by simp [Env.frz, Env.get, T.frz, V.frz]
  | (s, x) :: r, t => by
    simp only [Env.frz, Env.get]
    split
    · rfl
    · exact Env.get_frz b cs r t

section
variable {E : Entry} {ρ : Rn} {β : Nat → Option Nat} {s : St} {a : Act} {w : World}

/-- A named block is given up: who held it holds its cells from here on. -/
theorem SR.frz (h : SR E ρ β s a w) {b : Nat} {cs : List V} (hb : s.H.get b = some (.cells cs)) :
    ∃ ρ', SR E ρ' β ⟨s.A.frz b cs, s.L, s.H.del b⟩ a w ∧ ρ'.next = ρ.next ∧ ∀ v x, VR ρ w v x → VR ρ' w (v.frz b cs) x := by
  obtain ⟨B, hB, hr⟩ := h.heap b _ hb
  obtain ⟨ρ', h', k, himm, hn⟩ := h.del b
  obtain ⟨C, e, hC, hle, hcs⟩ := hr
  have hrow : VRrow ρ' w B 0 cs := row_of_heap hC (VRs.keep k _ _ hcs)
  have hv := fun v x => VR.frz k hB (himm B hB) hrow v x
  refine ⟨ρ', { h' with tmps := fun t => ?_ }, hn, hv⟩
  show TR ρ' β w ((s.A.frz b cs).get t) _
  rw [Env.get_frz]
  have := h.tmps t
  cases hx : s.A.get t with
  | v x => rw [hx] at this; exact hv x _ this
  | lp d o => rw [hx] at this; exact this

theorem le_frz {b : Nat} {cs : List V} (hb : s.H.get b = some (.cells cs)) : Le s ⟨s.A.frz b cs, s.L, s.H.del b⟩ := fun hwf =>
  ⟨fun n d o hn => by
    simp only [Env.get_frz] at hn
    cases hx : s.A.get n with
    | v x => rw [hx] at hn; cases hn
    | lp e p => rw [hx] at hn; simp only [T.frz] at hn; cases hn; exact hwf n d o hx,
   fun E ρ β a w hs => let ⟨ρ', h', _⟩ := hs.frz hb; ⟨ρ', β, h'⟩⟩

/-! ### Forgetting -/
def Sub (A' A : Env) : Prop := ∀ t, A'.get t = .v .any ∨ A'.get t = A.get t

theorem sub_nil (A : Env) : Sub [] A := fun t => .inl rfl
theorem sub_cons {t : Nat} {x : T} {A' A : Env} (h : A.get t = x) (r : Sub A' A) : Sub ((t, x) :: A') A := fun u => by
  simp only [Env.get]
  split
  · rename_i he; subst he; exact .inr h.symm
  · exact r u

theorem le_sub {A : Env} {L : Loc} {H : AH} {A' : Env} (h : Sub A' A) : Le ⟨A, L, H⟩ ⟨A', L, H⟩ := fun hwf =>
  ⟨fun n d o hn => by
    rcases h n with h1 | h1
    · rw [h1] at hn; cases hn
    · rw [h1] at hn; exact hwf n d o hn,
   fun E ρ β a w hs => ⟨ρ, β, { hs with tmps := fun t => (by
    rcases h t with h1 | h1
    · show TR ρ β w (A'.get t) _
      rw [h1]; simp [TR, VR]
    · show TR ρ β w (A'.get t) _
      rw [h1]; exact hs.tmps t) }⟩⟩

theorem T.kill_lp {d : Nat} {x : T} {e o : Nat} (h : x.kill d = .lp e o) : x = .lp e o ∧ e ≠ d := by
  cases x with
  | v x => cases h
  | lp t p =>
    simp only [T.kill] at h
    split at h
    · cases h
    · rename_i hne; cases h; exact ⟨rfl, hne⟩

theorem le_drop (s : St) (d : Nat) : Le s ⟨s.A.kill d, s.L.del d, s.H⟩ := fun hwf => by
  refine ⟨fun n e o hn => ?_, fun E ρ β a w hs => ?_⟩
  · simp only [Env.get_kill] at hn
    obtain ⟨h1, h2⟩ := T.kill_lp hn
    have := hwf n e o h1
    simpa only [Loc.get_del, if_neg h2] using this
  · cases hd : s.L.get d with
    | some cs =>
      obtain ⟨B, hB, _⟩ := hs.loc d cs hd
      obtain ⟨ρ', β', h1, _⟩ := hs.freezeL hB
      exact ⟨ρ', β', h1⟩
    | none =>
      refine ⟨ρ, β, { hs with tmps := fun t => ?_, loc := fun t cs hc => ?_, nloc := fun t ht => ?_ }⟩
      · show TR ρ β w ((s.A.kill d).get t) _
        rw [Env.get_kill]
        have := hs.tmps t
        cases hx : s.A.get t with
        | v x => rw [hx] at this; exact this
        | lp e o =>
          rw [hx] at this
          simp only [T.kill]
          split
          · simp [TR, VR]
          · exact this
      · simp only [Loc.get_del] at hc
        split at hc
        · cases hc
        · exact hs.loc t cs hc
      · simp only [Loc.get_del] at ht
        split at ht
        · rename_i he; subst he; exact hs.nloc _ hd
        · exact hs.nloc t ht

/-- All local variables at once. -/
theorem SR.dropAll (h : SR E ρ β s a w) : ∃ ρ', SR E ρ' (fun _ => none) ⟨[], [], s.H⟩ ⟨#[], a.defers⟩ w ∧ ρ'.next = ρ.next ∧ ρ'.φ = ρ.φ ∧ ∀ v x, VR ρ w v x → VR ρ' w v x := by
  let ρ' : Rn := { ρ with Y := E.X }
  have k : Keep ρ w ρ' w := ⟨Nat.le_refl _, fun _ _ _ h => h, fun B hB => ⟨⟨hB.1, fun hy => hB.2.1 ((h.Y B).2 (.inl hy)), hB.2.2⟩, rfl⟩, fun B C e hC => ⟨C, hC, rfl⟩⟩
  exact ⟨ρ', { h with dfr := h.dfr.keep k, tmps := fun t => by simp [Env.get, TR, VR], loc := fun t cs hc => by simp [Loc.get] at hc, nloc := fun _ _ => rfl, heap := fun b kb hb => (by
    obtain ⟨B, h1, h2⟩ := h.heap b kb hb
    exact ⟨B, h1, h2.keep k rfl⟩), Y := fun B => by simp [ρ'], injβ := fun t t' B h1 _ => (by cases h1), disj := fun t b B h1 => (by cases h1), fromβ := fun t B h1 => (by cases h1) }, rfl, rfl, fun v x => VR.keep k v x⟩

/-! ### Names that a value holds -/
mutual
def V.under (n : Nat) : V → Prop
  | .ptr b _ => b < n
  | .hs b _ _ _ => b < n
  | .mp b => b < n
  | .yl b => b < n
  | .vs xs _ => Vs.under n xs
  | .vp xs => Vs.under n xs
  | .fn _ xs => Vs.under n xs
  | .agg xs => Vs.under n xs
  | .tup xs => Vs.under n xs
  | .any => True
  | .lit _ => True
def Vs.under (n : Nat) : List V → Prop
  | [] => True
  | x :: r => V.under n x ∧ Vs.under n r
end

def Rn.cut (ρ : Rn) (n : Nat) : Rn := { ρ with φ := fun b => if b < n then ρ.φ b else none, next := n }

theorem cut_φ {ρ : Rn} {n b B : Nat} (h : (ρ.cut n).φ b = some B) : b < n ∧ ρ.φ b = some B := by
  simp only [Rn.cut] at h
  split at h
  · rename_i hl; exact ⟨hl, h⟩
  · cases h
theorem cut_imm {ρ : Rn} {n B : Nat} (h : ρ.imm w B) : (ρ.cut n).imm w B := ⟨h.1, h.2.1, fun b hb => h.2.2 b (cut_φ hb).2⟩

mutual
theorem VR.under : ∀ (v : V) (x : Value), VR ρ w v x → v.under ρ.next
  | .any, _, _ => by simp [V.under]
  | .lit v, _, _ => by simp [V.under]
  | .ptr b o, x, h => by simp only [VR] at h; exact h.1
  | .hs b o n sz, x, h => by simp only [VR] at h; exact h.1
  | .mp b, x, h => by simp only [VR] at h; exact h.1
  | .yl b, x, h => by simp only [VR] at h; exact h.1
  | .vs xs n, x, h => by
    simp only [VR] at h
    obtain ⟨B, o, cap, _, _, _, hr⟩ := h
    exact VRrow.under xs B o hr
  | .vp xs, x, h => by
    simp only [VR] at h
    obtain ⟨B, o, _, _, hr⟩ := h
    exact VRrow.under xs B o hr
  | .fn f xs, x, h => by
    simp only [VR] at h
    obtain ⟨ys, _, hr⟩ := h
    exact VRs.under xs _ hr
  | .agg xs, x, h => by
    simp only [VR] at h
    obtain ⟨ys, _, hr⟩ := h
    exact VRs.under xs _ hr
  | .tup xs, x, h => by
    simp only [VR] at h
    obtain ⟨ys, _, hr⟩ := h
    exact VRs.under xs _ hr
theorem VRs.under : ∀ (vs : List V) (xs : List Value), VRs ρ w vs xs → Vs.under ρ.next vs
  | [], _, _ => by simp [Vs.under]
  | v :: vs, xs, h => by
    simp only [VRs] at h
    obtain ⟨x, r, _, h1, h2⟩ := h
    exact ⟨VR.under v x h1, VRs.under vs r h2⟩
theorem VRrow.under : ∀ (vs : List V) (B o : Nat), VRrow ρ w B o vs → Vs.under ρ.next vs
  | [], _, _, _ => by simp [Vs.under]
  | v :: vs, B, o, h => by
    simp only [VRrow] at h
    obtain ⟨⟨x, _, h1⟩, h2⟩ := h
    exact ⟨VR.under v x h1, VRrow.under vs B (o + 1) h2⟩
end

mutual
theorem VR.cut {n : Nat} : ∀ (v : V) (x : Value), VR ρ w v x → v.under n → VR (ρ.cut n) w v x
  | .any, _, _, _ => by simp [VR]
  | .lit v, x, h, _ => by simpa [VR] using h
  | .ptr b o, x, h, hb => by
    simp only [VR] at h ⊢
    obtain ⟨_, B, h1, h2⟩ := h
    exact ⟨hb, B, h1, fun B' hB => h2 B' (cut_φ hB).2⟩
  | .hs b o n sz, x, h, hb => by
    simp only [VR] at h ⊢
    obtain ⟨_, B, o', cap, h1, h2, h3, h4, h5⟩ := h
    exact ⟨hb, B, o', cap, h1, h2, h3, h4, fun B' hB => h5 B' (cut_φ hB).2⟩
  | .mp b, x, h, hb => by
    simp only [VR] at h ⊢
    obtain ⟨_, B, h1, h2⟩ := h
    exact ⟨hb, B, h1, fun B' hB => h2 B' (cut_φ hB).2⟩
  | .yl b, x, h, hb => by
    simp only [VR] at h ⊢
    obtain ⟨_, B, h1, h2⟩ := h
    exact ⟨hb, B, h1, fun B' hB => h2 B' (cut_φ hB).2⟩
  | .vs xs n, x, h, hb => by
    simp only [VR] at h ⊢
    obtain ⟨B, o, cap, h1, h2, h3, hr⟩ := h
    exact ⟨B, o, cap, h1, h2, cut_imm h3, VRrow.cut xs B o hr hb⟩
  | .vp xs, x, h, hb => by
    simp only [VR] at h ⊢
    obtain ⟨B, o, h1, h3, hr⟩ := h
    exact ⟨B, o, h1, cut_imm h3, VRrow.cut xs B o hr hb⟩
  | .fn f xs, x, h, hb => by
    simp only [VR] at h ⊢
    obtain ⟨ys, h1, hr⟩ := h
    exact ⟨ys, h1, VRs.cut xs _ hr hb⟩
  | .agg xs, x, h, hb => by
    simp only [VR] at h ⊢
    obtain ⟨ys, h1, hr⟩ := h
    exact ⟨ys, h1, VRs.cut xs _ hr hb⟩
  | .tup xs, x, h, hb => by
    simp only [VR] at h ⊢
    obtain ⟨ys, h1, hr⟩ := h
    exact ⟨ys, h1, VRs.cut xs _ hr hb⟩
theorem VRs.cut {n : Nat} : ∀ (vs : List V) (xs : List Value), VRs ρ w vs xs → Vs.under n vs → VRs (ρ.cut n) w vs xs
  | [], xs, h, _ => by simpa [VRs] using h
  | v :: vs, xs, h, hb => by
    simp only [VRs] at h ⊢
    obtain ⟨x, r, hx, h1, h2⟩ := h
    exact ⟨x, r, hx, VR.cut v x h1 hb.1, VRs.cut vs r h2 hb.2⟩
theorem VRrow.cut {n : Nat} : ∀ (vs : List V) (B o : Nat), VRrow ρ w B o vs → Vs.under n vs → VRrow (ρ.cut n) w B o vs
  | [], _, _, _, _ => by simp [VRrow]
  | v :: vs, B, o, h, hb => by
    simp only [VRrow] at h ⊢
    obtain ⟨⟨x, hx, h1⟩, h2⟩ := h
    exact ⟨⟨x, hx, VR.cut v x h1 hb.1⟩, VRrow.cut vs B (o + 1) h2 hb.2⟩
end

def Blk.under (n : Nat) : Blk → Prop
  | .cells cs => Vs.under n cs
  | .map es => Vs.under n (es.map (·.1)) ∧ Vs.under n (es.map (·.2))
  | .loop _ _ _ _ vs => Vs.under n vs

theorem BlkAt.under {B : Nat} {k : Blk} (h : BlkAt ρ w B k) : k.under ρ.next := by
  cases k with
  | cells cs => obtain ⟨C, e, _, _, h3⟩ := h; exact VRs.under _ _ h3
  | map es => obtain ⟨C, e, _, h2, h3⟩ := h; exact ⟨VRs.under _ _ h2, VRs.under _ _ h3⟩
  | loop C st pe ps vs => obtain ⟨r, _, _, _, _, _, h6⟩ := h; exact VRs.under _ _ h6
theorem BlkAt.cut {B n : Nat} {k : Blk} (h : BlkAt ρ w B k) (hb : k.under n) : BlkAt (ρ.cut n) w B k := by
  cases k with
  | cells cs => obtain ⟨C, e, h1, h2, h3⟩ := h; exact ⟨C, e, h1, h2, VRs.cut _ _ h3 hb⟩
  | map es => obtain ⟨C, e, h1, h2, h3⟩ := h; exact ⟨C, e, h1, VRs.cut _ _ h2 hb.1, VRs.cut _ _ h3 hb.2⟩
  | loop C st pe ps vs => obtain ⟨r, h1, h2, h3, h4, h5, h6⟩ := h; exact ⟨r, h1, h2, h3, h4, h5, VRs.cut _ _ h6 hb⟩

/-- A function that gave no old block another content: its own names are forgotten. -/
theorem SR.quiet {ρ0 : Rn} {w0 : World} {H H1 : AH} (h0 : HR ρ0 H w0) (h : SR (E0 ρ0 H w0) ρ (fun _ => none) ⟨[], [], H1⟩ ⟨#[], []⟩ w) (hsame : ∀ b, b < H.next → H1.get b = H.get b) :
    SR (E0 ρ0 H w0) (ρ.cut H.next) (fun _ => none) ⟨[], [], H⟩ ⟨#[], []⟩ w ∧ ∀ v x, VR ρ w v x → v.under H.next → VR (ρ.cut H.next) w v x := by
  refine ⟨{ h with dfr := trivial, tmps := fun t => by simp [Env.get, TR, VR], loc := fun t cs hc => by simp [Loc.get] at hc, heap := fun b k hb => ?_, nheap := fun b hb => ?_, Y := h.Y, injφ := fun b b' B h1 h2 => h.injφ b b' B (cut_φ h1).2 (cut_φ h2).2, disj := fun t b B ht => (by cases ht), Xφ := fun b B hx hb => h.Xφ b B hx (cut_φ hb).2, next := rfl, dead := h0.dead, fromφ := fun b B hb => h.fromφ b B (cut_φ hb).2, names := fun b B hb hB => h.names b B hb (cut_φ hB).2, n0 := Nat.le_refl _ }, fun v x => VR.cut v x⟩
  · have hlt : b < H.next := Nat.lt_of_not_le fun hle => by
      have := h0.dead b hle
      rw [hb] at this; cases this
    obtain ⟨B, h1, h2⟩ := h.heap b k ((hsame b hlt).trans hb)
    obtain ⟨B0, h3, h4⟩ := h0.heap b k hb
    refine ⟨B, by simp only [Rn.cut, if_pos hlt]; exact h1, h2.cut ?_⟩
    have := h4.under
    rw [h0.next] at this
    exact this
  · simp only [Rn.cut]
    split
    · rename_i hlt; exact h.nheap b ((hsame b hlt).trans hb)
    · rfl

end
end Iso

/- The abstract layer, sixteenth part: a function from its body. Nothing of a program. -/
namespace Iso
open Go Go.RowKit

inductive RV where
  | tmp (t : Nat)
  | cell (t : Nat) (ag : Bool) (sz : Nat)

structure CF where
  N : Nat
  ac : AC
  rs : List RV

def compRs (P : Program) : List ResultVar → Option (List RV)
  | [] => some []
  | .tmp t :: r => match compRs P r with
    | some r => some (.tmp t :: r)
    | none => none
  | .cell a t :: r => match isAgg? P t, sizeOf? P t, compRs P r with
    | some ag, some sz, some r => some (.cell a ag sz :: r)
    | _, _, _ => none

def compF (P : Program) (f : Nat) : Option CF :=
  match P.funcs[f]? with
  | some fn => match fn.body with
    | some c => match compC P fn.ntmps c, compRs P fn.results.toList with
      | some ac, some rs => some ⟨fn.ntmps, ac, rs⟩
      | _, _ => none
    | none => none
  | none => none

def resV1 (s : St) : RV → Option V
  | .tmp t => (s.A.get t).val
  | .cell t ag sz => match s.A.get t with
    | .lp d o => match s.L.get d with | some cs => rd ag sz (cs.drop o) | none => none
    | .v (.ptr b o) => match s.H.get b with | some (.cells cs) => rd ag sz (cs.drop o) | _ => none
    | _ => none
def resVs (s : St) : List RV → Option (List V)
  | [] => some []
  | r :: rs => match resV1 s r with
    | some v => match resVs s rs with
      | some vs => some (v :: vs)
      | none => none
    | none => none
def resT : List V → V
  | [v] => v
  | vs => .tup vs

def argsA : Nat → List V → Env
  | _, [] => []
  | k, v :: r => (k, .v v) :: argsA (k + 1) r

theorem argsA_get : ∀ (k : Nat) (args : List V) (t : Nat), (argsA k args).get t = .v (if k ≤ t then (args[t - k]?).getD .any else .any)
  | k, [], t => by simp [argsA, Env.get]
  | k, v :: r, t => by
    simp only [argsA, Env.get]
    by_cases h : k = t
    · subst h; simp
    · rw [if_neg h, argsA_get (k + 1) r t]
      by_cases hk : k ≤ t
      · rw [if_pos (by omega), if_pos hk, show t - k = (t - (k + 1)) + 1 by omega]
        simp
      · rw [if_neg (by omega), if_neg hk]

section
variable {P : Program}

def resOne (a : Act) : ResultVar → Sem Value
  | .tmp t => pure (a.tmps.getD t undef)
  | .cell x t => do loadVar t (← asAddr (a.tmps.getD x undef))

theorem resV1_sound {E : Entry} {ρ : Rn} {β : Nat → Option Nat} {s : St} {a : Act} {w : World} (hs : SR E ρ β s a w) {r : ResultVar} {q : RV} {v : V} (hr : compRs P [r] = some [q]) (h : resV1 s q = some v) :
    ∃ y, (resOne a r).run P w = .ok y w ∧ VR ρ w v y := by
  cases r with
  | tmp t =>
    simp only [compRs, Option.some.injEq, List.cons.injEq, and_true] at hr
    subst hr
    simp only [resV1] at h
    have := hs.tmps t
    cases hx : s.A.get t with
    | lp d o => rw [hx] at h; cases h
    | v x =>
      rw [hx] at h this
      cases h
      exact ⟨_, rfl, this⟩
  | cell x t =>
    simp only [compRs] at hr
    split at hr
    · rename_i ag sz r' hag hsz hr'
      cases hr'
      simp only [Option.some.injEq, List.cons.injEq, and_true] at hr
      subst hr
      simp only [resV1] at h
      have hx := hs.tmps x
      split at h
      · rename_i d o hd
        split at h
        · rename_i cs hc
          rw [hd] at hx
          obtain ⟨B, hB, hrow⟩ := hs.loc d cs hc
          have he := hx B hB
          obtain ⟨y, h1, h2⟩ := rd_cells (P := P) hag hsz (by have := hrow.row.drop o; rwa [Nat.zero_add] at this) h
          refine ⟨y, ?_, h2⟩
          simp only [resOne, he]
          simp [asAddr, h1]
        · cases h
      · rename_i b o hd
        split at h
        · rename_i cs hc
          rw [hd] at hx
          obtain ⟨B, hB, hrow⟩ := hs.heap b _ hc
          have he := VR.ptr_at (w := w) hx hB
          obtain ⟨y, h1, h2⟩ := rd_cells (P := P) hag hsz (by have := (RowAt.row hrow).drop o; rwa [Nat.zero_add] at this) h
          refine ⟨y, ?_, h2⟩
          simp only [resOne, he]
          simp [asAddr, h1]
        · cases h
      · cases h
    · cases hr

theorem compRs_cons {r : ResultVar} {rs : List ResultVar} {qs : List RV} (h : compRs P (r :: rs) = some qs) : ∃ q qs', qs = q :: qs' ∧ compRs P [r] = some [q] ∧ compRs P rs = some qs' := by
  cases r with
  | tmp t =>
    simp only [compRs] at h
    split at h
    · rename_i r' hr; cases h; exact ⟨_, _, rfl, rfl, hr⟩
    · cases h
  | cell a t =>
    simp only [compRs] at h
    split at h
    · rename_i ag sz r' h1 h2 h3; cases h; exact ⟨_, _, rfl, by simp [compRs, h1, h2], h3⟩
    · cases h

theorem resVs_sound {E : Entry} {ρ : Rn} {β : Nat → Option Nat} {s : St} {a : Act} {w : World} (hs : SR E ρ β s a w) : ∀ {rs : List ResultVar} {qs : List RV} {vs : List V}, compRs P rs = some qs → resVs s qs = some vs →
    ∃ ys, (rs.mapM (resOne a)).run P w = .ok ys w ∧ VRs ρ w vs ys
  | [], qs, vs, h, hv => by
    simp [compRs] at h; subst h; simp [resVs] at hv; subst hv
    exact ⟨[], by simp, by simp [VRs]⟩
  | r :: rs, qs, vs, h, hv => by
    obtain ⟨q, qs', rfl, h1, h2⟩ := compRs_cons h
    simp only [resVs] at hv
    split at hv
    · rename_i v hv1
      split at hv
      · rename_i vs' hv2
        cases hv
        obtain ⟨y, hy, hvr⟩ := resV1_sound hs h1 hv1
        obtain ⟨ys, hys, hvs⟩ := resVs_sound hs h2 hv2
        refine ⟨y :: ys, ?_, by simp only [VRs]; exact ⟨y, ys, rfl, hvr, hvs⟩⟩
        rw [List.mapM_cons, Sem.run_bind, hy]
        simp only [Result.andThen]
        rw [Sem.run_bind, hys]
        rfl
      · cases hv
    · cases hv

theorem results_run {E : Entry} {ρ : Rn} {β : Nat → Option Nat} {s : St} {a : Act} {w : World} {fn : Func} (hs : SR E ρ β s a w) {qs : List RV} {vs : List V} (h : compRs P fn.results.toList = some qs) (hv : resVs s qs = some vs) :
    ∃ y, (results fn a.tmps).run P w = .ok y w ∧ VR ρ w (resT vs) y := by
  obtain ⟨ys, hys, hvs⟩ := resVs_sound hs h hv
  have hl := hvs.length
  refine ⟨(if h : ys.toArray.size = 1 then ys.toArray[0] else .tuple ys.toArray), ?_, ?_⟩
  · have he : results fn a.tmps = (do
        let vs ← fn.results.mapM (resOne a)
        pure (if h : vs.size = 1 then vs[0] else .tuple vs)) := rfl
    rw [he, Array.mapM_eq_mapM_toList, Sem.run_bind, Sem.run_map, hys]
    rfl
  · match vs, ys, hl, hvs with
    | [v], [y], _, hvs =>
      simp only [VRs] at hvs
      obtain ⟨x, r, h1, h2, h3⟩ := hvs
      cases h1
      simpa [resT] using h2
    | [], [], _, hvs => simp [resT, VR, VRs]
    | v :: v' :: r, y :: y' :: r', _, hvs =>
      simp only [resT, VR]
      exact ⟨(y :: y' :: r').toArray, by simp, by simpa using hvs⟩

end
end Iso

/- The abstract layer, seventeenth part: the function's contract. Nothing of a program. -/
namespace Iso
open Go Go.RowKit

/-! ### What a range over a function has left for the end -/
/-- The cells lie as they lay. -/
structure Cells (w w' : World) : Prop where
  cell : ∀ a, w'.cell? a = w.cell? a
  size : w'.heap.size = w.heap.size
  row : ∀ (B : Nat) (C : Array Value) (e : TypeId), w.heap[B]? = some (Obj.cells C e (0, 0)) → w'.heap[B]? = some (Obj.cells C e (0, 0))

section
variable {ρ : Rn} {w w' : World}
mutual
theorem VR.same (k : Cells w w') : ∀ (v : V) (x : Value), VR ρ w v x → VR ρ w' v x
  | .any, _, _ => by simp [VR]
  | .lit v, x, h => by simpa [VR] using h
  | .ptr b o, x, h => by simpa [VR] using h
  | .hs b o n sz, x, h => by
    simp only [VR] at h ⊢
    obtain ⟨h0, B, o', cap, hx, ho, hn, ⟨C, e, hC, hs⟩, hu⟩ := h
    exact ⟨h0, B, o', cap, hx, ho, hn, ⟨C, e, k.row B C e hC, hs⟩, hu⟩
  | .vs cs n, x, h => by
    simp only [VR] at h ⊢
    obtain ⟨B, o, cap, hx, hn, hi, hr⟩ := h
    exact ⟨B, o, cap, hx, hn, ⟨by rw [k.size]; exact hi.1, hi.2⟩, VRrow.same k cs B o hr⟩
  | .vp cs, x, h => by
    simp only [VR] at h ⊢
    obtain ⟨B, o, hx, hi, hr⟩ := h
    exact ⟨B, o, hx, ⟨by rw [k.size]; exact hi.1, hi.2⟩, VRrow.same k cs B o hr⟩
  | .mp b, x, h => by simpa [VR] using h
  | .yl b, x, h => by simpa [VR] using h
  | .fn f caps, x, h => by
    simp only [VR] at h ⊢
    obtain ⟨xs, hx, hr⟩ := h
    exact ⟨xs, hx, VRs.same k caps _ hr⟩
  | .agg cs, x, h => by
    simp only [VR] at h ⊢
    obtain ⟨xs, hx, hr⟩ := h
    exact ⟨xs, hx, VRs.same k cs _ hr⟩
  | .tup cs, x, h => by
    simp only [VR] at h ⊢
    obtain ⟨xs, hx, hr⟩ := h
    exact ⟨xs, hx, VRs.same k cs _ hr⟩
theorem VRs.same (k : Cells w w') : ∀ (vs : List V) (xs : List Value), VRs ρ w vs xs → VRs ρ w' vs xs
  | [], xs, h => by simpa [VRs] using h
  | v :: vs, xs, h => by
    simp only [VRs] at h ⊢
    obtain ⟨x, r, hx, h1, h2⟩ := h
    exact ⟨x, r, hx, VR.same k v x h1, VRs.same k vs r h2⟩
theorem VRrow.same (k : Cells w w') : ∀ (vs : List V) (B o : Nat), VRrow ρ w B o vs → VRrow ρ w' B o vs
  | [], _, _, _ => by simp [VRrow]
  | v :: vs, B, o, h => by
    simp only [VRrow] at h ⊢
    obtain ⟨⟨x, hx, h1⟩, h2⟩ := h
    exact ⟨⟨x, (k.cell _).trans hx, VR.same k v x h1⟩, VRrow.same k vs B (o + 1) h2⟩
end

theorem Cells.put {D : Nat} (h : w.heap[D]? = some (.deferred (some []))) : Cells w (w.putObj D (.deferred none)) := by
  have hlt : D < w.heap.size := (Array.getElem?_eq_some_iff.1 h).1
  refine ⟨fun a => ?_, by simp [World.putObj], fun B C e hC => ?_⟩
  · by_cases hD : a.block = D
    · have h1 : (w.putObj D (.deferred none)).heap[a.block]? = some (.deferred none) := by rw [hD]; exact World.putObj_heap_same hlt
      have h2 : w.heap[a.block]? = some (.deferred (some [])) := by rw [hD]; exact h
      simp [World.cell?, h1, h2]
    · have h1 : (w.putObj D (.deferred none)).heap[a.block]? = w.heap[a.block]? := World.putObj_heap_other hD
      simp [World.cell?, h1]
  · by_cases hD : B = D
    · subst hD; rw [h] at hC; cases hC
    · rw [World.putObj_heap_other hD]; exact hC

theorem RowAt.same (k : Cells w w') {B : Nat} {cs : List V} (h : RowAt ρ w B cs) : RowAt ρ w' B cs := by
  obtain ⟨C, e, h1, h2, h3⟩ := h
  exact ⟨C, e, k.row B C e h1, h2, VRs.same k _ _ h3⟩

theorem Marks.unput {n D : Nat} {d : Deferred} (hd : d = { target := .collected D, args := #[] }) : ∀ {ds : List Deferred}, (∀ d' ∈ ds, d' ≠ d) → Marks n ρ w ds → Marks n ρ (w.putObj D (.deferred none)) ds
  | [], _, _ => trivial
  | e :: ds, hne, ⟨⟨D', h0, h1, h2, h3, h4⟩, h⟩ => by
    have hD : D' ≠ D := fun he => hne e (List.mem_cons_self ..) (by rw [h1, hd, he])
    exact ⟨⟨D', h0, h1, ⟨by simp [World.putObj]; exact h2.1, h2.2⟩, (World.putObj_heap_other hD).trans h3, h4⟩, Marks.unput hd (fun d' hd' => hne d' (List.mem_cons_of_mem _ hd')) h⟩

theorem SR.unmark {E : Entry} {β : Nat → Option Nat} {s : St} {t : Array Value} {d : Deferred} {ds : List Deferred} (h : SR E ρ β s ⟨t, d :: ds⟩ w) :
    ∃ D, d.target = .collected D ∧ w.heap[D]? = some (.deferred (some [])) ∧ SR E ρ β s ⟨t, ds⟩ (w.putObj D (.deferred none)) := by
  obtain ⟨⟨D, h0, h1, h2, h3, h4⟩, hm⟩ := h.dfr
  have k := Cells.put h3
  have other : ∀ B, B ≠ D → (w.putObj D (.deferred none)).heap[B]? = w.heap[B]? := fun B hB => World.putObj_heap_other hB
  refine ⟨D, by rw [h1], h3, { h with tmps := fun u => ?_, loc := fun u cs hc => ?_, heap := fun b kb hb => ?_, dfr := Marks.unput h1 h4 hm, size := by rw [k.size]; exact h.size, frame := fun B hB hn => ?_, os := h.os, tape := h.tape, output := h.output, shape := fun B C e hC => ?_ }⟩
  · have := h.tmps u
    cases hx : s.A.get u with
    | v x => rw [hx] at this; exact VR.same k _ _ this
    | lp e o => rw [hx] at this; exact this
  · obtain ⟨B, h5, h6⟩ := h.loc u cs hc
    exact ⟨B, h5, h6.same k⟩
  · obtain ⟨B, h5, h6⟩ := h.heap b kb hb
    refine ⟨B, h5, ?_⟩
    have hne : B ≠ D := fun e => h2.2.2 b (e ▸ h5)
    cases kb with
    | cells cs => exact RowAt.same k h6
    | map es => obtain ⟨C, e, q1, q2, q3⟩ := h6; exact ⟨C, e, (other B hne).trans q1, VRs.same k _ _ q2, VRs.same k _ _ q3⟩
    | loop C st pe ps vs => obtain ⟨r, q1, q2, q3, q4, q5, q6⟩ := h6; exact ⟨r, (other B hne).trans q1, q2, q3, q4, q5, VRs.same k _ _ q6⟩
  · exact (other B (by omega)).trans (h.frame B hB hn)
  · obtain ⟨C', h5, h6⟩ := h.shape B C e hC
    exact ⟨C', k.row B C' e h5, h6⟩
end

section
variable {P : Program}

theorem leaves_marks {f : Func} {ρ0 : Rn} {H : AH} {w0 : World} {s' : St} {rs : List RV} {vs : List V} {t : Array Value} (h2 : compRs P f.results.toList = some rs) (hvs : resVs s' rs = some vs) : ∀ (ds : List Deferred) (w' : World) (ρ' : Rn) (β' : Nat → Option Nat), SR (E0 ρ0 H w0) ρ' β' s' ⟨t, ds⟩ w' →
    LeavesInM Fence.wide 0 P f t (fun e w' => ∃ y ρ', e = .returned y ∧ SR (E0 ρ0 H w0) ρ' (fun _ => none) ⟨[], [], s'.H⟩ ⟨#[], []⟩ w' ∧ VR ρ' w' (resT vs) y) ds .returning w'
  | [], w', ρ', β', hs' => by
    obtain ⟨y, hy, hvr⟩ := results_run (P := P) hs' h2 hvs
    obtain ⟨ρ'', hd, hn', hφ, hk⟩ := hs'.dropAll
    exact ⟨y, hy, y, ρ'', rfl, hd, hk _ _ hvr⟩
  | d :: ds, w', ρ', β', hs' => by
    obtain ⟨D, h3, h4, h5⟩ := hs'.unmark
    exact ⟨by simp, .inl ⟨D, _, h3, run_takeDeferred h4, leaves_marks h2 hvs ds _ ρ' β' h5⟩⟩

theorem fn_of {f N : Nat} {ac : AC} {rs : List RV} {args : List V} {H : AH} {Q : V → AH → Prop} (hf : compF P f = some ⟨N, ac, rs⟩) (hn : args.length ≤ N)
    (h : AWp P none N ac (fun e s' => (e = .normal ∨ e = .ret) ∧ ∃ vs, resVs s' rs = some vs ∧ Q (resT vs) s'.H) ⟨argsA 0 args, [], H⟩) : ∃ v H', FN P f args H v H' ∧ Q v H' := by
  obtain ⟨e, s', hb, he, vs, hvs, hQ⟩ := h
  refine ⟨resT vs, s'.H, ?_, hQ⟩
  simp only [compF] at hf
  split at hf
  · rename_i fn hfn
    split at hf
    · rename_i c hc
      split at hf
      · rename_i ac' rs' h1 h2
        cases hf
        intro ρ w xs hr hxs
        have hwf : WF ⟨argsA 0 args, [], H⟩ := fun n d o hd => by simp [argsA_get] at hd
        have hlen := hxs.length
        refine callsIn_of_wp_marks hfn hc trivial ?_
        refine wpIn_mono ((hb c h1 hwf).2 ⟨E0 ρ H w, fun _ => rfl⟩ ρ (fun _ => none) { tmps := xs.toArray ++ Array.replicate (fn.ntmps - xs.toArray.size) undef, defers := [] } w ?_ (by simp; omega)) ?_
        · refine { hr with tmps := fun t => ?_, loc := fun t cs hc => by simp [Loc.get] at hc, dfr := trivial }
          show TR ρ _ w ((argsA 0 args).get t) _
          rw [argsA_get]
          simp only [Nat.zero_le, if_true, Nat.sub_zero, TR]
          cases hv : args[t]? with
          | none => simp [VR]
          | some v =>
            obtain ⟨x, hx, hvr⟩ := hxs.get t v hv
            have hlt : t < xs.length := (List.getElem?_eq_some_iff.1 hx).1
            simp only [Option.getD_some, Array.getD_eq_getD_getElem?]
            rw [Array.getElem?_append_left (by simpa using hlt)]
            simp only [List.getElem?_toArray, hx, Option.getD_some]
            exact hvr
        · rintro e' a' w' ⟨rfl, hN', ρ', β', hs'⟩
          have fin := leaves_marks (f := fn) (ρ0 := ρ) (H := H) (w0 := w) h2 hvs a'.defers w' ρ' β' hs'
          rcases he with rfl | rfl
          · exact fin
          · exact fin
      · cases hf
    · cases hf
  · cases hf

theorem FN.frz {f : Nat} {args : List V} {H H1 : AH} {v : V} (h : FN P f args H v H1) {b : Nat} {cs : List V} (hb : H1.get b = some (.cells cs)) (v' : V) (hv : v.frz b cs = v' := by simp [V.frz]) : FN P f args H v' (H1.del b) := by
  subst hv
  intro ρ w xs hr hxs
  refine (h ρ w xs hr hxs).mono ?_
  rintro e w' ⟨y, ρ', rfl, hs, hv⟩
  obtain ⟨ρ'', hs', _, hk⟩ := hs.frz hb
  exact ⟨y, ρ'', rfl, hs', hk _ _ hv⟩

theorem FN.quiet {f : Nat} {args : List V} {H H1 : AH} {v : V} (h : FN P f args H v H1) (hsame : ∀ b, b < H.next → H1.get b = H.get b) (hv : v.under H.next) : FN P f args H v H := by
  intro ρ w xs hr hxs
  refine (h ρ w xs hr hxs).mono ?_
  rintro e w' ⟨y, ρ', rfl, hs, hvr⟩
  obtain ⟨hs', hk⟩ := SR.quiet hr hs hsame
  exact ⟨y, _, rfl, hs', hk _ _ hvr hv⟩

/-- A function that touches no memory, and returns a plain value. -/
theorem fn_pure {f : Nat} {args : List Value} {y : Value} (h : ∀ w, CallsIn Fence.wide 0 P f args.toArray w fun e w' => e = .returned y ∧ w' = w) (H : AH) : FN P f (args.map .lit) H (.lit y) H := by
  intro ρ w xs hr hxs
  have : xs = args := by
    clear h hr
    induction args generalizing xs with
    | nil => simpa [VRs] using hxs
    | cons a r ih =>
      simp only [List.map_cons, VRs, VR] at hxs
      obtain ⟨x, r', rfl, rfl, h2⟩ := hxs
      rw [ih r' h2]
  subst this
  refine (h w).mono ?_
  rintro e w' ⟨rfl, rfl⟩
  exact ⟨y, ρ, rfl, hr, by simp [VR]⟩

end
end Iso

/- The abstract layer, eighteenth part: what an instruction reads, changes, and asks: by calculation. Nothing of a program. -/
namespace Iso
open Go Go.RowKit

/-- What is asked; the value; what changes. -/
structure Out where
  c : Prop
  x : T
  e : Eff

def outV (x : Option V) : Option Out := match x with | some v => some ⟨True, .v v, {}⟩ | none => none

def binC (op : BinOp) (k : IntKind) (a b : Int) : Option (Prop × Value) :=
  match op with
  | .quo => some (b ≠ 0, .int k (k.wrap (a.tdiv b)))
  | .rem => some (b ≠ 0, .int k (a.tmod b))
  | .shl => some (0 ≤ b, .int k (k.wrap (a * 2 ^ (min b.toNat k.bits))))
  | .shr => some (0 ≤ b, .int k (a.fdiv (2 ^ (min b.toNat k.bits))))
  | op => match binI op k a b with | some v => some (True, v) | none => none

def fillE (ev : Opd → T) (H : AH) : List (Nat × Nat × Opd) → List V → Option (List V)
  | [], cs => some cs
  | (off, sz, x) :: r, cs =>
    match ev x with
    | .v x => match x.cells? H with
      | some l => if l.length = sz ∧ off + sz ≤ cs.length then fillE ev H r (splice cs off l) else none
      | none => none
    | .lp _ _ => none
def evE (ev : Opd → T) : List Opd → Option (List V)
  | [] => some []
  | o :: r => match ev o with
    | .v x => match evE ev r with | some l => some (x :: l) | none => none
    | .lp _ _ => none

/-- A bound of a slicing: what is asked, and the number. -/
def bdE (ev : Opd → T) (dflt top : Nat) : Option Opd → Option (Prop × Nat)
  | none => some (True, dflt)
  | some x => match ev x with
    | .v (.lit (.int _ i)) => some (0 ≤ i ∧ i ≤ top, i.toNat)
    | _ => none

/-- A number whose place in a row can be seen. -/
def aopE (G : List Nat) (d : Option Nat) (i : I) (ev : Opd → T) (Lg : Nat → Option (List V)) (H : AH) : Option Out :=
  match i with
  | .mv x => match ev x with
    | .v u => some ⟨True, .v u, {}⟩
    | .lp t o => some ⟨True, .lp t o, {}⟩
  | .pick c a b => match ev c with
    | .v (.lit (.bool c)) => match ev a, ev b with
      | .v u, .v v => some ⟨True, .v (match c with | true => u | false => v), {}⟩
      | _, _ => none
    | _ => none
  | .new z => match d with
    | none => none
    | some d => match G.contains d with
      | true => some ⟨True, .v (.ptr H.next 0), { heap := some (H.push (.cells z)) }⟩
      | false => match Lg d with
        | none => some ⟨True, .lp d 0, { slot := some (d, some z) }⟩
        | some _ => none
  | .box x => match d, ev x with
    | some d, .v x => match x.cells? H with
      | some z => match G.contains d with
        | true => some ⟨True, .v (.ptr H.next 0), { heap := some (H.push (.cells z)) }⟩
        | false => match Lg d with
          | none => some ⟨True, .lp d 0, { slot := some (d, some z) }⟩
          | some _ => none
      | none => none
    | _, _ => none
  | .bld z ps => match fillE ev H ps z with
    | some cs => some ⟨True, .v (.agg cs), {}⟩
    | none => none
  | .bsl n sz z ps => match fillE ev H ps (rep z n) with
    | some cs => match d with
      | none => none
      | some d => match G.contains d with
        | true => some ⟨True, .v (.hs H.next 0 n sz), { heap := some (H.push (.cells cs)) }⟩
        | false => some ⟨True, .v (.vs cs n), {}⟩
    | none => none
  | .ld ag sz x => match ev x with
    | .lp t o => match Lg t with | some cs => outV (rd ag sz (cs.drop o)) | none => none
    | .v (.ptr b o) => match H.get b with | some (.cells cs) => outV (rd ag sz (cs.drop o)) | _ => none
    | .v (.vp cs) => outV (rd ag sz cs)
    | _ => none
  | .st sz a x => match ev x with
    | .v x => match x.cells? H with
      | some l => match ev a with
        | .lp t o => match Lg t with
          | some cs => some ⟨l.length = sz ∧ o + sz ≤ cs.length, .v .any, { slot := some (t, some (splice cs o l)) }⟩
          | none => none
        | .v (.ptr b o) => match H.get b with
          | some (.cells cs) => some ⟨l.length = sz ∧ o + sz ≤ cs.length, .v .any, { heap := some (H.set b (.cells (splice cs o l))) }⟩
          | _ => none
        | _ => none
      | none => none
    | _ => none
  | .nck x => match ev x with
    | .lp t o => match Lg t with | some _ => some ⟨True, .lp t o, {}⟩ | none => none
    | .v (.ptr b o) => some ⟨True, .v (.ptr b o), {}⟩
    | .v (.vp cs) => some ⟨True, .v (.vp cs), {}⟩
    | .v (.fn f cs) => some ⟨True, .v (.fn f cs), {}⟩
    | _ => none
  | .bin op x y => match ev x, ev y with
    | .v (.lit (.int k a)), .v (.lit (.int k' b)) => match isSh op || k == k' with
      | true => match binC op k a b with | some (c, v) => some ⟨c, .v (.lit v), {}⟩ | none => none
      | false => none
    | _, _ => none
  | .eqc neg ks x y => match ev x, ev y with
    | .v (.agg xs), .v (.agg ys) => match eqVs ks xs ys with
      | some b => some ⟨True, .v (.lit (.bool (if neg then !b else b))), {}⟩
      | none => none
    | _, _ => none
  | .eqb neg x y => match ev x, ev y with
    | .v (.lit (.bool a)), .v (.lit (.bool b)) => some ⟨True, .v (.lit (.bool (if neg then !(a == b) else a == b))), {}⟩
    | _, _ => none
  | .eqn neg x y => match ev x, ev y with
    | .v x, .v y => match eqN H x y with
      | some b => some ⟨True, .v (.lit (.bool (if neg then !b else b))), {}⟩
      | none => none
    | _, _ => none
  | .un op x => match ev x with
    | .v x => outV (unV op x)
    | _ => none
  | .cv k x => match ev x with
    | .v (.lit (.int _ n)) => some ⟨True, .v (.lit (.int k (k.wrap n))), {}⟩
    | _ => none
  | .mkf f caps => match evE ev caps with
    | some l => some ⟨True, .v (.fn f l), {}⟩
    | none => none
  | .mkm => some ⟨True, .v (.mp H.next), { heap := some (H.push (.map [])) }⟩
  | .mks sz bytes z l c => match ev l, ev c with
    | .v (.lit (.int .i64 l)), .v (.lit (.int .i64 c)) =>
      some ⟨0 ≤ l ∧ l ≤ c ∧ bytes * c ≤ 2 ^ 47 ∧ c ≤ 2 ^ 47, .v (.hs H.next 0 l.toNat sz), { heap := some (H.push (.cells (rep z c.toNat))) }⟩
    | _, _ => none
  | .sls sz x lo hi => match ev x with
    | .v x => match slLen x with
      | some n => match bdE ev n n hi with
        | some (c1, h) => match bdE ev 0 h lo with
          | some (c2, l) => match slV H sz l h x with
            | some v => some ⟨c1 ∧ c2, .v v, {}⟩
            | none => none
          | none => none
        | none => none
      | none => none
    | _ => none
  | .sla n sz x lo hi => match bdE ev n n hi with
    | some (c1, h) => match bdE ev 0 h lo with
      | some (c2, l) => match ev x with
        | .lp t o => match Lg t with
          | some cs => some ⟨c1 ∧ c2 ∧ o + n * sz ≤ cs.length, .v (.vs ((cs.drop (o + l * sz)).take ((h - l) * sz)) (h - l)), { kill := some t, slot := some (t, none) }⟩
          | none => none
        | .v (.ptr b o) => match H.get b with
          | some (.cells cs) => some ⟨c1 ∧ c2 ∧ o + n * sz ≤ cs.length, .v (.hs b (o + l * sz) (h - l) sz), {}⟩
          | _ => none
        | .v (.vp cs) => some ⟨c1 ∧ c2 ∧ n * sz ≤ cs.length, .v (.vs ((cs.drop (l * sz)).take ((h - l) * sz)) (h - l)), {}⟩
        | _ => none
      | none => none
    | none => none
  | .fad off x => match ev x with
    | .lp t o => match Lg t with | some _ => some ⟨True, .lp t (o + off), {}⟩ | none => none
    | .v (.ptr b o) => some ⟨True, .v (.ptr b (o + off)), {}⟩
    | .v (.vp cs) => some ⟨True, .v (.vp (cs.drop off)), {}⟩
    | _ => none
  | .iad sz x i => match ev x, ev i with
    | .v (.hs b o n s'), .v (.lit (.int _ i)) => some ⟨0 ≤ i ∧ i < n ∧ s' = sz, .v (.ptr b (o + i.toNat * sz)), {}⟩
    | .v (.vs cs n), .v (.lit (.int _ i)) => some ⟨0 ≤ i ∧ i < n, .v (.vp (cs.drop (i.toNat * sz))), {}⟩
    | _, _ => none
  | .iaa n sz x i => match ev x, ev i with
    | .lp t o, .v (.lit (.int _ i)) => match Lg t with | some _ => some ⟨0 ≤ i ∧ i < n, .lp t (o + i.toNat * sz), {}⟩ | none => none
    | .v (.ptr b o), .v (.lit (.int _ i)) => some ⟨0 ≤ i ∧ i < n, .v (.ptr b (o + i.toNat * sz)), {}⟩
    | .v (.vp cs), .v (.lit (.int _ i)) => some ⟨0 ≤ i ∧ i < n, .v (.vp (cs.drop (i.toNat * sz))), {}⟩
    | _, _ => none
  | .ixa n sz ag x i => match ev x, ev i with
    | .v (.agg cs), .v (.lit (.int _ i)) => match rd ag sz (cs.drop (i.toNat * sz)) with
      | some v => some ⟨0 ≤ i ∧ i < n, .v v, {}⟩
      | none => none
    | _, _ => none
  | .fld off sz ag x => match ev x with
    | .v (.agg cs) => outV (rd ag sz (cs.drop off))
    | _ => none
  | .ixs bs i => match ev i with
    | .v (.lit (.int _ i)) => match (bs[i.toNat]?).map fun (b : Nat) => V.lit (.int .u8 (b : Int)) with
      | some v => some ⟨0 ≤ i, .v v, {}⟩
      | none => none
    | _ => none
  | .lku kk z ok m k => match ev m, ev k with
    | .v (.mp b), .v k => match H.get b with
      | some (.map es) => match mfind kk k es with
        | some r => some ⟨plainKey kk k = true, .v (if ok then .tup [r.getD z, .lit (.bool r.isSome)] else r.getD z), {}⟩
        | none => none
      | _ => none
    | _, _ => none
  | .mup kk m k x => match ev m, ev k, ev x with
    | .v (.mp b), .v k, .v x => match H.get b with
      | some (.map es) => match mput kk k x es with
        | some es' => some ⟨plainKey kk k = true, .v .any, { heap := some (H.set b (.map es')) }⟩
        | none => none
      | _ => none
    | _, _, _ => none
  | .ext x i => match ev x with
    | .v (.tup xs) => outV xs[i]?
    | _ => none
  | .len x => match ev x with
    | .v (.hs _ _ n _) => some ⟨True, .v (.lit (.int .i64 n)), {}⟩
    | .v (.vs _ n) => some ⟨True, .v (.lit (.int .i64 n)), {}⟩
    | .v (.lit (.slice _ 0 0)) => some ⟨True, .v (.lit (.int .i64 0)), {}⟩
    | _ => none
  | .lenm x => match ev x with
    | .v (.mp b) => match H.get b with
      | some (.map es) => some ⟨True, .v (.lit (.int .i64 es.length)), {}⟩
      | _ => none
    | .v (.lit (.map none)) => some ⟨True, .v (.lit (.int .i64 0)), {}⟩
    | _ => none
  | .mnx mx xs => match evE ev xs with
    | some (.lit (.int k a) :: r) => outV (mnV mx (.lit (.int k a)) r)
    | _ => none
  | .app sz bytes x y => match ev x, ev y with
    | .v x, .v y => match slLen y, slCells H sz y with
      | some m, some news => match x with
        | .lit (.slice none 0 0) => some ⟨V.ones H news = true ∧ m ≠ 0 ∧ m * bytes ≤ 2 ^ 47 ∧ m ≤ 2 ^ 47, .v (.hs H.next 0 m sz), { heap := some (H.push (.cells news)) }⟩
        | .hs b o n s' => match H.get b with
          | some (.cells cs) => some ⟨V.ones H news = true ∧ s' = sz ∧ o = 0 ∧ n * sz ≤ cs.length ∧ m ≠ 0 ∧ (n + m) * bytes ≤ 2 ^ 47 ∧ n + m ≤ 2 ^ 47,
              .v (.hs H.next 0 (n + m) sz), { heap := some ((H.del b).push (.cells (cs.take (n * sz) ++ news))) }⟩
          | _ => none
        | _ => none
      | _, _ => none
    | _, _ => none
  | .cpy sz x y => match ev x, ev y with
    | .v (.hs b o n s'), .v y => match slLen y, slCells H sz y, H.get b with
      | some m, some news, some (.cells cs) =>
        some ⟨V.ones H news = true ∧ s' = sz ∧ o + n * sz ≤ cs.length, .v (.lit (.int .i64 (min m n : Nat))), { heap := some (H.set b (.cells (splice cs o (news.take (min m n * sz))))) }⟩
      | _, _, _ => none
    | _, _ => none
  | .dele kk m k => match ev m, ev k with
    | .v (.mp b), .v k => match H.get b with
      | some (.map es) => match mdel kk k es with
        | some es' => some ⟨plainKey kk k = true, .v .any, { heap := some (H.set b (.map es')) }⟩
        | none => none
      | _ => none
    | _, _ => none
  | .adc x y c => match ev x, ev y, ev c with
    | .v (.lit (.int .u64 x)), .v (.lit (.int .u64 y)), .v (.lit (.int .u64 c)) =>
      some ⟨0 ≤ x ∧ 0 ≤ y ∧ 0 ≤ c ∧ c ≤ 1, .v (.tup [.lit (.int .u64 ((x + y + c) % 18446744073709551616)), .lit (.int .u64 ((x + y + c) / 18446744073709551616))]), {}⟩
    | _, _, _ => none
  | .sbb x y c => match ev x, ev y, ev c with
    | .v (.lit (.int .u64 x)), .v (.lit (.int .u64 y)), .v (.lit (.int .u64 c)) =>
      some ⟨0 ≤ x ∧ 0 ≤ y ∧ 0 ≤ c ∧ c ≤ 1 ∧ x < 18446744073709551616 ∧ y < 18446744073709551616, .v (.tup [.lit (.int .u64 ((x - y - c) % 18446744073709551616)), .lit (.int .u64 (if x < y + c then 1 else 0))]), {}⟩
    | _, _, _ => none
  | .call _ _ | .callv _ _ => none

def partOpds : List (Nat × Nat × Opd) → List Opd
  | [] => []
  | (_, _, x) :: r => x :: partOpds r
def optOpds : Option Opd → List Opd
  | none => []
  | some x => [x]
def I.opds : I → List Opd
  | .mv x | .box x | .ld _ _ x | .nck x | .un _ x | .cv _ x | .fad _ x | .fld _ _ _ x | .ixs _ x | .ext x _ | .len x | .lenm x => [x]
  | .pick c a b => [c, a, b]
  | .new _ | .mkm => []
  | .bld _ ps | .bsl _ _ _ ps => partOpds ps
  | .st _ x y | .bin _ x y | .eqc _ _ x y | .eqb _ x y | .eqn _ x y | .mks _ _ _ x y | .iad _ x y | .iaa _ _ x y | .ixa _ _ _ x y | .lku _ _ _ x y | .app _ _ x y | .cpy _ x y | .dele _ x y => [x, y]
  | .mkf _ xs | .mnx _ xs | .call _ xs => xs
  | .sls _ x lo hi | .sla _ _ x lo hi => x :: (optOpds lo ++ optOpds hi)
  | .mup _ x y z | .adc x y z | .sbb x y z => [x, y, z]
  | .callv f xs => f :: xs

def lpSlots (A : Env) : List Opd → List Nat
  | [] => []
  | x :: r => match x.ev A with
    | .lp t _ => t :: lpSlots A r
    | .v _ => lpSlots A r
def newSlot : I → Option Nat → List Nat
  | .new _, some d => [d]
  | .box _, some d => [d]
  | _, _ => []

section
variable {P : Program} {l : Option Nat} {N : Nat} {A : Env} {L : Loc} {H : AH} {G : List Nat}

theorem fillE_congr {ev ev' : Opd → T} {H : AH} : ∀ {ps : List (Nat × Nat × Opd)} {cs : List V}, (∀ x ∈ partOpds ps, ev x = ev' x) → fillE ev H ps cs = fillE ev' H ps cs
  | [], _, _ => rfl
  | (off, sz, x) :: r, cs, h => by
    have ih := fun cs => fillE_congr (H := H) (ps := r) (cs := cs) fun y hy => h y (List.mem_cons_of_mem _ hy)
    simp only [fillE, h x (List.mem_cons_self ..), ih]
theorem evE_congr {ev ev' : Opd → T} : ∀ {xs : List Opd}, (∀ x ∈ xs, ev x = ev' x) → evE ev xs = evE ev' xs
  | [], _ => rfl
  | x :: r, h => by
    simp only [evE, h x (List.mem_cons_self ..), evE_congr fun y hy => h y (List.mem_cons_of_mem _ hy)]
theorem bdE_congr {ev ev' : Opd → T} {d t : Nat} : ∀ {x : Option Opd}, (∀ y ∈ optOpds x, ev y = ev' y) → bdE ev d t x = bdE ev' d t x
  | none, _ => rfl
  | some x, h => by simp only [bdE, h x (by simp [optOpds])]

theorem aopE_congr {d : Option Nat} {i : I} {ev ev' : Opd → T} {Lg Lg' : Nat → Option (List V)} (h : ∀ x ∈ i.opds, ev x = ev' x)
    (hL : ∀ x ∈ i.opds, ∀ t o, ev x = .lp t o → Lg t = Lg' t) (hN : ∀ t ∈ newSlot i d, Lg t = Lg' t) : aopE G d i ev Lg H = aopE G d i ev' Lg' H := by
  cases i
  case new z =>
    cases d with
    | none => rfl
    | some d => simp only [aopE]; rw [hN d (by simp [newSlot])]
  case box x =>
    simp only [aopE]
    rw [h x (by simp [I.opds])]
    cases d with
    | none => rfl
    | some d =>
      have hd := hN d (by simp [newSlot])
      cases ev' x with
      | lp t o => rfl
      | v u => simp only [hd]
  case bld z ps => simp only [aopE, fillE_congr (H := H) (ps := ps) h]
  case bsl n sz z ps => simp only [aopE, fillE_congr (H := H) (ps := ps) h]
  case mkf f xs => simp only [aopE, evE_congr (xs := xs) h]
  case mnx m xs => simp only [aopE, evE_congr (xs := xs) h]
  case ld ag sz x =>
    have hx := h x (by simp [I.opds])
    have hl := hL x (by simp [I.opds])
    simp only [aopE]
    rw [← hx]
    cases he : ev x with
    | v u => cases u <;> rfl
    | lp t o => simp only [hl t o he]
  case nck x =>
    have hx := h x (by simp [I.opds])
    have hl := hL x (by simp [I.opds])
    simp only [aopE]
    rw [← hx]
    cases he : ev x with
    | v u => cases u <;> rfl
    | lp t o => simp only [hl t o he]
  case fad off x =>
    have hx := h x (by simp [I.opds])
    have hl := hL x (by simp [I.opds])
    simp only [aopE]
    rw [← hx]
    cases he : ev x with
    | v u => cases u <;> rfl
    | lp t o => simp only [hl t o he]
  case st sz x y =>
    have hx := h x (by simp [I.opds])
    have hl := hL x (by simp [I.opds])
    simp only [aopE]
    rw [← hx, ← h y (by simp [I.opds])]
    cases he : ev x with
    | v u => cases u <;> rfl
    | lp t o => simp only [hl t o he]
  case iaa n sz x y =>
    have hx := h x (by simp [I.opds])
    have hl := hL x (by simp [I.opds])
    simp only [aopE]
    rw [← hx, ← h y (by simp [I.opds])]
    cases he : ev x with
    | v u =>
      generalize ev y = q
      cases u <;> first
        | rfl
        | (cases q with
          | lp t o => rfl
          | v z => cases z <;> first
            | rfl
            | (rename_i w; cases w <;> rfl))
    | lp t o =>
      have hh := hl t o he
      generalize ev y = q
      cases q with
      | lp t o => rfl
      | v z => cases z <;> first
        | rfl
        | (rename_i w; cases w <;> first | rfl | simp only [hh])
  case sla n sz x lo hi =>
    have hx := h x (by simp [I.opds])
    have hl := hL x (by simp [I.opds])
    have b1 := fun d t => bdE_congr (d := d) (t := t) (x := lo) (ev := ev) (ev' := ev') (fun y hy => h y (by simp [I.opds, hy]))
    have b2 := fun d t => bdE_congr (d := d) (t := t) (x := hi) (ev := ev) (ev' := ev') (fun y hy => h y (by simp [I.opds, hy]))
    simp only [aopE, b1, b2]
    rw [← hx]
    cases he : ev x with
    | v u => cases u <;> rfl
    | lp t o => simp only [hl t o he]
  case sls sz x lo hi =>
    have b1 := fun d t => bdE_congr (d := d) (t := t) (x := lo) (ev := ev) (ev' := ev') (fun y hy => h y (by simp [I.opds, hy]))
    have b2 := fun d t => bdE_congr (d := d) (t := t) (x := hi) (ev := ev) (ev' := ev') (fun y hy => h y (by simp [I.opds, hy]))
    simp only [aopE, b1, b2]
    rw [h x (by simp [I.opds])]
  case mkm => rfl
  case call f xs => rfl
  case callv f xs => rfl
  all_goals first
    | (rename_i x y z; simp only [aopE]; rw [h x (by simp [I.opds]), h y (by simp [I.opds]), h z (by simp [I.opds])]; done)
    | (rename_i x y z; simp only [aopE, h x (by simp [I.opds]), h y (by simp [I.opds]), h z (by simp [I.opds])]; done)
    | (rename_i x y; simp only [aopE]; rw [h x (by simp [I.opds]), h y (by simp [I.opds])]; done)
    | (rename_i x y; simp only [aopE]; rw [h x (by simp [I.opds])]; done)
    | (rename_i x; simp only [aopE]; rw [h x (by simp [I.opds])]; done)

theorem evE_evs : ∀ {xs : List Opd} {l : List V}, evE (·.ev A) xs = some l → evs A xs = some l
  | [], l, h => h
  | x :: r, l, h => by
    simp only [evE] at h
    simp only [evs]
    split at h
    · rename_i u hu
      split at h
      · rename_i l' hl
        rw [hu, evE_evs hl]
        exact h
      · cases h
    · cases h
theorem fillE_fillA : ∀ {ps : List (Nat × Nat × Opd)} {cs r : List V}, fillE (·.ev A) H ps cs = some r → fillA A H ps cs = some r
  | [], cs, r, h => h
  | (off, sz, x) :: ps, cs, r, h => by
    simp only [fillE] at h
    simp only [fillA]
    split at h
    · rename_i u hu
      rw [hu]
      split at h
      · rename_i l hl
        simp only [hl]
        split at h
        · rename_i hc; rw [if_pos hc]; exact fillE_fillA h
        · cases h
      · cases h
    · cases h
theorem bdE_bound {d t : Nat} {x : Option Opd} {c : Prop} {n : Nat} (h : bdE (·.ev A) d t x = some (c, n)) (hc : c) : bound A d t x = some n := by
  cases x with
  | none => simp [bdE] at h; simp [bound, h.2]
  | some x =>
    simp only [bdE] at h
    split at h
    · rename_i k i hi
      cases h
      simp only [bound, hi]
      rw [if_pos hc]
    · cases h

theorem binC_spec {op : BinOp} {k : IntKind} {a b : Int} {c : Prop} {v : Value} (h : binC op k a b = some (c, v)) (hc : c) : (isSh op = true → shI op k a b = some v) ∧ (isSh op = false → binI op k a b = some v) := by
  cases op
  case quo => simp only [binC] at h; cases h; exact ⟨fun h => by simp [isSh] at h, fun _ => by simp [binI, hc]⟩
  case rem => simp only [binC] at h; cases h; exact ⟨fun h => by simp [isSh] at h, fun _ => by simp [binI, hc]⟩
  case shl => simp only [binC] at h; cases h; exact ⟨fun _ => by simp only [shI]; rw [if_neg (by omega)], fun h => by simp [isSh] at h⟩
  case shr => simp only [binC] at h; cases h; exact ⟨fun _ => by simp only [shI]; rw [if_neg (by omega)], fun h => by simp [isSh] at h⟩
  all_goals
    simp only [binC] at h
    split at h
    · rename_i v' hv; cases h; exact ⟨fun h => by simp [isSh] at h, fun _ => hv⟩
    · cases h

theorem outV_some {x : Option V} {o : Out} (h : outV x = some o) : ∃ v, x = some v ∧ o = ⟨True, .v v, {}⟩ := by
  cases x with
  | none => cases h
  | some v => cases h; exact ⟨v, rfl, rfl⟩

theorem aopE_aop {d : Option Nat} {i : I} {o : Out} (h : aopE G d i (·.ev A) L.get H = some o) (hc : o.c) :
    ∃ k, aop G d i ⟨A, L, H⟩ = some (o.x, ⟨killA k A, slotL o.e.slot L, o.e.heap.getD H⟩) ∧ (k = o.e.kill ∨ ∃ e, k = some e ∧ L.get e = none ∧ o.e.kill = none) := by
  cases i
  case new z =>
    cases d with
    | none => simp [aopE] at h
    | some d =>
      simp only [aopE] at h
      simp only [aop]
      cases hG : G.contains d with
      | true =>
        simp only [hG] at h; cases h
        exact ⟨none, by simp [killA, slotL], .inl rfl⟩
      | false =>
        simp only [hG] at h
        split at h
        · rename_i hn; cases h; exact ⟨some d, by simp [killA, slotL], .inr ⟨d, rfl, hn, rfl⟩⟩
        · cases h
  case box x =>
    cases d with
    | none => simp [aopE] at h
    | some d =>
      simp only [aopE] at h
      simp only [aop]
      split at h
      · rename_i d' x hd hx
        cases hd
        rw [hx]
        split at h
        · rename_i z hz
          simp only [hz]
          cases hG : G.contains d with
          | true =>
            simp only [hG] at h; cases h
            exact ⟨none, by simp [killA, slotL], .inl rfl⟩
          | false =>
            simp only [hG] at h
            split at h
            · rename_i hn; cases h; exact ⟨some d, by simp [killA, slotL], .inr ⟨d, rfl, hn, rfl⟩⟩
            · cases h
        · cases h
      · cases h
  all_goals refine ⟨o.e.kill, ?_, .inl rfl⟩
  all_goals simp only [aopE] at h
  all_goals simp only [aop]
  case bin op x y =>
    split at h
    · rename_i k a k' b hx hy
      rw [hx, hy]
      split at h
      · rename_i hk
        split at h
        · rename_i c v hb
          cases h
          have hb' := binC_spec hb hc
          simp only [binV]
          cases hsh : isSh op with
          | true =>
            rw [if_pos rfl, hb'.1 hsh]
            rfl
          | false =>
            have hk' : k = k' := by simpa [hsh] using hk
            subst hk'
            rw [if_neg (by simp), if_pos rfl, hb'.2 hsh]
            rfl
        · cases h
      · cases h
    · cases h
  case bld z ps =>
    split at h
    · rename_i cs hcs; cases h; rw [fillE_fillA hcs]; rfl
    · cases h
  case bsl n sz z ps =>
    split at h
    · rename_i cs hcs
      rw [fillE_fillA hcs]
      cases d with
      | none => cases h
      | some d =>
        cases hG : G.contains d with
        | true => simp only [hG] at h; cases h; simp only [hG, if_true]; rfl
        | false => simp only [hG] at h; cases h; simp only [hG, Bool.false_eq_true, if_false]; rfl
    · cases h
  case mkf f xs =>
    split at h
    · rename_i cs hcs; cases h; rw [evE_evs hcs]; rfl
    · cases h
  case mnx m xs =>
    split at h
    · rename_i k a r hcs
      obtain ⟨v, hv, rfl⟩ := outV_some h
      rw [evE_evs hcs]
      simp only [hv, vres, Option.map_some, killA, slotL, Option.getD_none]
    · cases h
  case sls sz x lo hi =>
    split at h
    · rename_i u hu
      split at h
      · rename_i n hn
        split at h
        · rename_i c1 hh hb1
          split at h
          · rename_i c2 ll hb2
            split at h
            · rename_i v hv
              cases h
              rw [hu]
              simp only [hn, bdE_bound hb1 hc.1, bdE_bound hb2 hc.2, hv, vres, Option.map_some, killA, slotL, Option.getD_none]
            · cases h
          · cases h
        · cases h
      · cases h
    · cases h
  case sla n sz x lo hi =>
    split at h
    · rename_i c1 hh hb1
      split at h
      · rename_i c2 ll hb2
        have fin : c1 ∧ c2 := by
          (repeat' split at h) <;> first | (cases h; exact ⟨hc.1, hc.2.1⟩) | cases h
        rw [bdE_bound hb1 fin.1]
        simp only []
        rw [bdE_bound hb2 fin.2]
        simp only []
        split at h
        · rename_i t o ht
          rw [ht]
          split at h
          · rename_i cs hcs; cases h; simp only [hcs, if_pos hc.2.2, killA, slotL, Option.getD_none]
          · cases h
        · rename_i b o ht
          rw [ht]
          split at h
          · rename_i cs hcs; cases h; simp only [hcs, if_pos hc.2.2, killA, slotL, Option.getD_none]
          · cases h
        · rename_i cs ht
          rw [ht]
          cases h; simp only [if_pos hc.2.2, killA, slotL, Option.getD_none]
        · cases h
      · cases h
    · cases h
  case mks sz bytes z x y =>
    split at h
    · rename_i i j hi hj
      cases h
      rw [hi, hj]
      simp only []
      rw [if_pos hc]
      rfl
    · cases h
  all_goals (repeat' split at h)
  all_goals first
    | (cases h; done)
    | (obtain ⟨v, hv, rfl⟩ := outV_some h; simp [*, vres, killA, slotL]; done)
    | (cases h; simp only at hc; simp [*, vres, killA, slotL]; done)
    | (cases h; simp [*, vres, killA, slotL]; done)

end
end Iso

/- The abstract layer, nineteenth part: instructions as steps of a walk. Nothing of a program. -/
namespace Iso
open Go Go.RowKit

section
variable {P : Program} {l : Option Nat} {N : Nat} {A : Env} {L : Loc} {H : AH} {G : List Nat}

theorem aopE_facts {d : Option Nat} {i : I} {o : Out} (h : aopE G d i (·.ev A) L.get H = some o) (hwf : WF ⟨A, L, H⟩) :
    (∀ t p, o.x = .lp t p → ((slotL o.e.slot L).get t).isSome = true) ∧ (∀ t z, o.e.slot = some (t, z) → z.isSome = true ∨ o.e.kill = some t) := by
  have hev : ∀ (x : Opd) t p, x.ev A = .lp t p → (L.get t).isSome = true := fun x t p hx => by
    cases x with
    | t n => exact hwf n t p hx
    | k v => cases hx
  have hput : ∀ (t : Nat) (z : List V), ((slotL (some (t, some z)) L).get t).isSome = true := fun t z => by simp [slotL_get]
  cases i
  all_goals simp only [aopE] at h
  all_goals (repeat' split at h)
  all_goals first
    | (cases h; done)
    | (obtain ⟨v, hv, rfl⟩ := outV_some h; refine ⟨fun t p hx => ?_, fun t z hz => ?_⟩ <;> first | (cases hx; done) | (cases hz; done))
    | (cases h; refine ⟨fun t p hx => ?_, fun t z hz => ?_⟩ <;> first
        | (cases hx; done)
        | (cases hz; done)
        | (cases hx; exact hput _ _)
        | (cases hx; exact hev _ _ _ (by assumption))
        | (cases hz; exact .inl rfl)
        | (cases hz; exact .inr rfl)
        | (cases hx; simp [slotL, *]; done))

theorem mem_opdTmps {x : Opd} : ∀ {os : List Opd}, x ∈ os → ∀ n ∈ opdTmps [x], n ∈ opdTmps os
  | [], h, _, _ => by cases h
  | y :: r, h, n, hn => by
    rcases List.mem_cons.1 h with rfl | h
    · cases x with
      | t m => simp [opdTmps] at hn ⊢; exact .inl hn
      | k v => simp [opdTmps] at hn
    · have := mem_opdTmps h n hn
      cases y with
      | t m => simp [opdTmps, this]
      | k v => simpa [opdTmps] using this
theorem mem_lpSlots {x : Opd} {t p : Nat} : ∀ {os : List Opd}, x ∈ os → x.ev A = .lp t p → t ∈ lpSlots A os
  | [], h, _ => by cases h
  | y :: r, h, hx => by
    simp only [lpSlots]
    rcases List.mem_cons.1 h with rfl | h
    · rw [hx]; simp
    · have := mem_lpSlots h hx
      split
      · exact List.mem_cons_of_mem _ this
      · exact this

theorem gi_of {d : Option Nat} {i : I} {c : Prop} {x : T} {e : Eff} {hp : Bool} (hc : c) (hh : ∀ H', (hp = true → H' = H) → aopE G d i (·.ev A) L.get H' = some ⟨c, x, e⟩) :
    GoodI P l N d i ⟨d, x, { tmps := opdTmps i.opds, slots := lpSlots A i.opds ++ newSlot i d, heap := hp }, e⟩ ⟨A, L, H⟩ := by
  refine goodI_of_aop (G := G) rfl fun t ht hwf => ?_
  obtain ⟨A', L', H'⟩ := t
  have hev : ∀ y ∈ i.opds, (fun o : Opd => o.ev A) y = (fun o : Opd => o.ev A') y := fun y hy =>
    (ev_agree (s := ⟨A, L, H⟩) (t := ⟨A', L', H'⟩) fun n hn => ht.A n (mem_opdTmps hy n hn)).symm
  have hE : aopE G d i (·.ev A') L'.get H' = some ⟨c, x, e⟩ := by
    rw [← aopE_congr hev (Lg := L.get) (fun y hy t p hp => ht.L t (List.mem_append_left _ (mem_lpSlots hy hp))) (fun t hn => ht.L t (List.mem_append_right _ hn))]
    exact hh H' fun hp => (ht.H hp).symm
  obtain ⟨hw1, hw2⟩ := aopE_facts hE hwf
  refine ⟨fun n t p hn => ?_, ?_⟩
  · simp only [It.app, Env.get_put?, killA_get] at hn ⊢
    split at hn
    · exact hw1 t p hn
    · rw [slotL_get]
      cases hs : e.slot with
      | none =>
        cases hk : e.kill with
        | none => rw [hk] at hn; exact hwf n t p hn
        | some u => rw [hk] at hn; exact hwf n t p (T.kill_lp hn).1
      | some q =>
        obtain ⟨u, z⟩ := q
        simp only
        split
        · rename_i htu
          rcases hw2 u z hs with h1 | h1
          · exact h1
          · simp only at h1
            rw [h1] at hn
            exact absurd htu (T.kill_lp hn).2
        · cases hk : e.kill with
          | none => rw [hk] at hn; exact hwf n t p hn
          | some u => rw [hk] at hn; exact hwf n t p (T.kill_lp hn).1
  · obtain ⟨k, h1, h2⟩ := aopE_aop hE hc
    refine ⟨_, h1, fun n => ?_, fun d => rfl, rfl⟩
    simp only [It.app, Env.get_put?, killA_get]
    split
    · rfl
    · rcases h2 with rfl | ⟨u, rfl, hu, hk⟩
      · rfl
      · simp only at hk
        simp only [hk]
        cases hx : Env.get A' n with
        | v x => rfl
        | lp t p =>
          simp only [T.kill]
          rw [if_neg]
          rintro rfl
          have := hwf n t p hx
          rw [hu] at this; cases this

/-- A step that doesn't look at the heap. -/
theorem gi_p {d : Option Nat} {i : I} {c : Prop} {x : T} {e : Eff} (hh : ∀ H, aopE G d i (·.ev A) L.get H = some ⟨c, x, e⟩) (hc : c) :
    GoodI P l N d i ⟨d, x, { tmps := opdTmps i.opds, slots := lpSlots A i.opds ++ newSlot i d, heap := false }, e⟩ ⟨A, L, H⟩ := gi_of hc fun H' _ => hh H'
/-- Any step. -/
theorem gi_h {d : Option Nat} {i : I} {c : Prop} {x : T} {e : Eff} (hh : aopE G d i (·.ev A) L.get H = some ⟨c, x, e⟩) (hc : c) :
    GoodI P l N d i ⟨d, x, { tmps := opdTmps i.opds, slots := lpSlots A i.opds ++ newSlot i d, heap := true }, e⟩ ⟨A, L, H⟩ := gi_of hc fun H' h => by rw [h rfl]; exact hh

/-! ### The walk's rules, as they are used -/
section
variable {R : List It → St → Prop} {acc : List It} {r : List CI} {d : Option Nat} {i : I} {c : Prop} {x : T} {e : Eff}
theorem rw_p (hh : ∀ H, aopE [] d i (fun o => o.ev A) L.get H = some ⟨c, x, e⟩) (hc : c)
    (k : RW P l N r (acc ++ [⟨d, x, { tmps := opdTmps i.opds, slots := lpSlots A i.opds ++ newSlot i d, heap := false }, e⟩]) R ⟨(killA e.kill A).put? d x, slotL e.slot L, e.heap.getD H⟩) : RW P l N (⟨d, none, i⟩ :: r) acc R ⟨A, L, H⟩ :=
  rw_step (gi_p hh hc) k
theorem rw_h (G : List Nat) (hh : aopE G d i (fun o => o.ev A) L.get H = some ⟨c, x, e⟩) (hc : c)
    (k : RW P l N r (acc ++ [⟨d, x, { tmps := opdTmps i.opds, slots := lpSlots A i.opds ++ newSlot i d, heap := true }, e⟩]) R ⟨(killA e.kill A).put? d x, slotL e.slot L, e.heap.getD H⟩) : RW P l N (⟨d, none, i⟩ :: r) acc R ⟨A, L, H⟩ :=
  rw_step (gi_h hh hc) k
theorem rw_pg {g : Nat} {want : Bool} (hg : A.get g = .v (.lit (.bool want))) (hh : ∀ H, aopE [] d i (fun o => o.ev A) L.get H = some ⟨c, x, e⟩) (hc : c)
    (k : RW P l N r (acc ++ [⟨d, x, { tmps := g :: opdTmps i.opds, slots := lpSlots A i.opds ++ newSlot i d, heap := false }, e⟩]) R ⟨(killA e.kill A).put? d x, slotL e.slot L, e.heap.getD H⟩) : RW P l N (⟨d, some (g, want), i⟩ :: r) acc R ⟨A, L, H⟩ :=
  rw_gstep hg (gi_p hh hc) k
theorem rw_hg (G : List Nat) {g : Nat} {want : Bool} (hg : A.get g = .v (.lit (.bool want))) (hh : aopE G d i (fun o => o.ev A) L.get H = some ⟨c, x, e⟩) (hc : c)
    (k : RW P l N r (acc ++ [⟨d, x, { tmps := g :: opdTmps i.opds, slots := lpSlots A i.opds ++ newSlot i d, heap := true }, e⟩]) R ⟨(killA e.kill A).put? d x, slotL e.slot L, e.heap.getD H⟩) : RW P l N (⟨d, some (g, want), i⟩ :: r) acc R ⟨A, L, H⟩ :=
  rw_gstep hg (gi_h hh hc) k
theorem rw_sk {g : Nat} {want b : Bool} (hg : A.get g = .v (.lit (.bool b))) (hne : b = !want)
    (k : RW P l N r (acc ++ [⟨d, .v .any, { tmps := [g] }, {}⟩]) R ⟨A.put? d (.v .any), L, H⟩) : RW P l N (⟨d, some (g, want), i⟩ :: r) acc R ⟨A, L, H⟩ :=
  rw_gskip hg (by subst hne; cases want <;> decide) k
theorem rw_call {f : Nat} {args : List Opd} {vs : List V} {v : V} (hargs : evs A args = some vs) (hf : FN P f vs H v H)
    (k : RW P l N r (acc ++ [⟨d, .v v, { tmps := opdTmps args, heap := true }, {}⟩]) R ⟨A.put? d (.v v), L, H⟩) : RW P l N (⟨d, none, .call f args⟩ :: r) acc R ⟨A, L, H⟩ :=
  rw_step (goodI_call hargs hf rfl) k
theorem rw_callg {f : Nat} {args : List Opd} {vs : List V} {v : V} {g : Nat} {want : Bool} (hg : A.get g = .v (.lit (.bool want))) (hargs : evs A args = some vs) (hf : FN P f vs H v H)
    (k : RW P l N r (acc ++ [⟨d, .v v, { tmps := g :: opdTmps args, heap := true }, {}⟩]) R ⟨A.put? d (.v v), L, H⟩) : RW P l N (⟨d, some (g, want), .call f args⟩ :: r) acc R ⟨A, L, H⟩ :=
  rw_gstep hg (goodI_call hargs hf rfl) k
theorem rw_loud {f : Nat} {args : List Opd} {vs : List V} {v : V} {H' : AH} (hargs : evs A args = some vs) (hf : FN P f vs H v H')
    (k : RW P l N r (acc ++ [⟨d, .v v, { tmps := opdTmps args, heap := true }, { heap := some H' }⟩]) R ⟨A.put? d (.v v), L, H'⟩) : RW P l N (⟨d, none, .call f args⟩ :: r) acc R ⟨A, L, H⟩ :=
  rw_step (goodI_call hargs hf rfl) k
end

variable {Q : Exit → St → Prop} {s : St}

theorem awp_seq_reg {ed : List (List Nat)} {cs : List CI} {z : AC} (h : RW P l N cs [] (fun _ s' => AWp P l N z Q s') s) : AWp P l N (.seq (.reg false ed cs) z) Q s :=
  awp_seq (awp_reg h)
theorem awp_seq_regd {ed : List (List Nat)} {cs : List CI} {z : AC} (hm : P.follows .mixedOrders = true) (h : RW P l N cs [] (fun its s' => chk ed its = true ∧ AWp P l N z Q s') s) : AWp P l N (.seq (.reg true ed cs) z) Q s :=
  awp_seq (awp_regd hm h)
theorem awp_seq_seq {x y z : AC} (h : AWp P l N x (thenS (fun s => AWp P l N y (thenS (fun s => AWp P l N z Q s) Q) s) (thenS (fun s => AWp P l N z Q s) Q)) s) : AWp P l N (.seq (.seq x y) z) Q s :=
  awp_seq (awp_seq h)
theorem awp_seq_ret {z : AC} (h : Q .ret s) : AWp P l N (.seq .ret z) Q s := awp_seq (awp_ret h)
theorem awp_seq_exit {z : AC} {id : Nat} (h : Q (.exit id) s) : AWp P l N (.seq (.exit id) z) Q s := awp_seq (awp_exit h)
theorem awp_seq_skip {z : AC} (h : AWp P l N z Q s) : AWp P l N (.seq .skip z) Q s := awp_seq (awp_skip h)
theorem awp_seq_cond {k : Opd} {x y z : AC} {b : Bool} (hk : k.ev s.A = .v (.lit (.bool b))) (ht : b = true → AWp P l N x (thenS (fun s => AWp P l N z Q s) Q) s) (hf : b = false → AWp P l N y (thenS (fun s => AWp P l N z Q s) Q) s) : AWp P l N (.seq (.cond k x y) z) Q s :=
  awp_seq (awp_cond hk ht hf)

end
end Iso

/- The abstract layer, twentieth part: the steps of a walk, one rule for each kind of effect; regions in their order (sw) and in any order (rw). Nothing of a program. -/
namespace Iso
open Go Go.RowKit

/-- Operations in the text's order: what they read need not be known. -/
def SW (P : Program) (l : Option Nat) (N : Nat) (ops : List CI) (R : St → Prop) (s : St) : Prop := ∃ its s', Steps' P l N ops its s s' ∧ R s'

section
variable {P : Program} {l : Option Nat} {N : Nat} {A : Env} {L : Loc} {H : AH} {G : List Nat}

theorem SW.nil {R : St → Prop} {s : St} (h : R s) : SW P l N [] R s := ⟨[], s, .nil, h⟩
theorem SW.cons {c : CI} {r : List CI} {R : St → Prop} {s : St} (it : It) (g : Good P l N c it s) (h : SW P l N r R (it.app s)) : SW P l N (c :: r) R s := by
  obtain ⟨its, s', hs, hq⟩ := h
  exact ⟨it :: its, s', .cons g hs, hq⟩

variable {Q : Exit → St → Prop} {s : St}

theorem awp_sw {ed : List (List Nat)} {cs : List CI} (h : SW P l N cs (fun s' => Q .normal s') s) : AWp P l N (.reg false ed cs) Q s :=
  awp_reg (let ⟨its, s', hs, hq⟩ := h; ⟨its, s', hs, hq⟩)
theorem awp_seq_sw {ed : List (List Nat)} {cs : List CI} {z : AC} (h : SW P l N cs (fun s' => AWp P l N z Q s') s) : AWp P l N (.seq (.reg false ed cs) z) Q s :=
  awp_seq (awp_sw h)
theorem awp_seq_seq_sw {ed : List (List Nat)} {cs : List CI} {y z : AC} (h : SW P l N cs (fun s' => AWp P l N y (thenS (fun s => AWp P l N z Q s) Q) s') s) : AWp P l N (.seq (.seq (.reg false ed cs) y) z) Q s :=
  awp_seq_seq (awp_sw h)
theorem awp_rw {ed : List (List Nat)} {cs : List CI} (hm : P.follows .mixedOrders = true) (h : RW P l N cs [] (fun its s' => chk ed its = true ∧ Q .normal s') s) : AWp P l N (.reg true ed cs) Q s := awp_regd hm h
theorem awp_seq_rw {ed : List (List Nat)} {cs : List CI} {z : AC} (hm : P.follows .mixedOrders = true) (h : RW P l N cs [] (fun its s' => chk ed its = true ∧ AWp P l N z Q s') s) : AWp P l N (.seq (.reg true ed cs) z) Q s :=
  awp_seq (awp_rw hm h)
theorem awp_seq_seq_rw {ed : List (List Nat)} {cs : List CI} {y z : AC} (hm : P.follows .mixedOrders = true) (h : RW P l N cs [] (fun its s' => chk ed its = true ∧ AWp P l N y (thenS (fun s => AWp P l N z Q s) Q) s') s) : AWp P l N (.seq (.seq (.reg true ed cs) y) z) Q s :=
  awp_seq_seq (awp_rw hm h)

theorem awp_join {γ : Type} (I : γ → St) {y z : AC} {R : Exit → St → Prop} (h : AWp P l N y (thenS (fun s => ∃ g, Le s (I g)) Q) s) (k : ∀ g, AWp P l N z R (I g)) : AWp P l N y (thenS (fun s => AWp P l N z R s) Q) s :=
  h.mono fun e s' hq => by
    cases e with
    | normal => obtain ⟨g, hg⟩ := hq; exact awp_le hg (k g)
    | _ => exact hq
theorem awp_seq_join {γ : Type} (I : γ → St) {y z : AC} (h : AWp P l N y (thenS (fun s => ∃ g, Le s (I g)) Q) s) (k : ∀ g, AWp P l N z Q (I g)) : AWp P l N (.seq y z) Q s :=
  awp_seq (awp_join I h k)

/-- A slice that was built is written no more. -/
theorem le_frz1 {t b n sz : Nat} {cs : List V} (hb : H.get b = some (.cells cs)) (hn : n * sz = cs.length) : Le ⟨[(t, .v (.hs b 0 n sz))], L, H⟩ ⟨[(t, .v (.vs cs n))], L, H.del b⟩ := by
  have := le_frz (s := ⟨[(t, .v (.hs b 0 n sz))], L, H⟩) hb
  simpa [Env.frz, T.frz, V.frz, hn] using this

variable {r : List CI} {i : I} {c : Prop} {x : T}

theorem sw_v {R : St → Prop} {d : Nat} (hh : ∀ H, aopE [] (some d) i (fun o => o.ev A) L.get H = some ⟨c, x, {}⟩) (hc : c) (k : SW P l N r R ⟨(d, x) :: A, L, H⟩) : SW P l N (⟨some d, none, i⟩ :: r) R ⟨A, L, H⟩ :=
  SW.cons ⟨some d, x, { tmps := opdTmps i.opds, slots := lpSlots A i.opds ++ newSlot i (some d), heap := false }, {}⟩ (good_plain (gi_p hh hc)) k
theorem sw_l {R : St → Prop} {d : Nat} {t : Nat} {z : List V} (hh : ∀ H, aopE [] (some d) i (fun o => o.ev A) L.get H = some ⟨c, x, { slot := some (t, some z) }⟩) (hc : c) (k : SW P l N r R ⟨(d, x) :: A, (t, z) :: L, H⟩) : SW P l N (⟨some d, none, i⟩ :: r) R ⟨A, L, H⟩ :=
  SW.cons ⟨some d, x, { tmps := opdTmps i.opds, slots := lpSlots A i.opds ++ newSlot i (some d), heap := false }, { slot := some (t, some z) }⟩ (good_plain (gi_p hh hc)) k
theorem sw_ln {R : St → Prop} {t : Nat} {z : List V} (hh : ∀ H, aopE [] (none) i (fun o => o.ev A) L.get H = some ⟨c, x, { slot := some (t, some z) }⟩) (hc : c) (k : SW P l N r R ⟨A, (t, z) :: L, H⟩) : SW P l N (⟨none, none, i⟩ :: r) R ⟨A, L, H⟩ :=
  SW.cons ⟨none, x, { tmps := opdTmps i.opds, slots := lpSlots A i.opds ++ newSlot i (none), heap := false }, { slot := some (t, some z) }⟩ (good_plain (gi_p hh hc)) k
theorem sw_k {R : St → Prop} {d : Nat} {t : Nat} (hh : ∀ H, aopE [] (some d) i (fun o => o.ev A) L.get H = some ⟨c, x, { kill := some t, slot := some (t, none) }⟩) (hc : c) (k : SW P l N r R ⟨(d, x) :: A.kill t, L.del t, H⟩) : SW P l N (⟨some d, none, i⟩ :: r) R ⟨A, L, H⟩ :=
  SW.cons ⟨some d, x, { tmps := opdTmps i.opds, slots := lpSlots A i.opds ++ newSlot i (some d), heap := false }, { kill := some t, slot := some (t, none) }⟩ (good_plain (gi_p hh hc)) k
theorem sw_hv {R : St → Prop} {d : Nat} (G : List Nat) (hh : aopE G (some d) i (fun o => o.ev A) L.get H = some ⟨c, x, {}⟩) (hc : c) (k : SW P l N r R ⟨(d, x) :: A, L, H⟩) : SW P l N (⟨some d, none, i⟩ :: r) R ⟨A, L, H⟩ :=
  SW.cons ⟨some d, x, { tmps := opdTmps i.opds, slots := lpSlots A i.opds ++ newSlot i (some d), heap := true }, {}⟩ (good_plain (gi_h hh hc)) k
theorem sw_hl {R : St → Prop} {d : Nat} {t : Nat} {z : List V} (G : List Nat) (hh : aopE G (some d) i (fun o => o.ev A) L.get H = some ⟨c, x, { slot := some (t, some z) }⟩) (hc : c) (k : SW P l N r R ⟨(d, x) :: A, (t, z) :: L, H⟩) : SW P l N (⟨some d, none, i⟩ :: r) R ⟨A, L, H⟩ :=
  SW.cons ⟨some d, x, { tmps := opdTmps i.opds, slots := lpSlots A i.opds ++ newSlot i (some d), heap := true }, { slot := some (t, some z) }⟩ (good_plain (gi_h hh hc)) k
theorem sw_hln {R : St → Prop} {t : Nat} {z : List V} (G : List Nat) (hh : aopE G (none) i (fun o => o.ev A) L.get H = some ⟨c, x, { slot := some (t, some z) }⟩) (hc : c) (k : SW P l N r R ⟨A, (t, z) :: L, H⟩) : SW P l N (⟨none, none, i⟩ :: r) R ⟨A, L, H⟩ :=
  SW.cons ⟨none, x, { tmps := opdTmps i.opds, slots := lpSlots A i.opds ++ newSlot i (none), heap := true }, { slot := some (t, some z) }⟩ (good_plain (gi_h hh hc)) k
theorem sw_hh {R : St → Prop} {d : Nat} {K : AH} (G : List Nat) (hh : aopE G (some d) i (fun o => o.ev A) L.get H = some ⟨c, x, { heap := some K }⟩) (hc : c) (k : SW P l N r R ⟨(d, x) :: A, L, K⟩) : SW P l N (⟨some d, none, i⟩ :: r) R ⟨A, L, H⟩ :=
  SW.cons ⟨some d, x, { tmps := opdTmps i.opds, slots := lpSlots A i.opds ++ newSlot i (some d), heap := true }, { heap := some K }⟩ (good_plain (gi_h hh hc)) k
theorem sw_hhn {R : St → Prop} {K : AH} (G : List Nat) (hh : aopE G (none) i (fun o => o.ev A) L.get H = some ⟨c, x, { heap := some K }⟩) (hc : c) (k : SW P l N r R ⟨A, L, K⟩) : SW P l N (⟨none, none, i⟩ :: r) R ⟨A, L, H⟩ :=
  SW.cons ⟨none, x, { tmps := opdTmps i.opds, slots := lpSlots A i.opds ++ newSlot i (none), heap := true }, { heap := some K }⟩ (good_plain (gi_h hh hc)) k
theorem sw_vg {R : St → Prop} {d : Nat} {g : Nat} {want : Bool} (hg : A.get g = .v (.lit (.bool want))) (hh : ∀ H, aopE [] (some d) i (fun o => o.ev A) L.get H = some ⟨c, x, {}⟩) (hc : c) (k : SW P l N r R ⟨(d, x) :: A, L, H⟩) : SW P l N (⟨some d, some (g, want), i⟩ :: r) R ⟨A, L, H⟩ :=
  SW.cons ⟨some d, x, { tmps := g :: opdTmps i.opds, slots := lpSlots A i.opds ++ newSlot i (some d), heap := false }, {}⟩ (good_guard hg (gi_p hh hc)) k
theorem sw_lg {R : St → Prop} {d : Nat} {t : Nat} {z : List V} {g : Nat} {want : Bool} (hg : A.get g = .v (.lit (.bool want))) (hh : ∀ H, aopE [] (some d) i (fun o => o.ev A) L.get H = some ⟨c, x, { slot := some (t, some z) }⟩) (hc : c) (k : SW P l N r R ⟨(d, x) :: A, (t, z) :: L, H⟩) : SW P l N (⟨some d, some (g, want), i⟩ :: r) R ⟨A, L, H⟩ :=
  SW.cons ⟨some d, x, { tmps := g :: opdTmps i.opds, slots := lpSlots A i.opds ++ newSlot i (some d), heap := false }, { slot := some (t, some z) }⟩ (good_guard hg (gi_p hh hc)) k
theorem sw_lng {R : St → Prop} {t : Nat} {z : List V} {g : Nat} {want : Bool} (hg : A.get g = .v (.lit (.bool want))) (hh : ∀ H, aopE [] (none) i (fun o => o.ev A) L.get H = some ⟨c, x, { slot := some (t, some z) }⟩) (hc : c) (k : SW P l N r R ⟨A, (t, z) :: L, H⟩) : SW P l N (⟨none, some (g, want), i⟩ :: r) R ⟨A, L, H⟩ :=
  SW.cons ⟨none, x, { tmps := g :: opdTmps i.opds, slots := lpSlots A i.opds ++ newSlot i (none), heap := false }, { slot := some (t, some z) }⟩ (good_guard hg (gi_p hh hc)) k
theorem sw_kg {R : St → Prop} {d : Nat} {t : Nat} {g : Nat} {want : Bool} (hg : A.get g = .v (.lit (.bool want))) (hh : ∀ H, aopE [] (some d) i (fun o => o.ev A) L.get H = some ⟨c, x, { kill := some t, slot := some (t, none) }⟩) (hc : c) (k : SW P l N r R ⟨(d, x) :: A.kill t, L.del t, H⟩) : SW P l N (⟨some d, some (g, want), i⟩ :: r) R ⟨A, L, H⟩ :=
  SW.cons ⟨some d, x, { tmps := g :: opdTmps i.opds, slots := lpSlots A i.opds ++ newSlot i (some d), heap := false }, { kill := some t, slot := some (t, none) }⟩ (good_guard hg (gi_p hh hc)) k
theorem sw_hvg {R : St → Prop} {d : Nat} (G : List Nat) {g : Nat} {want : Bool} (hg : A.get g = .v (.lit (.bool want))) (hh : aopE G (some d) i (fun o => o.ev A) L.get H = some ⟨c, x, {}⟩) (hc : c) (k : SW P l N r R ⟨(d, x) :: A, L, H⟩) : SW P l N (⟨some d, some (g, want), i⟩ :: r) R ⟨A, L, H⟩ :=
  SW.cons ⟨some d, x, { tmps := g :: opdTmps i.opds, slots := lpSlots A i.opds ++ newSlot i (some d), heap := true }, {}⟩ (good_guard hg (gi_h hh hc)) k
theorem sw_hlg {R : St → Prop} {d : Nat} {t : Nat} {z : List V} (G : List Nat) {g : Nat} {want : Bool} (hg : A.get g = .v (.lit (.bool want))) (hh : aopE G (some d) i (fun o => o.ev A) L.get H = some ⟨c, x, { slot := some (t, some z) }⟩) (hc : c) (k : SW P l N r R ⟨(d, x) :: A, (t, z) :: L, H⟩) : SW P l N (⟨some d, some (g, want), i⟩ :: r) R ⟨A, L, H⟩ :=
  SW.cons ⟨some d, x, { tmps := g :: opdTmps i.opds, slots := lpSlots A i.opds ++ newSlot i (some d), heap := true }, { slot := some (t, some z) }⟩ (good_guard hg (gi_h hh hc)) k
theorem sw_hlng {R : St → Prop} {t : Nat} {z : List V} (G : List Nat) {g : Nat} {want : Bool} (hg : A.get g = .v (.lit (.bool want))) (hh : aopE G (none) i (fun o => o.ev A) L.get H = some ⟨c, x, { slot := some (t, some z) }⟩) (hc : c) (k : SW P l N r R ⟨A, (t, z) :: L, H⟩) : SW P l N (⟨none, some (g, want), i⟩ :: r) R ⟨A, L, H⟩ :=
  SW.cons ⟨none, x, { tmps := g :: opdTmps i.opds, slots := lpSlots A i.opds ++ newSlot i (none), heap := true }, { slot := some (t, some z) }⟩ (good_guard hg (gi_h hh hc)) k
theorem sw_hhg {R : St → Prop} {d : Nat} {K : AH} (G : List Nat) {g : Nat} {want : Bool} (hg : A.get g = .v (.lit (.bool want))) (hh : aopE G (some d) i (fun o => o.ev A) L.get H = some ⟨c, x, { heap := some K }⟩) (hc : c) (k : SW P l N r R ⟨(d, x) :: A, L, K⟩) : SW P l N (⟨some d, some (g, want), i⟩ :: r) R ⟨A, L, H⟩ :=
  SW.cons ⟨some d, x, { tmps := g :: opdTmps i.opds, slots := lpSlots A i.opds ++ newSlot i (some d), heap := true }, { heap := some K }⟩ (good_guard hg (gi_h hh hc)) k
theorem sw_hhng {R : St → Prop} {K : AH} (G : List Nat) {g : Nat} {want : Bool} (hg : A.get g = .v (.lit (.bool want))) (hh : aopE G (none) i (fun o => o.ev A) L.get H = some ⟨c, x, { heap := some K }⟩) (hc : c) (k : SW P l N r R ⟨A, L, K⟩) : SW P l N (⟨none, some (g, want), i⟩ :: r) R ⟨A, L, H⟩ :=
  SW.cons ⟨none, x, { tmps := g :: opdTmps i.opds, slots := lpSlots A i.opds ++ newSlot i (none), heap := true }, { heap := some K }⟩ (good_guard hg (gi_h hh hc)) k
theorem sw_sk {R : St → Prop} {d g : Nat} {want b : Bool} (hg : A.get g = .v (.lit (.bool b))) (hne : b = !want) (k : SW P l N r R ⟨(d, .v .any) :: A, L, H⟩) : SW P l N (⟨some d, some (g, want), i⟩ :: r) R ⟨A, L, H⟩ :=
  SW.cons ⟨some d, .v .any, { tmps := [g] }, {}⟩ (good_skip hg (by subst hne; cases want <;> decide)) k
theorem sw_call {R : St → Prop} {d : Nat} {f : Nat} {args : List Opd} {vs : List V} {v : V} (hargs : evs A args = some vs) (hf : FN P f vs H v H) (k : SW P l N r R ⟨(d, .v v) :: A, L, H⟩) : SW P l N (⟨some d, none, .call f args⟩ :: r) R ⟨A, L, H⟩ :=
  SW.cons ⟨some d, .v v, { tmps := opdTmps args, heap := true }, {}⟩ (good_plain (goodI_call hargs hf rfl)) k
theorem sw_callg {R : St → Prop} {d : Nat} {f : Nat} {args : List Opd} {vs : List V} {v : V} {g : Nat} {want : Bool} (hg : A.get g = .v (.lit (.bool want))) (hargs : evs A args = some vs) (hf : FN P f vs H v H) (k : SW P l N r R ⟨(d, .v v) :: A, L, H⟩) : SW P l N (⟨some d, some (g, want), .call f args⟩ :: r) R ⟨A, L, H⟩ :=
  SW.cons ⟨some d, .v v, { tmps := g :: opdTmps args, heap := true }, {}⟩ (good_guard hg (goodI_call hargs hf rfl)) k
theorem sw_loud {R : St → Prop} {d : Nat} {f : Nat} {args : List Opd} {vs : List V} {v : V} {K : AH} (hargs : evs A args = some vs) (hf : FN P f vs H v K) (k : SW P l N r R ⟨(d, .v v) :: A, L, K⟩) : SW P l N (⟨some d, none, .call f args⟩ :: r) R ⟨A, L, H⟩ :=
  SW.cons ⟨some d, .v v, { tmps := opdTmps args, heap := true }, { heap := some K }⟩ (good_plain (goodI_call hargs hf rfl)) k
theorem sw_callv {R : St → Prop} {d : Nat} {fo : Opd} {f : Nat} {caps : List V} {args : List Opd} {vs : List V} {v : V} (hfo : fo.ev A = .v (.fn f caps)) (hargs : evs A args = some vs) (hb : hasBody P f = true) (hf : FN P f (vs ++ caps) H v H) (k : SW P l N r R ⟨(d, .v v) :: A, L, H⟩) : SW P l N (⟨some d, none, .callv fo args⟩ :: r) R ⟨A, L, H⟩ :=
  SW.cons ⟨some d, .v v, { tmps := opdTmps (fo :: args), heap := true }, {}⟩ (good_plain (goodI_callv hfo hargs hb hf rfl)) k
theorem rw_v' {R : List It → St → Prop} {acc : List It} {d : Nat} (hh : ∀ H, aopE [] (some d) i (fun o => o.ev A) L.get H = some ⟨c, x, {}⟩) (hc : c) (k : RW P l N r (acc ++ [⟨some d, x, { tmps := opdTmps i.opds, slots := lpSlots A i.opds ++ newSlot i (some d), heap := false }, {}⟩]) R ⟨(d, x) :: A, L, H⟩) : RW P l N (⟨some d, none, i⟩ :: r) acc R ⟨A, L, H⟩ :=
  RW.cons _ (good_plain (gi_p hh hc)) k
theorem rw_l' {R : List It → St → Prop} {acc : List It} {d : Nat} {t : Nat} {z : List V} (hh : ∀ H, aopE [] (some d) i (fun o => o.ev A) L.get H = some ⟨c, x, { slot := some (t, some z) }⟩) (hc : c) (k : RW P l N r (acc ++ [⟨some d, x, { tmps := opdTmps i.opds, slots := lpSlots A i.opds ++ newSlot i (some d), heap := false }, { slot := some (t, some z) }⟩]) R ⟨(d, x) :: A, (t, z) :: L, H⟩) : RW P l N (⟨some d, none, i⟩ :: r) acc R ⟨A, L, H⟩ :=
  RW.cons _ (good_plain (gi_p hh hc)) k
theorem rw_ln' {R : List It → St → Prop} {acc : List It} {t : Nat} {z : List V} (hh : ∀ H, aopE [] (none) i (fun o => o.ev A) L.get H = some ⟨c, x, { slot := some (t, some z) }⟩) (hc : c) (k : RW P l N r (acc ++ [⟨none, x, { tmps := opdTmps i.opds, slots := lpSlots A i.opds ++ newSlot i (none), heap := false }, { slot := some (t, some z) }⟩]) R ⟨A, (t, z) :: L, H⟩) : RW P l N (⟨none, none, i⟩ :: r) acc R ⟨A, L, H⟩ :=
  RW.cons _ (good_plain (gi_p hh hc)) k
theorem rw_k' {R : List It → St → Prop} {acc : List It} {d : Nat} {t : Nat} (hh : ∀ H, aopE [] (some d) i (fun o => o.ev A) L.get H = some ⟨c, x, { kill := some t, slot := some (t, none) }⟩) (hc : c) (k : RW P l N r (acc ++ [⟨some d, x, { tmps := opdTmps i.opds, slots := lpSlots A i.opds ++ newSlot i (some d), heap := false }, { kill := some t, slot := some (t, none) }⟩]) R ⟨(d, x) :: A.kill t, L.del t, H⟩) : RW P l N (⟨some d, none, i⟩ :: r) acc R ⟨A, L, H⟩ :=
  RW.cons _ (good_plain (gi_p hh hc)) k
theorem rw_hv' {R : List It → St → Prop} {acc : List It} {d : Nat} (G : List Nat) (hh : aopE G (some d) i (fun o => o.ev A) L.get H = some ⟨c, x, {}⟩) (hc : c) (k : RW P l N r (acc ++ [⟨some d, x, { tmps := opdTmps i.opds, slots := lpSlots A i.opds ++ newSlot i (some d), heap := true }, {}⟩]) R ⟨(d, x) :: A, L, H⟩) : RW P l N (⟨some d, none, i⟩ :: r) acc R ⟨A, L, H⟩ :=
  RW.cons _ (good_plain (gi_h hh hc)) k
theorem rw_hl' {R : List It → St → Prop} {acc : List It} {d : Nat} {t : Nat} {z : List V} (G : List Nat) (hh : aopE G (some d) i (fun o => o.ev A) L.get H = some ⟨c, x, { slot := some (t, some z) }⟩) (hc : c) (k : RW P l N r (acc ++ [⟨some d, x, { tmps := opdTmps i.opds, slots := lpSlots A i.opds ++ newSlot i (some d), heap := true }, { slot := some (t, some z) }⟩]) R ⟨(d, x) :: A, (t, z) :: L, H⟩) : RW P l N (⟨some d, none, i⟩ :: r) acc R ⟨A, L, H⟩ :=
  RW.cons _ (good_plain (gi_h hh hc)) k
theorem rw_hln' {R : List It → St → Prop} {acc : List It} {t : Nat} {z : List V} (G : List Nat) (hh : aopE G (none) i (fun o => o.ev A) L.get H = some ⟨c, x, { slot := some (t, some z) }⟩) (hc : c) (k : RW P l N r (acc ++ [⟨none, x, { tmps := opdTmps i.opds, slots := lpSlots A i.opds ++ newSlot i (none), heap := true }, { slot := some (t, some z) }⟩]) R ⟨A, (t, z) :: L, H⟩) : RW P l N (⟨none, none, i⟩ :: r) acc R ⟨A, L, H⟩ :=
  RW.cons _ (good_plain (gi_h hh hc)) k
theorem rw_hh' {R : List It → St → Prop} {acc : List It} {d : Nat} {K : AH} (G : List Nat) (hh : aopE G (some d) i (fun o => o.ev A) L.get H = some ⟨c, x, { heap := some K }⟩) (hc : c) (k : RW P l N r (acc ++ [⟨some d, x, { tmps := opdTmps i.opds, slots := lpSlots A i.opds ++ newSlot i (some d), heap := true }, { heap := some K }⟩]) R ⟨(d, x) :: A, L, K⟩) : RW P l N (⟨some d, none, i⟩ :: r) acc R ⟨A, L, H⟩ :=
  RW.cons _ (good_plain (gi_h hh hc)) k
theorem rw_hhn' {R : List It → St → Prop} {acc : List It} {K : AH} (G : List Nat) (hh : aopE G (none) i (fun o => o.ev A) L.get H = some ⟨c, x, { heap := some K }⟩) (hc : c) (k : RW P l N r (acc ++ [⟨none, x, { tmps := opdTmps i.opds, slots := lpSlots A i.opds ++ newSlot i (none), heap := true }, { heap := some K }⟩]) R ⟨A, L, K⟩) : RW P l N (⟨none, none, i⟩ :: r) acc R ⟨A, L, H⟩ :=
  RW.cons _ (good_plain (gi_h hh hc)) k
theorem rw_vg' {R : List It → St → Prop} {acc : List It} {d : Nat} {g : Nat} {want : Bool} (hg : A.get g = .v (.lit (.bool want))) (hh : ∀ H, aopE [] (some d) i (fun o => o.ev A) L.get H = some ⟨c, x, {}⟩) (hc : c) (k : RW P l N r (acc ++ [⟨some d, x, { tmps := g :: opdTmps i.opds, slots := lpSlots A i.opds ++ newSlot i (some d), heap := false }, {}⟩]) R ⟨(d, x) :: A, L, H⟩) : RW P l N (⟨some d, some (g, want), i⟩ :: r) acc R ⟨A, L, H⟩ :=
  RW.cons _ (good_guard hg (gi_p hh hc)) k
theorem rw_lg' {R : List It → St → Prop} {acc : List It} {d : Nat} {t : Nat} {z : List V} {g : Nat} {want : Bool} (hg : A.get g = .v (.lit (.bool want))) (hh : ∀ H, aopE [] (some d) i (fun o => o.ev A) L.get H = some ⟨c, x, { slot := some (t, some z) }⟩) (hc : c) (k : RW P l N r (acc ++ [⟨some d, x, { tmps := g :: opdTmps i.opds, slots := lpSlots A i.opds ++ newSlot i (some d), heap := false }, { slot := some (t, some z) }⟩]) R ⟨(d, x) :: A, (t, z) :: L, H⟩) : RW P l N (⟨some d, some (g, want), i⟩ :: r) acc R ⟨A, L, H⟩ :=
  RW.cons _ (good_guard hg (gi_p hh hc)) k
theorem rw_lng' {R : List It → St → Prop} {acc : List It} {t : Nat} {z : List V} {g : Nat} {want : Bool} (hg : A.get g = .v (.lit (.bool want))) (hh : ∀ H, aopE [] (none) i (fun o => o.ev A) L.get H = some ⟨c, x, { slot := some (t, some z) }⟩) (hc : c) (k : RW P l N r (acc ++ [⟨none, x, { tmps := g :: opdTmps i.opds, slots := lpSlots A i.opds ++ newSlot i (none), heap := false }, { slot := some (t, some z) }⟩]) R ⟨A, (t, z) :: L, H⟩) : RW P l N (⟨none, some (g, want), i⟩ :: r) acc R ⟨A, L, H⟩ :=
  RW.cons _ (good_guard hg (gi_p hh hc)) k
theorem rw_kg' {R : List It → St → Prop} {acc : List It} {d : Nat} {t : Nat} {g : Nat} {want : Bool} (hg : A.get g = .v (.lit (.bool want))) (hh : ∀ H, aopE [] (some d) i (fun o => o.ev A) L.get H = some ⟨c, x, { kill := some t, slot := some (t, none) }⟩) (hc : c) (k : RW P l N r (acc ++ [⟨some d, x, { tmps := g :: opdTmps i.opds, slots := lpSlots A i.opds ++ newSlot i (some d), heap := false }, { kill := some t, slot := some (t, none) }⟩]) R ⟨(d, x) :: A.kill t, L.del t, H⟩) : RW P l N (⟨some d, some (g, want), i⟩ :: r) acc R ⟨A, L, H⟩ :=
  RW.cons _ (good_guard hg (gi_p hh hc)) k
theorem rw_hvg' {R : List It → St → Prop} {acc : List It} {d : Nat} (G : List Nat) {g : Nat} {want : Bool} (hg : A.get g = .v (.lit (.bool want))) (hh : aopE G (some d) i (fun o => o.ev A) L.get H = some ⟨c, x, {}⟩) (hc : c) (k : RW P l N r (acc ++ [⟨some d, x, { tmps := g :: opdTmps i.opds, slots := lpSlots A i.opds ++ newSlot i (some d), heap := true }, {}⟩]) R ⟨(d, x) :: A, L, H⟩) : RW P l N (⟨some d, some (g, want), i⟩ :: r) acc R ⟨A, L, H⟩ :=
  RW.cons _ (good_guard hg (gi_h hh hc)) k
theorem rw_hlg' {R : List It → St → Prop} {acc : List It} {d : Nat} {t : Nat} {z : List V} (G : List Nat) {g : Nat} {want : Bool} (hg : A.get g = .v (.lit (.bool want))) (hh : aopE G (some d) i (fun o => o.ev A) L.get H = some ⟨c, x, { slot := some (t, some z) }⟩) (hc : c) (k : RW P l N r (acc ++ [⟨some d, x, { tmps := g :: opdTmps i.opds, slots := lpSlots A i.opds ++ newSlot i (some d), heap := true }, { slot := some (t, some z) }⟩]) R ⟨(d, x) :: A, (t, z) :: L, H⟩) : RW P l N (⟨some d, some (g, want), i⟩ :: r) acc R ⟨A, L, H⟩ :=
  RW.cons _ (good_guard hg (gi_h hh hc)) k
theorem rw_hlng' {R : List It → St → Prop} {acc : List It} {t : Nat} {z : List V} (G : List Nat) {g : Nat} {want : Bool} (hg : A.get g = .v (.lit (.bool want))) (hh : aopE G (none) i (fun o => o.ev A) L.get H = some ⟨c, x, { slot := some (t, some z) }⟩) (hc : c) (k : RW P l N r (acc ++ [⟨none, x, { tmps := g :: opdTmps i.opds, slots := lpSlots A i.opds ++ newSlot i (none), heap := true }, { slot := some (t, some z) }⟩]) R ⟨A, (t, z) :: L, H⟩) : RW P l N (⟨none, some (g, want), i⟩ :: r) acc R ⟨A, L, H⟩ :=
  RW.cons _ (good_guard hg (gi_h hh hc)) k
theorem rw_hhg' {R : List It → St → Prop} {acc : List It} {d : Nat} {K : AH} (G : List Nat) {g : Nat} {want : Bool} (hg : A.get g = .v (.lit (.bool want))) (hh : aopE G (some d) i (fun o => o.ev A) L.get H = some ⟨c, x, { heap := some K }⟩) (hc : c) (k : RW P l N r (acc ++ [⟨some d, x, { tmps := g :: opdTmps i.opds, slots := lpSlots A i.opds ++ newSlot i (some d), heap := true }, { heap := some K }⟩]) R ⟨(d, x) :: A, L, K⟩) : RW P l N (⟨some d, some (g, want), i⟩ :: r) acc R ⟨A, L, H⟩ :=
  RW.cons _ (good_guard hg (gi_h hh hc)) k
theorem rw_hhng' {R : List It → St → Prop} {acc : List It} {K : AH} (G : List Nat) {g : Nat} {want : Bool} (hg : A.get g = .v (.lit (.bool want))) (hh : aopE G (none) i (fun o => o.ev A) L.get H = some ⟨c, x, { heap := some K }⟩) (hc : c) (k : RW P l N r (acc ++ [⟨none, x, { tmps := g :: opdTmps i.opds, slots := lpSlots A i.opds ++ newSlot i (none), heap := true }, { heap := some K }⟩]) R ⟨A, L, K⟩) : RW P l N (⟨none, some (g, want), i⟩ :: r) acc R ⟨A, L, H⟩ :=
  RW.cons _ (good_guard hg (gi_h hh hc)) k
theorem rw_sk' {R : List It → St → Prop} {acc : List It} {d g : Nat} {want b : Bool} (hg : A.get g = .v (.lit (.bool b))) (hne : b = !want) (k : RW P l N r (acc ++ [⟨some d, .v .any, { tmps := [g] }, {}⟩]) R ⟨(d, .v .any) :: A, L, H⟩) : RW P l N (⟨some d, some (g, want), i⟩ :: r) acc R ⟨A, L, H⟩ :=
  RW.cons _ (good_skip hg (by subst hne; cases want <;> decide)) k
theorem rw_call' {R : List It → St → Prop} {acc : List It} {d : Nat} {f : Nat} {args : List Opd} {vs : List V} {v : V} (hargs : evs A args = some vs) (hf : FN P f vs H v H) (k : RW P l N r (acc ++ [⟨some d, .v v, { tmps := opdTmps args, heap := true }, {}⟩]) R ⟨(d, .v v) :: A, L, H⟩) : RW P l N (⟨some d, none, .call f args⟩ :: r) acc R ⟨A, L, H⟩ :=
  RW.cons _ (good_plain (goodI_call hargs hf rfl)) k
theorem rw_callg' {R : List It → St → Prop} {acc : List It} {d : Nat} {f : Nat} {args : List Opd} {vs : List V} {v : V} {g : Nat} {want : Bool} (hg : A.get g = .v (.lit (.bool want))) (hargs : evs A args = some vs) (hf : FN P f vs H v H) (k : RW P l N r (acc ++ [⟨some d, .v v, { tmps := g :: opdTmps args, heap := true }, {}⟩]) R ⟨(d, .v v) :: A, L, H⟩) : RW P l N (⟨some d, some (g, want), .call f args⟩ :: r) acc R ⟨A, L, H⟩ :=
  RW.cons _ (good_guard hg (goodI_call hargs hf rfl)) k
theorem rw_loud' {R : List It → St → Prop} {acc : List It} {d : Nat} {f : Nat} {args : List Opd} {vs : List V} {v : V} {K : AH} (hargs : evs A args = some vs) (hf : FN P f vs H v K) (k : RW P l N r (acc ++ [⟨some d, .v v, { tmps := opdTmps args, heap := true }, { heap := some K }⟩]) R ⟨(d, .v v) :: A, L, K⟩) : RW P l N (⟨some d, none, .call f args⟩ :: r) acc R ⟨A, L, H⟩ :=
  RW.cons _ (good_plain (goodI_call hargs hf rfl)) k
theorem rw_callv' {R : List It → St → Prop} {acc : List It} {d : Nat} {fo : Opd} {f : Nat} {caps : List V} {args : List Opd} {vs : List V} {v : V} (hfo : fo.ev A = .v (.fn f caps)) (hargs : evs A args = some vs) (hb : hasBody P f = true) (hf : FN P f (vs ++ caps) H v H) (k : RW P l N r (acc ++ [⟨some d, .v v, { tmps := opdTmps (fo :: args), heap := true }, {}⟩]) R ⟨(d, .v v) :: A, L, H⟩) : RW P l N (⟨some d, none, .callv fo args⟩ :: r) acc R ⟨A, L, H⟩ :=
  RW.cons _ (good_plain (goodI_callv hfo hargs hb hf rfl)) k

/-! ### Wrapping -/
theorem wrap_i64 {x : Int} (h1 : -9223372036854775808 ≤ x) (h2 : x < 9223372036854775808) : IntKind.i64.wrap x = x := by
  rw [IntKind.wrap_i64]; omega
theorem wrap_u64 {x : Int} (h1 : 0 ≤ x) (h2 : x < 18446744073709551616) : IntKind.u64.wrap x = x := by
  rw [IntKind.wrap_u64]; omega

end
/-! Short words. -/
section
variable {P : Program} {l : Option Nat} {N : Nat} {A : Env} {L : Loc} {H : AH} {r : List CI} {i : I} {x : T}
theorem leB {n m : Nat} (h : Nat.ble n m = true) : n ≤ m := Nat.le_of_ble_eq_true h
theorem swV {R : St → Prop} {d : Nat} (hh : ∀ H, aopE [] (some d) i (fun o => o.ev A) L.get H = some ⟨True, x, {}⟩) (k : SW P l N r R ⟨(d, x) :: A, L, H⟩) : SW P l N (⟨some d, none, i⟩ :: r) R ⟨A, L, H⟩ := sw_v hh trivial k
end
end Iso

/- The abstract layer, twenty-first part: ranges over functions: the rounds, the statement. Nothing of a program. -/
namespace Iso
open Go Go.RowKit
/-- The code of a loop's rounds. -/
def RC (P : Program) (N : Nat) (x y : AC) : Code → Code → Prop := fun a b => compC P N a = some x ∧ compC P N b = some y
def snapG (A : Env) : Nat → Nat → List V
  | _, 0 => []
  | k, n + 1 => (match A.get k with | .v x => x | .lp _ _ => .any) :: snapG A (k + 1) n
/-- What all temporaries hold. -/
def snap (A : Env) (N : Nat) : List V := snapG A 0 N
def setPs : List Nat → List V → List V → List V
  | p :: ps, a :: as, vs => setPs ps as (vs.set p a)
  | _, _, vs => vs
theorem snapG_get (A : Env) : ∀ (n k i : Nat) (v : V), (snapG A k n)[i]? = some v → i < n ∧ v = (match A.get (k + i) with | .v x => x | .lp _ _ => .any)
  | 0, k, i, v, h => by simp [snapG] at h
  | n + 1, k, 0, v, h => by simp [snapG] at h; exact ⟨by omega, h.symm⟩
  | n + 1, k, i + 1, v, h => by
    simp [snapG] at h
    obtain ⟨h1, h2⟩ := snapG_get A n (k + 1) i v h
    exact ⟨by omega, by rw [show k + (i + 1) = k + 1 + i by omega]; exact h2⟩
theorem snapG_len (A : Env) : ∀ (n k : Nat), (snapG A k n).length = n
  | 0, _ => rfl
  | n + 1, k => by simp [snapG, snapG_len A n (k + 1)]
theorem snap_len (A : Env) (N : Nat) : (snap A N).length = N := snapG_len A N 0
section
variable {E : Entry} {ρ ρ' : Rn} {β : Nat → Option Nat} {s : St} {a : Act} {w w' : World} {P : Program} {N : Nat}
theorem snap_VRs (hs : SR E ρ β s a w) (hN : a.tmps.size = N) : VRs ρ w (snap s.A N) a.tmps.toList := by
  refine VRs.of_get (by rw [snap_len]; simpa using hN) fun i v hv => ?_
  obtain ⟨h1, h2⟩ := snapG_get _ _ _ _ _ hv
  have h3 := hs.tmps (0 + i)
  have hlt : i < a.tmps.size := by omega
  refine ⟨a.tmps[i], by simp [hlt], ?_⟩
  rw [Nat.zero_add] at h2 h3
  rw [h2]
  have he : a.tmps.getD i undef = a.tmps[i] := by simp [Array.getD, hlt]
  rw [he] at h3
  cases hx : s.A.get i with
  | v x => rw [hx] at h3; exact h3
  | lp t o => simp [VR]
theorem setPs_VRs : ∀ {ps : List Nat} {as vs : List V} {xs : List Value} {T : Array Value}, VRs ρ w vs T.toList → VRs ρ w as xs → VRs ρ w (setPs ps as vs) ((ps.zip xs).foldl (fun t (p : Nat × Value) => t.setIfInBounds p.1 p.2) T).toList
  | [], as, vs, xs, T, h, _ => by simpa [setPs] using h
  | p :: ps, [], vs, xs, T, h, k => by simp only [VRs] at k; subst k; simpa [setPs] using h
  | p :: ps, a :: as, vs, xs, T, h, k => by
    simp only [VRs] at k
    obtain ⟨x, r, rfl, k1, k2⟩ := k
    simp only [setPs, List.zip_cons_cons, List.foldl_cons]
    exact setPs_VRs (by rw [Array.toList_setIfInBounds]; exact VRs.set h p k1) k2
theorem argsA_tmps {vs : List V} {T : Array Value} (h : VRs ρ w vs T.toList) (t : Nat) : TR ρ β w ((argsA 0 vs).get t) (T.getD t undef) := by
  rw [argsA_get]
  simp only [Nat.zero_le, if_true, Nat.sub_zero, TR]
  cases hv : vs[t]? with
  | none => simp [VR]
  | some v =>
    obtain ⟨x, hx, hvr⟩ := h.get t v hv
    have hlt : t < T.size := by have := (List.getElem?_eq_some_iff.1 hx).1; simpa using this
    have : T.getD t undef = x := by
      simp [hlt] at hx
      simp [Array.getD, hlt, hx]
    rw [this]; simpa using hvr
/-- One round: the assignments, the body. -/
def Rnd (P : Program) (N : Nat) (x y : AC) (ps : List Nat) (vs as : List V) (b : Nat) (H : AH) (r : Bool) (H' : AH) : Prop :=
  ∃ s1 C1 ps1 vs1 pe1, BS P (some 0) N x ⟨argsA 0 (setPs ps as vs), [], H⟩ .normal s1 ∧ s1.H.get b = some (.loop C1 .ready pe1 ps1 vs1) ∧
  ∃ e s3, BS P (some 0) N y ⟨s1.A, s1.L, s1.H.set b (.loop C1 .busy pe1 ps1 vs1)⟩ e s3 ∧
  ∃ C3 st3 pe3 ps3 vs3, s3.H.get b = some (.loop C3 st3 pe3 ps3 vs3) ∧
    ((e = .normal ∧ r = true ∧ H' = s3.H.set b (.loop C3 .ready none ps3 vs3)) ∨ (e = .ret ∧ r = false ∧ H' = s3.H.set b (.loop C3 .done (some .ret) ps3 vs3)) ∨
      (∃ id, e = .exit id ∧ r = false ∧ H' = s3.H.set b (.loop C3 .done (some (.exit id)) ps3 vs3)))
theorem putLoop (h : SR E ρ β s a w) {b B : Nat} {C : Code → Code → Prop} {st : LoopState} {pe : Option Code} {ps : List Nat} {vs : List V} (hb : s.H.get b = some (.loop C st pe ps vs)) (hB : ρ.φ b = some B) :
    ∃ r : Loop, w.heap[B]? = some (.loop r) ∧ r.state = st ∧ r.pending = pe ∧ r.params.toList = ps ∧ C r.assign r.body ∧ VRs ρ w vs r.tmps.toList ∧
      ∀ st' pe', SR E ρ β ⟨s.A, s.L, s.H.set b (.loop C st' pe' ps vs)⟩ a (w.putObj B (.loop { r with state := st', pending := pe' })) := by
  obtain ⟨B', h1, r, h2, h3, h4, h5, h6, h7⟩ := h.heap b _ hb
  rw [hB] at h1; cases h1
  refine ⟨r, h2, h3, h4, h5, h6, h7, fun st' pe' => ?_⟩
  have hlt : B < w.heap.size := (Array.getElem?_eq_some_iff.1 h2).1
  refine h.writeH hB (Wrote.putObj _ h2 (by intros; simp)) fun k => ?_
  exact ⟨_, World.putObj_heap_same hlt, rfl, rfl, h5, h6, VRs.keep k _ _ h7⟩
theorem goodI_yield {l : Option Nat} {M : Nat} {dst : Option Nat} {fo : Opd} {args : List Opd} {as : List V} {b : Nat} {x y : AC} {st : LoopState} {pe : Option Code} {ps : List Nat} {vs : List V} {r : Bool} {H' : AH}
    (hfo : fo.ev s.A = .v (.yl b)) (hargs : evs s.A args = some as) (hb : s.H.get b = some (.loop (RC P N x y) st pe ps vs)) (hl : as.length = ps.length) (hv : vs.length = N) (hr : Rnd P N x y ps vs as b s.H r H') :
    GoodI P l M dst (.callv fo args) ⟨dst, .v (.lit (.bool r)), { tmps := opdTmps (fo :: args), heap := true }, { heap := some H' }⟩ s := by
  intro o hc ho hd t ht hwf
  obtain ⟨hc, hcall⟩ := comp1_comp hc
  obtain ⟨c, hop⟩ := hcall rfl
  obtain ⟨g, h1, h2, h3⟩ := comp_call_val hop hc
  have htH : s.H = t.H := ht.H rfl
  refine ⟨fun n e o hn => ?_, fun E ρ β a w hs hN Q K hK => ?_⟩
  · simp only [It.app, killA, Env.get_put?] at hn
    split at hn
    · cases hn
    · exact hwf n e o hn
  have hxs := cOpds_eval hs h3 ((evs_agree fun n hn => ht.A n (by cases fo <;> simp [opdTmps] at hn ⊢ <;> simp [hn])).trans hargs)
  have hg := hs.opd h2
  rw [ev_agree (x := fo) (s := s) (t := t) (fun n hn => ht.A n (by cases fo <;> simp [opdTmps] at hn ⊢; simp [hn])), hfo] at hg
  rw [htH] at hb hr
  obtain ⟨B, hB, rec, h4, h5, h6, h7, h8, h9⟩ := hs.heap b _ hb
  have hg := VR.yl_at (w := w) hg hB
  have hbn : b < t.H.next := hs.φlt hB
  have hnd : ∀ c', o.op ≠ .defer c' := fun c' => by simp [hop]
  have hxl := hxs.length
  have hrun : (execOp a.eval o).run P w = .ok (.round B rec.fn ((rec.params.zip (c.args.map a.eval)).foldl (fun tmps (t, a) => tmps.setIfInBounds t a) rec.tmps) rec.assign rec.body) w := by
    have hy := run_yield (P := P) (args := c.args.map a.eval) h4 (by
      have : rec.params.size = ps.length := by rw [← h7]; simp
      simp only [List.length_map, Array.length_toList, Array.size_map] at hxl ⊢
      omega)
    simp only [execOp, hop, resolve, h1]
    simpa [hg, Deferred.ofValue, invoke] using hy
  refine ⟨fun f hf => trivial, ?_⟩
  rw [Oper.semAt_eq _ _ _ hnd, hrun]
  rw [Oper.uponIn_round]
  refine ⟨fun h => by simp [FW] at h, ?_⟩
  obtain ⟨s1, C1, ps1, vs1, pe1, b1, g1, e, s3, b2, C3, st3, pe3, ps3, vs3, g3, hend⟩ := hr
  have hrec := hs.hr
  let Er : Entry := ⟨ρ.φ, t.H.next, ρ.Y, w, some B⟩
  have hT : VRs ρ w (setPs ps as vs) (((rec.params.zip (c.args.map a.eval)).foldl (fun tmps (t, a) => tmps.setIfInBounds t a) rec.tmps)).toList := by
    have h := setPs_VRs (ps := ps) h9 hxs
    rw [← Array.foldl_toList, Array.toList_zip, h7]
    simpa using h
  have hsz : ((rec.params.zip (c.args.map a.eval)).foldl (fun tmps (t, a) => tmps.setIfInBounds t a) rec.tmps).size = N := by
    have h10 := h9.length
    have : ∀ (zs : List (Nat × Value)) (T : Array Value), (zs.foldl (fun tmps (p : Nat × Value) => tmps.setIfInBounds p.1 p.2) T).size = T.size := by
      intro zs
      induction zs with
      | nil => intro T; rfl
      | cons z zs ih => intro T; simp [List.foldl_cons, ih]
    rw [← Array.foldl_toList]
    have h11 := this (rec.params.zip (c.args.map a.eval)).toList rec.tmps
    simp only [Array.length_toList] at h10
    exact h11.trans (h10.trans hv)
  have hs0 : SR Er ρ (fun _ => none) ⟨argsA 0 (setPs ps as vs), [], t.H⟩ ⟨(rec.params.zip (c.args.map a.eval)).foldl (fun tmps (t, a) => tmps.setIfInBounds t a) rec.tmps, []⟩ w :=
    { hrec with tmps := fun u => argsA_tmps hT u, loc := fun u cs hc => by simp [Loc.get] at hc, dfr := trivial }
  have wf0 : WF ⟨argsA 0 (setPs ps as vs), [], t.H⟩ := fun n d o hd => by simp [argsA_get] at hd
  have hin : (FW E.e.l).inRound B = FW (some B) := rfl
  obtain ⟨wf1, q1⟩ := b1 _ h8.1 wf0
  refine RoundIn.mono (roundIn_of_wpIn (R := fun e' w'' => ∃ v, e' = .returned v ∧ K (a.put o.dst v) w'') trivial ?_) ?_
  · refine wpIn_mono (q1 ⟨Er, fun h => by cases h⟩ ρ _ _ w hs0 hsz) ?_
    rintro e1 a1 w1 ⟨rfl, hN1, ρ1, β1, hs1⟩
    have nm : ∀ {ρ2 : Rn} {β2 : Nat → Option Nat} {s2 : St} {a2 : Act} {w2 : World} {kb : Blk}, SR Er ρ2 β2 s2 a2 w2 → s2.H.get b = some kb → ρ2.φ b = some B := by
      intro ρ2 β2 s2 a2 w2 kb hs2 hk
      obtain ⟨B2, h10, _⟩ := hs2.heap b _ hk
      have : ρ.φ b = some B2 := hs2.names b B2 hbn h10
      rw [hB] at this; cases this; exact h10
    obtain ⟨r1, k1, k2, k3, k4, k5, k6, k7⟩ := putLoop hs1 g1 (nm hs1 g1)
    refine ⟨_, run_beginRound k1 k2, ?_⟩
    have hs2 := k7 .busy pe1
    rw [← k3] at hs2
    have wf2 : WF ⟨s1.A, s1.L, s1.H.set b (.loop C1 .busy pe1 ps1 vs1)⟩ := wf1
    obtain ⟨wf3, q2⟩ := b2 _ h8.2 wf2
    subst k3
    refine wpIn_mono (q2 ⟨Er, fun h => by cases h⟩ ρ1 β1 a1 _ hs2 hN1) ?_
    rintro e3 a3 w3 ⟨rfl, hN3, ρ3, β3, hs3⟩
    obtain ⟨r3, m1, m2, m3, m4, m5, m6, m7⟩ := putLoop hs3 g3 (nm hs3 g3)
    have fin : ∀ (j : Option Code) (rr : Bool), j.isNone = rr → rr = r → H' = s3.H.set b (.loop C3 (if j.isNone then .ready else .done) j ps3 vs3) →
        ∃ v w', (Instr.endRound B j).run P w3 = .ok v w' ∧ ∃ v', Ending.returned v = .returned v' ∧ K (a.put o.dst v') w' := by
      intro j rr h10 h11 h12
      refine ⟨_, _, run_endRound j m1, _, rfl, ?_⟩
      have hs4 := m7 (if j.isNone then .ready else .done) j
      obtain ⟨ρ5, hs5, _⟩ := hs4.dropAll
      have hs6 : SR (E0 ρ t.H w) ρ5 (fun _ => none) ⟨[], [], H'⟩ ⟨#[], []⟩ (w3.putObj B (.loop { r3 with state := if j.isNone then .ready else .done, pending := j })) := by
        rw [h12]; exact { hs5 with dfr := trivial }
      have hs7 := (hs.called hs6).put o.dst (fun d h => by rw [hN]; rw [ho] at h; exact hd d h) (x := .v (.lit (.bool r))) (y := .bool j.isNone) (by simp [TR, VR, h10, h11])
      refine hK _ _ ρ5 β ?_ (by rw [put_size]; exact hN)
      subst ho
      exact hs7
    rcases hend with ⟨rfl, hr1, hr2⟩ | ⟨rfl, hr1, hr2⟩ | ⟨id, rfl, hr1, hr2⟩
    · exact fin none true rfl hr1.symm hr2
    · exact fin (some .ret) false rfl hr1.symm hr2
    · exact fin (some (.exit id)) false rfl hr1.symm hr2
  · rintro e' w'' ⟨v, rfl, hk⟩
    exact hk
variable {Q : Exit → St → Prop}
/-- Where one goes on behind the loop. -/
def After (Q : Exit → St → Prop) : Option Code → St → Prop
  | none, s => Q .normal s
  | some .ret, s => Q .ret s
  | some (.exit id), s => Q (.exit id) s
  | _, _ => False
/-- 'for .. := range f': the function is called with what makes a round. -/
theorem awp_rng {f : Opd} {ps ps' : List Nat} {x y : AC} {gf : Nat} {caps : List V} {v : V} {H2 : AH} {C : Code → Code → Prop} {st : LoopState} {pe : Option Code} {vs' : List V}
    (hf : f.ev s.A = .v (.fn gf caps)) (hb : hasBody P gf = true) (hit : FN P gf (.yl s.H.next :: caps) (s.H.push (.loop (RC P N x y) .ready none ps (snap s.A N))) v H2)
    (hl : H2.get s.H.next = some (.loop C st pe ps' vs')) (hst : st ≠ .busy) (hq : After Q pe ⟨s.A, s.L, H2.set s.H.next (.loop C .exhausted pe ps' vs')⟩) : AWp P none N (.rng f ps x y) Q s := by
  obtain ⟨e, hqe, hpe⟩ : ∃ e, Q e ⟨s.A, s.L, H2.set s.H.next (.loop C .exhausted pe ps' vs')⟩ ∧ ((pe = none ∧ e = .normal) ∨ (pe = some .ret ∧ e = .ret) ∨ ∃ id, pe = some (.exit id) ∧ e = .exit id) := by
    cases pe with
    | none => exact ⟨_, hq, .inl ⟨rfl, rfl⟩⟩
    | some c =>
      cases c with
      | ret => exact ⟨_, hq, .inr (.inl ⟨rfl, rfl⟩)⟩
      | exit id => exact ⟨_, hq, .inr (.inr ⟨id, rfl, rfl⟩)⟩
      | _ => exact hq.elim
  refine ⟨e, _, fun c hc hwf => ?_, hqe⟩
  obtain ⟨g, qs, ca, cb, rfl, h1, h2, h3, h4⟩ := compC_rng hc
  refine ⟨hwf, fun E ρ β a w hs hN => wpIn_rangeFunc fun fn _ => ?_⟩
  have hEl : E.e.l = none := E.ok rfl
  have hg := hs.opd h1
  rw [hf] at hg
  simp only [TR, VR] at hg
  obtain ⟨lb0, hg0, _⟩ := hg
  let rec0 : Loop := { state := .ready, pending := none, fn, tmps := a.tmps, params := qs, assign := ca, body := cb, defers := w.heap.size }
  let a1 : Act := { a with defers := { target := .collected w.heap.size, args := #[] } :: a.defers }
  have hold : ∀ {ds : List Deferred}, Marks E.e.w0.heap.size ρ w ds → ∀ d' ∈ ds, d' ≠ { target := .collected w.heap.size, args := #[] } := by
    intro ds
    induction ds with
    | nil => intro _ d' hd'; cases hd'
    | cons d ds ih =>
      rintro ⟨⟨D, q0, q1, q2, q3, q4⟩, hm⟩ d' hd'
      rcases List.mem_cons.1 hd' with rfl | hd'
      · rw [q1]
        intro he
        have : D = w.heap.size := by injection he with h1 _; injection h1
        have := q2.1
        omega
      · exact ih hm d' hd'
  have hs0 := hs.alloc (.deferred (some []))
  have hs1 : SR E.e ρ β s a1 (w.alloc (.deferred (some []))) := { hs0 with tmps := hs0.tmps, dfr := ⟨⟨w.heap.size, hs.size, rfl, ⟨by simp, fun hy => by
      rcases (hs.Y _).1 hy with hx | ⟨t, ht⟩
      · have := hs.ltX hx; omega
      · have := hs.ltβ ht; omega, fun b hb => by have := hs.ltφ hb; omega⟩, World.alloc_heap_new _ _, hold hs.dfr⟩, hs0.dfr⟩ }
  obtain ⟨ρ2, hs2, hφ2, hn2⟩ := hs1.push (.loop (RC P N x y) .ready none ps (snap s.A N)) (.loop rec0) (fun ρ' k => ⟨rec0, World.alloc_heap_new _ _, rfl, rfl, h2, ⟨h3, h4⟩, VRs.keep k _ _ (snap_VRs (a := a1) hs1 hN)⟩)
  rw [World.size_alloc] at hφ2
  have hg2 := hs2.opd h1
  rw [hf] at hg2
  simp only [TR, VR] at hg2
  obtain ⟨lb, hg, hlb⟩ := hg2
  have hga : a.eval g = .func (.func gf) #[] lb := hg
  have hcall := hit ρ2 _ (.func (.yield (w.heap.size + 1)) #[] #[] :: lb.toList) hs2.hr (by
    simp only [VRs]
    refine ⟨_, _, rfl, ?_, hlb⟩
    simp only [VR]
    exact ⟨by rw [hn2]; exact Nat.lt_succ_self _, _, rfl, one_name hφ2⟩)
  refine ⟨w.heap.size + 1, [{ target := .collected w.heap.size, args := #[] }], (w.alloc (.deferred (some []))).alloc (.loop rec0), { target := .fn (.func gf) lb, args := #[.func (.yield (w.heap.size + 1)) #[] #[]] }, (w.alloc (.deferred (some []))).alloc (.loop rec0), gf,
    #[.func (.yield (w.heap.size + 1)) #[] #[]] ++ lb, (w.alloc (.deferred (some []))).alloc (.loop rec0), ?_, ?_, fun _ _ => trivial, ?_, fun h => by simp [FW] at h, ?_⟩
  · show (Instr.enterLoop fn a.tmps qs ca cb E.e.l).run P w = _
    rw [hEl]; exact run_enterLoop_outer _ _ _ _ _
  · simp only [resolve, hga]
    simp [go_sem]
  · simp only [invoke]
    exact run_enter hb _ _
  · have hxa : (Value.func (.yield (w.heap.size + 1)) #[] #[] :: lb.toList).toArray = #[.func (.yield (w.heap.size + 1)) #[] #[]] ++ lb := by
      apply Array.toList_inj.1; simp
    rw [hxa] at hcall
    refine (FW_calls hcall).mono ?_
    rintro e' w3 ⟨v', ρ3, rfl, hs3, hv3⟩
    have hs4 := hs2.called hs3
    obtain ⟨B3, h5, _⟩ := hs3.heap _ _ hl
    have h6 : ρ3.φ s.H.next = some (w.heap.size + 1) := by
      have := hs3.names s.H.next B3 (Nat.lt_succ_self _) h5
      have h7 : ρ2.φ s.H.next = some B3 := this
      rw [hφ2] at h7; cases h7; exact h5
    obtain ⟨r, k1, k2, k3, k4, k5, k6, k7⟩ := putLoop hs4 hl h6
    have hs5 := k7 .exhausted r.pending
    refine ⟨r.pending, _, run_endLoop k1 (by rw [k2]; exact hst), ?_⟩
    rw [k3] at hs5 ⊢
    have fin : ∀ e', e' = e → (e' = e ∧ a1.tmps.size = N ∧ ∃ ρ' β', SR E.e ρ' β' ⟨s.A, s.L, H2.set s.H.next (.loop C .exhausted pe ps' vs')⟩ a1 (w3.putObj (w.heap.size + 1) (.loop { r with state := .exhausted, pending := pe }))) := fun e' he => ⟨he, hN, ρ3, β, hs5⟩
    rcases hpe with ⟨rfl, rfl⟩ | ⟨rfl, rfl⟩ | ⟨id, rfl, rfl⟩
    · exact fin _ rfl
    · exact wpIn_ret (fin _ rfl)
    · exact wpIn_exit (fin _ rfl)
end
end Iso

/- The runner, first part: states that the kernel reckons with; what an instruction does there. Nothing of a program. -/
namespace Iso
open Go Go.RowKit
/-! ### Tables by number -/
inductive Tr (α : Type) where
  | nil
  | node (l : Tr α) (v : Option α) (r : Tr α)
noncomputable def Tr.get {α : Type} (t : Tr α) : Nat → Option α :=
  Tr.rec (motive := fun _ => Nat → Option α) (fun _ => none) (fun _ v _ gl gr n => bif Nat.beq n 0 then v else bif Nat.beq (Nat.mod n 2) 1 then gl (Nat.div n 2) else gr (Nat.sub (Nat.div n 2) 1)) t
noncomputable def Tr.setF {α : Type} (o : Option α) (k : Nat) : Tr α → Nat → Tr α :=
  Nat.rec (motive := fun _ => Tr α → Nat → Tr α) (fun t _ => t) (fun _ ih t n =>
    Tr.casesOn (motive := fun _ => Tr α) t
      (bif Nat.beq n 0 then .node .nil o .nil else bif Nat.beq (Nat.mod n 2) 1 then .node (ih .nil (Nat.div n 2)) none .nil else .node .nil none (ih .nil (Nat.sub (Nat.div n 2) 1)))
      (fun l v r => bif Nat.beq n 0 then .node l o r else bif Nat.beq (Nat.mod n 2) 1 then .node (ih l (Nat.div n 2)) v r else .node l v (ih r (Nat.sub (Nat.div n 2) 1)))) k
noncomputable def Tr.set {α : Type} (t : Tr α) (n : Nat) (o : Option α) : Tr α := Tr.setF o 40 t n
noncomputable def Tr.map {α : Type} (f : α → α) (t : Tr α) : Tr α :=
  Tr.rec (motive := fun _ => Tr α) .nil (fun _ v _ l r => .node l (match v with | some x => some (f x) | none => none) r) t
theorem nbeq (n m : Nat) : Nat.beq n m = decide (n = m) := by
  cases h : Nat.beq n m with
  | true => have := Nat.eq_of_beq_eq_true h; exact (decide_eq_true this).symm
  | false => have := Nat.ne_of_beq_eq_false h; exact (decide_eq_false this).symm
theorem Tr.get_nil {α : Type} (n : Nat) : (Tr.nil : Tr α).get n = none := rfl
theorem Tr.get_node {α : Type} (l r : Tr α) (v : Option α) (n : Nat) : (Tr.node l v r).get n = if n = 0 then v else if n % 2 = 1 then l.get (n / 2) else r.get (n / 2 - 1) := by
  show (bif Nat.beq n 0 then v else bif Nat.beq (Nat.mod n 2) 1 then l.get (Nat.div n 2) else r.get (Nat.sub (Nat.div n 2) 1)) = _
  have h1 := nbeq n 0
  have h2 : Nat.beq (Nat.mod n 2) 1 = decide (n % 2 = 1) := nbeq _ _
  rw [h1, h2]
  by_cases h3 : n = 0
  · simp [h3]
  · by_cases h4 : n % 2 = 1
    · simp [h3, h4]; rfl
    · simp [h3, h4]; rfl
theorem Tr.setF_nil {α : Type} (o : Option α) (k n : Nat) : Tr.setF o (k + 1) .nil n = if n = 0 then .node .nil o .nil else if n % 2 = 1 then .node (Tr.setF o k .nil (n / 2)) none .nil else .node .nil none (Tr.setF o k .nil (n / 2 - 1)) := by
  show (bif Nat.beq n 0 then Tr.node .nil o .nil else bif Nat.beq (Nat.mod n 2) 1 then Tr.node (Tr.setF o k .nil (Nat.div n 2)) none .nil else Tr.node .nil none (Tr.setF o k .nil (Nat.sub (Nat.div n 2) 1))) = _
  have h1 := nbeq n 0
  have h2 : Nat.beq (Nat.mod n 2) 1 = decide (n % 2 = 1) := nbeq _ _
  rw [h1, h2]
  by_cases h3 : n = 0
  · simp [h3]
  · by_cases h4 : n % 2 = 1
    · simp [h3, h4]; rfl
    · simp [h3, h4]; rfl
theorem Tr.setF_node {α : Type} (o : Option α) (k n : Nat) (l r : Tr α) (v : Option α) : Tr.setF o (k + 1) (.node l v r) n = if n = 0 then .node l o r else if n % 2 = 1 then .node (Tr.setF o k l (n / 2)) v r else .node l v (Tr.setF o k r (n / 2 - 1)) := by
  show (bif Nat.beq n 0 then Tr.node l o r else bif Nat.beq (Nat.mod n 2) 1 then Tr.node (Tr.setF o k l (Nat.div n 2)) v r else Tr.node l v (Tr.setF o k r (Nat.sub (Nat.div n 2) 1))) = _
  have h1 := nbeq n 0
  have h2 : Nat.beq (Nat.mod n 2) 1 = decide (n % 2 = 1) := nbeq _ _
  rw [h1, h2]
  by_cases h3 : n = 0
  · simp [h3]
  · by_cases h4 : n % 2 = 1
    · simp [h3, h4]; rfl
    · simp [h3, h4]; rfl
theorem Tr.get_setF {α : Type} (o : Option α) : ∀ (k : Nat) (t : Tr α) (n m : Nat), n + 1 < 2 ^ k → (Tr.setF o k t n).get m = if m = n then o else t.get m
  | 0, t, n, m, h => by simp at h
  | k + 1, t, n, m, h => by
    have ih := Tr.get_setF o k
    have hp : 2 ^ (k + 1) = 2 * 2 ^ k := by rw [Nat.pow_succ, Nat.mul_comm]
    cases t with
    | nil =>
      rw [Tr.setF_nil]
      by_cases h1 : n = 0
      · rw [if_pos h1, Tr.get_node]
        by_cases h2 : m = 0
        · simp [h1, h2]
        · simp [h1, h2, Tr.get_nil]
      · rw [if_neg h1]
        by_cases h2 : n % 2 = 1
        · rw [if_pos h2, Tr.get_node, ih _ _ _ (by omega)]
          simp only [Tr.get_nil]
          by_cases h3 : m = n
          · subst h3; simp [h1, h2]
          · rw [if_neg h3]
            (repeat' split) <;> first | rfl | omega
        · rw [if_neg h2, Tr.get_node, ih _ _ _ (by omega)]
          simp only [Tr.get_nil]
          by_cases h3 : m = n
          · subst h3; simp [h1, h2]
          · rw [if_neg h3]
            (repeat' split) <;> first | rfl | omega
    | node l v r =>
      rw [Tr.setF_node]
      by_cases h1 : n = 0
      · rw [if_pos h1, Tr.get_node, Tr.get_node]
        by_cases h2 : m = 0
        · simp [h1, h2]
        · simp [h1, h2]
      · rw [if_neg h1]
        by_cases h2 : n % 2 = 1
        · rw [if_pos h2, Tr.get_node, Tr.get_node, ih _ _ _ (by omega)]
          by_cases h3 : m = n
          · subst h3; simp [h1, h2]
          · rw [if_neg h3]
            (repeat' split) <;> first | rfl | omega
        · rw [if_neg h2, Tr.get_node, Tr.get_node, ih _ _ _ (by omega)]
          by_cases h3 : m = n
          · subst h3; simp [h1, h2]
          · rw [if_neg h3]
            (repeat' split) <;> first | rfl | omega
theorem Tr.get_set {α : Type} (t : Tr α) (n m : Nat) (o : Option α) (h : n < 1099511627775) : (t.set n o).get m = if m = n then o else t.get m :=
  Tr.get_setF o 40 t n m (by omega)
theorem Tr.get_map {α : Type} (f : α → α) : ∀ (t : Tr α) (n : Nat), (t.map f).get n = (t.get n).map f
  | .nil, n => rfl
  | .node l v r, n => by
    show (Tr.node (l.map f) (match v with | some x => some (f x) | none => none) (r.map f)).get n = _
    rw [Tr.get_node, Tr.get_node, Tr.get_map f l, Tr.get_map f r]
    (repeat' split) <;> first | rfl | (cases v <;> rfl)
/-! ### Code with what is claimed of it -/
/-- What an operation of a region that draws its order touches. -/
structure Fx where
  sl : List Nat
  ws : Option Nat
  hr : Bool
  hw : Bool
inductive XC where
  | skip
  | reg (al : List Nat) (ops : List CI)
  | regd (al : List Nat) (ed : List (List Nat)) (ops : List (CI × Fx))
  | seq (a b : XC)
  | cond (c : Opd) (x y : XC)
  | block (id : Nat) (b : XC)
  | loop (b : XC)
  | exit (id : Nat)
  | ret
  | no
  | lab
  | scope (b : XC)
  | rng (f : Opd) (ps : List Nat) (x y : XC)
def XC.er : XC → AC
  | .skip => .skip
  | .reg _ ops => .reg false [] ops
  | .regd _ ed ops => .reg true ed (ops.map (·.1))
  | .seq a b => .seq a.er b.er
  | .cond c x y => .cond c x.er y.er
  | .block id b => .block id b.er
  | .loop b => .loop b.er
  | .exit id => .exit id
  | .ret => .ret
  | .no => .no
  | .lab => .lab
  | .scope b => .scope b.er
  | .rng f ps x y => .rng f ps x.er y.er
/-- A function, as it is run: which of its variables lie on the heap; whether what it hands back is written no more. -/
structure FE where
  N : Nat
  xc : XC
  rs : List RV
  G : List Nat
  fr : Bool
/-! ### States -/
inductive CB where
  | cells (cs : List V)
  | map (es : List (V × V))
  | loop (e : FE) (x y : XC) (st : LoopState) (pe : Option Code) (ps : List Nat) (vs : List V)
structure CH where
  next : Nat
  t : Tr CB
  mw : Nat
structure CS where
  A : Tr T
  L : Tr (List V)
  H : CH
def CB.blk (P : Program) : CB → Blk
  | .cells cs => .cells cs
  | .map es => .map es
  | .loop e x y st pe ps vs => .loop (RC P e.N x.er y.er) st pe ps vs
noncomputable def CH.ah (P : Program) (h : CH) : AH := ⟨h.next, fun b => match h.t.get b with | some k => some (k.blk P) | none => none⟩
/-- What becomes of the heap. -/
inductive HE where
  | no
  | pushC (cs : List V)
  | pushM
  | setC (b : Nat) (cs : List V)
  | setM (b : Nat) (es : List (V × V))
  | mvC (b : Nat) (cs : List V)
  | all (h : CH)
noncomputable def HE.eff (P : Program) (H : AH) : HE → Option AH
  | .no => none
  | .pushC cs => some (H.push (.cells cs))
  | .pushM => some (H.push (.map []))
  | .setC b cs => some (H.set b (.cells cs))
  | .setM b es => some (H.set b (.map es))
  | .mvC b cs => some ((H.del b).push (.cells cs))
  | .all h => some (h.ah P)
noncomputable def HE.app (h : CH) : HE → CH
  | .no => h
  | .pushC cs => ⟨Nat.succ h.next, h.t.set h.next (some (.cells cs)), h.mw⟩
  | .pushM => ⟨Nat.succ h.next, h.t.set h.next (some (.map [])), h.mw⟩
  | .setC b cs => ⟨h.next, h.t.set b (some (.cells cs)), Nat.min b h.mw⟩
  | .setM b es => ⟨h.next, h.t.set b (some (.map es)), Nat.min b h.mw⟩
  | .mvC b cs => ⟨Nat.succ h.next, (h.t.set b none).set h.next (some (.cells cs)), Nat.min b h.mw⟩
  | .all h' => ⟨h'.next, h'.t, Nat.min h.mw h'.mw⟩
structure OC where
  x : T
  k : Option Nat
  sl : Option (Nat × Option (List V))
  he : HE
/-! ### Forcing -/
def fN {β : Type} (n : Nat) (k : Nat → β) : β := match n with | 0 => k 0 | m + 1 => k (Nat.succ m)
def fI {β : Type} (n : Int) (k : Int → β) : β := match n with | .ofNat m => fN m fun m => k (.ofNat m) | .negSucc m => fN m fun m => k (.negSucc m)
theorem fN_eq {β : Type} (n : Nat) (k : Nat → β) : fN n k = k n := by cases n <;> rfl
theorem fI_eq {β : Type} (n : Int) (k : Int → β) : fI n k = k n := by cases n <;> simp [fI, fN_eq]
def oV (v : V) : Option OC := some ⟨.v v, none, none, .no⟩
def oI (k : IntKind) (n : Int) : Option OC := fI n fun n => oV (.lit (.int k n))
def oO (v : Option V) : Option OC := match v with | some (.lit (.int k n)) => oI k n | some v => oV v | none => none
def oBool (b : Bool) : Option OC := match b with | true => oV (.lit (.bool true)) | false => oV (.lit (.bool false))
def wrapF (k : IntKind) (n : Int) : Int := match n, k with
  | .ofNat m, .i64 => bif Nat.blt m 9223372036854775808 then .ofNat m else k.wrap (.ofNat m)
  | .ofNat m, .u64 => .ofNat (Nat.mod m 18446744073709551616)
  | n, k => k.wrap n
theorem wrapF_eq (k : IntKind) (n : Int) : wrapF k n = k.wrap n := by
  cases n with
  | negSucc m => cases k <;> rfl
  | ofNat m =>
    cases k <;> try rfl
    · simp only [wrapF]
      cases h : Nat.blt m 9223372036854775808 with
      | false => rfl
      | true =>
        have h := Nat.le_of_ble_eq_true h
        simp [IntKind.wrap, IntKind.bits, IntKind.signed]
        omega
/-- An index within. -/
def ixN (i : Int) (n : Nat) : Option Nat := match i with | .ofNat m => bif Nat.blt m n then some m else none | .negSucc _ => none
theorem ixN_some {i : Int} {n m : Nat} (h : ixN i n = some m) : 0 ≤ i ∧ i < n ∧ i.toNat = m := by
  cases i with
  | negSucc _ => simp [ixN] at h
  | ofNat j =>
    simp only [ixN] at h
    cases hb : Nat.blt j n with
    | false => rw [hb] at h; cases h
    | true => rw [hb] at h; cases h; have := Nat.le_of_ble_eq_true hb; exact ⟨by simp, by simp; omega, rfl⟩
/-- A bound: up to and with. -/
def bxN (i : Int) (n : Nat) : Option Nat := match i with | .ofNat m => bif Nat.ble m n then some m else none | .negSucc _ => none
theorem bxN_some {i : Int} {n m : Nat} (h : bxN i n = some m) : (0 ≤ i ∧ i ≤ n) ∧ i.toNat = m := by
  cases i with
  | negSucc _ => simp [bxN] at h
  | ofNat j =>
    simp only [bxN] at h
    cases hb : Nat.ble j n with
    | false => rw [hb] at h; cases h
    | true => rw [hb] at h; cases h; have := Nat.le_of_ble_eq_true hb; exact ⟨⟨by simp, by simpa using this⟩, rfl⟩
def memN (n : Nat) : List Nat → Bool
  | [] => false
  | m :: r => bif Nat.beq n m then true else memN n r
def fBool {β : Type} (b : Bool) (k : Bool → β) : β := match b with | true => k true | false => k false
end Iso
