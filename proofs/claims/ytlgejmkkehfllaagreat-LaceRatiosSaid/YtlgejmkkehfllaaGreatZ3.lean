import Derived.Test.YtlgejmkkehfllaaGreatZ2
/- The abstract layer, thirteenth part: code, its instructions, its rules: one behind the other, branches, blocks, loops, regions in their order and in any order. Nothing of a program. -/
namespace Iso
open Go Go.RowKit

inductive AC where
  | skip
  | reg (draw : Bool) (ed : List (List Nat)) (ops : List CI)
  | seq (a b : AC)
  | cond (c : Opd) (x y : AC)
  | block (id : Nat) (b : AC)
  | loop (b : AC)
  | exit (id : Nat)
  | ret
  | no
  | lab
  | scope (b : AC)
  | rng (f : Opd) (ps : List Nat) (x y : AC)

/-- No range over a function within. -/
def AC.plain : AC → Bool
  | .seq a b => a.plain && b.plain
  | .cond _ x y => x.plain && y.plain
  | .block _ b => b.plain
  | .loop b => b.plain
  | .scope b => b.plain
  | .rng _ _ _ _ => false
  | _ => true

def edgesOf (o : Oper) : List Nat := (o.after.toList.filter (Region.binds .any)).map (·.on)
def dstOK (N : Nat) (c : CI) : Bool := match c.dst with | some d => decide (d < N) | none => true
def backOK : Nat → List (List Nat) → Bool
  | _, [] => true
  | j, e :: r => e.all (fun i => decide (i < j)) && backOK (j + 1) r

def compC (P : Program) (N : Nat) : Code → Option AC
  | .skip => some .skip
  | .region _ ops draw => match compOps P ops ops.toList with
    | some cs => if cs.all (dstOK N) && (!draw || backOK 0 (ops.toList.map edgesOf)) then some (.reg draw (if draw then ops.toList.map edgesOf else []) cs) else some .no
    | none => some .no
  | .seq a b => match compC P N a, compC P N b with
    | some a, some b => some (.seq a b)
    | _, _ => none
  | .cond c x y => match cOpd c, compC P N x, compC P N y with
    | some c, some x, some y => some (.cond c x y)
    | _, _, _ => some .no
  | .block id b => match compC P N b with
    | some b => some (.block id b)
    | none => none
  | .loop b => match compC P N b with
    | some b => some (.loop b)
    | none => none
  | .scope b => match compC P N b with
    | some b => some (.scope b)
    | none => none
  | .rangeFunc g ps x y => match cOpd g, compC P N x, compC P N y with
    | some g, some x, some y => if x.plain && y.plain then some (.rng g ps.toList x y) else some .no
    | _, _, _ => some .no
  | .label _ => some .lab
  | .exit id => some (.exit id)
  | .ret => some .ret
  | _ => some .no

/-! ### Operations in the text's order -/
inductive Steps' (P : Program) (l : Option Nat) (N : Nat) : List CI → List It → St → St → Prop
  | nil {s : St} : Steps' P l N [] [] s s
  | cons {c : CI} {r : List CI} {it : It} {its : List It} {s s' : St} : Good P l N c it s → Steps' P l N r its (it.app s) s' → Steps' P l N (c :: r) (it :: its) s s'

def RW (P : Program) (l : Option Nat) (N : Nat) (ops : List CI) (acc : List It) (Q : List It → St → Prop) (s : St) : Prop :=
  ∃ its s', Steps' P l N ops its s s' ∧ Q (acc ++ its) s'

theorem RW.nil {P : Program} {l : Option Nat} {N : Nat} {acc : List It} {Q : List It → St → Prop} {s : St} (h : Q acc s) : RW P l N [] acc Q s :=
  ⟨[], s, .nil, by simpa using h⟩
theorem RW.cons {P : Program} {l : Option Nat} {N : Nat} {c : CI} {r : List CI} {acc : List It} {Q : List It → St → Prop} {s : St} (it : It) (g : Good P l N c it s)
    (h : RW P l N r (acc ++ [it]) Q (it.app s)) : RW P l N (c :: r) acc Q s := by
  obtain ⟨its, s', hs, hq⟩ := h
  exact ⟨it :: its, s', .cons g hs, by simpa using hq⟩

section
variable {P : Program} {l : Option Nat} {N : Nat}

theorem compOps_get {ops : Array Oper} : ∀ {os : List Oper} {cs : List CI}, compOps P ops os = some cs → cs.length = os.length ∧ ∀ (k : Nat) (c : CI), cs[k]? = some c → ∃ o, os[k]? = some o ∧ compCI P ops o = some c
  | [], cs, h => by simp [compOps] at h; subst h; simp
  | o :: os, cs, h => by
    simp only [compOps, Option.pure_def, Option.bind_eq_bind, Option.bind_eq_some_iff] at h
    obtain ⟨c, h1, cs', h2, h3⟩ := h
    cases h3
    obtain ⟨hl, hg⟩ := compOps_get h2
    refine ⟨by simp [hl], fun k d hd => ?_⟩
    cases k with
    | zero => simp at hd; subst hd; exact ⟨o, by simp, h1⟩
    | succ k => simp at hd; simpa using hg k d hd

theorem steps_seq {ops : Array Oper} {Q : Exit → Act → World → Prop} {cs : List CI} {its : List It} {s s' : St} (h : Steps' P l N cs its s s') : ∀ (k : Nat),
    (∀ (m : Nat) (c : CI), cs[m]? = some c → ∃ o, ops[k + m]? = some o ∧ compCI P ops o = some c) → (∀ c ∈ cs, dstOK N c = true) → WF s →
    WF s' ∧ ∀ (E : Ent l) (ρ : Rn) (β : Nat → Option Nat) (a : Act) (w : World), SR E ρ β s a w → a.tmps.size = N →
      (∀ a' w' ρ' β', SR E ρ' β' s' a' w' → a'.tmps.size = N → Q .normal a' w') → wpOpsIn (FW E.e.l) 0 P ops Q (List.range' k cs.length) a w := by
  induction h with
  | nil => exact fun k _ _ hwf => ⟨hwf, fun E ρ β a w hs hN hQ => hQ a w ρ β hs hN⟩
  | cons g _ ih =>
    rename_i c r it its s s' _
    intro k hk hd hwf
    obtain ⟨o, ho, hc⟩ := hk 0 c (by simp)
    have hland := g ops k o ho hc (fun d hdd => by
      have := hd c (List.mem_cons_self ..)
      simpa [dstOK, hdd] using this) s (Agree.refl _ _) hwf
    have hrest := ih (k + 1) (fun m c' hc' => by
      obtain ⟨o', h1, h2⟩ := hk (m + 1) c' (by simpa using hc')
      exact ⟨o', by rw [show k + 1 + m = k + (m + 1) by omega]; exact h1, h2⟩) (fun c' hc' => hd c' (List.mem_cons_of_mem _ hc')) hland.1
    refine ⟨hrest.1, fun E ρ β a w hs hN hQ => ?_⟩
    simp only [List.length_cons, List.range'_succ, wpOpsIn_cons]
    exact hland.2 E ρ β a w hs hN Q _ fun a' w' ρ' β' hs' hN' => hrest.2 E ρ' β' a' w' hs' hN' hQ

/-! ### The order's check -/
def prevOK (anc : List Nat) (j : It) : Nat → List It → Bool
  | _, [] => true
  | i, x :: r => (anc.contains i || Ind x j) && prevOK anc j (i + 1) r
def chkGo : List (List Nat) → List It → List (List Nat) → List It → Bool
  | [], [], _, _ => true
  | e :: ed, j :: its, an, pv =>
    let a := e ++ e.flatMap fun k => (an[k]?).getD []
    prevOK a j 0 pv && chkGo ed its (an ++ [a]) (pv ++ [j])
  | _, _, _, _ => false
def chk (ed : List (List Nat)) (its : List It) : Bool := chkGo ed its [] []

theorem prevOK_get {anc : List Nat} {j : It} : ∀ {r : List It} {i : Nat}, prevOK anc j i r = true → ∀ k x, r[k]? = some x → anc.contains (i + k) = true ∨ Ind x j = true
  | [], _, _, k, x, hx => by simp at hx
  | y :: r, i, h, k, x, hx => by
    simp only [prevOK, Bool.and_eq_true, Bool.or_eq_true] at h
    cases k with
    | zero => simp at hx; subst hx; exact h.1
    | succ k =>
      simp at hx
      have := prevOK_get h.2 k x hx
      rw [show i + (k + 1) = i + 1 + k by omega]
      exact this

theorem mem_edgesOf {o : Oper} {i : Nat} : i ∈ edgesOf o ↔ ∃ e ∈ o.after, Region.binds .any e = true ∧ e.on = i := by
  simp only [edgesOf, List.mem_map, List.mem_filter, Array.mem_toList_iff]
  constructor
  · rintro ⟨e, ⟨h1, h2⟩, h3⟩; exact ⟨e, h1, h2, h3⟩
  · rintro ⟨e, h1, h2, h3⟩; exact ⟨e, ⟨h1, h2⟩, h3⟩

theorem chkGo_spec {ops : Array Oper} : ∀ {ed : List (List Nat)} {its : List It} {an : List (List Nat)} {pv : List It}, chkGo ed its an pv = true → an.length = pv.length →
    (∀ (k : Nat) (a : List Nat), an[k]? = some a → ∀ i ∈ a, Before ops i k) → (∀ (k : Nat) (e : List Nat), ed[k]? = some e → ∃ o, ops[pv.length + k]? = some o ∧ e = edgesOf o) →
    ∀ (p q : Nat) (x y : It), p < q → pv.length ≤ q → (pv ++ its)[p]? = some x → (pv ++ its)[q]? = some y → Before ops p q ∨ Ind x y = true
  | [], [], an, pv, _, _, _, _, p, q, x, y, _, hq, _, hy => by
    simp only [List.append_nil] at hy
    rw [List.getElem?_eq_none (by omega)] at hy
    cases hy
  | [], j :: its, an, pv, h, _, _, _, _, _, _, _, _, _, _, _ => by simp [chkGo] at h
  | e :: ed, [], an, pv, h, _, _, _, _, _, _, _, _, _, _, _ => by simp [chkGo] at h
  | e :: ed, j :: its, an, pv, h, hl, ha, he, p, q, x, y, hpq, hq, hx, hy => by
    simp only [chkGo, Bool.and_eq_true] at h
    obtain ⟨o, ho, heo⟩ := he 0 e (by simp)
    simp only [Nat.add_zero] at ho
    have hanc : ∀ i ∈ (e ++ e.flatMap fun k => (an[k]?).getD []), Before ops i pv.length := by
      intro i hi
      rcases List.mem_append.1 hi with hi | hi
      · rw [heo, mem_edgesOf] at hi
        obtain ⟨ee, h1, h2, h3⟩ := hi
        exact .one ho h1 h2 h3
      · obtain ⟨k, hk, hik⟩ := List.mem_flatMap.1 hi
        rw [heo, mem_edgesOf] at hk
        obtain ⟨ee, h1, h2, h3⟩ := hk
        cases hak : an[k]? with
        | none => rw [hak] at hik; simp at hik
        | some a =>
          rw [hak] at hik
          exact .more ho h1 h2 h3 (ha k a hak i hik)
    rcases Nat.lt_or_ge pv.length q with hlt | hge
    · refine chkGo_spec h.2 (by simp [hl]) (fun k a hk => ?_) (fun k e' hk => ?_) p q x y hpq (by simp; omega) (by simpa using hx) (by simpa using hy)
      · rcases Nat.lt_or_ge k an.length with h1 | h1
        · rw [List.getElem?_append_left h1] at hk; exact ha k a hk
        · rw [List.getElem?_append_right h1] at hk
          have : k = an.length := by
            rcases Nat.lt_or_ge (k - an.length) 1 with h2 | h2
            · omega
            · rw [List.getElem?_eq_none (by simpa using h2)] at hk; cases hk
          subst this
          simp at hk
          subst hk
          rw [hl]
          exact hanc
      · obtain ⟨o', h1, h2⟩ := he (k + 1) e' (by simpa using hk)
        exact ⟨o', by rw [show (pv ++ [j]).length + k = pv.length + (k + 1) by simp; omega]; exact h1, h2⟩
    · have : q = pv.length := by omega
      subst this
      rw [List.getElem?_append_right (by omega)] at hy
      simp at hy
      subst hy
      rw [List.getElem?_append_left (by omega)] at hx
      have := prevOK_get h.1 p x hx
      rw [Nat.zero_add] at this
      rcases this with h1 | h1
      · exact .inl (hanc p (by simpa using h1))
      · exact .inr h1

theorem backOK_get : ∀ {r : List (List Nat)} {j : Nat}, backOK j r = true → ∀ k e, r[k]? = some e → ∀ i ∈ e, i < j + k
  | [], _, _, k, e, h, i, _ => by simp at h
  | e :: r, j, h, k, e', hk, i, hi => by
    simp only [backOK, Bool.and_eq_true] at h
    cases k with
    | zero => simp at hk; subst hk; have := List.all_eq_true.1 h.1 i hi; simpa using this
    | succ k =>
      simp at hk
      have := backOK_get h.2 k e' hk i hi
      omega

/-! ### What code does to abstract states -/
def BS (P : Program) (l : Option Nat) (N : Nat) (ac : AC) (s : St) (e : Exit) (s' : St) : Prop :=
  ∀ c, compC P N c = some ac → WF s → WF s' ∧ ∀ (E : Ent l) (ρ : Rn) (β : Nat → Option Nat) (a : Act) (w : World), SR E ρ β s a w → a.tmps.size = N →
    c.wpIn (FW E.e.l) 0 P (fun e' a' w' => e' = e ∧ a'.tmps.size = N ∧ ∃ ρ' β', SR E ρ' β' s' a' w') a w

def AWp (P : Program) (l : Option Nat) (N : Nat) (ac : AC) (Q : Exit → St → Prop) (s : St) : Prop := ∃ e s', BS P l N ac s e s' ∧ Q e s'

def thenS (K : St → Prop) (Q : Exit → St → Prop) : Exit → St → Prop
  | .normal, s => K s
  | e, s => Q e s
def inBlockS (id : Nat) (Q : Exit → St → Prop) : Exit → St → Prop
  | .exit i, s => if i = id then Q .normal s else Q (.exit i) s
  | e, s => Q e s

variable {Q : Exit → St → Prop} {s : St}

theorem AWp.mono {ac : AC} {Q' : Exit → St → Prop} (h : AWp P l N ac Q s) (hq : ∀ e s, Q e s → Q' e s) : AWp P l N ac Q' s :=
  let ⟨e, s', hb, q⟩ := h; ⟨e, s', hb, hq e s' q⟩

theorem awp_skip (h : Q .normal s) : AWp P l N .skip Q s := by
  refine ⟨.normal, s, fun c hc hwf => ⟨hwf, fun E ρ β a w hs hN => ?_⟩, h⟩
  cases c with
  | skip => exact wpIn_skip ⟨rfl, hN, ρ, β, hs⟩
  | region id ops d => simp only [compC] at hc; (repeat' split at hc) <;> cases hc
  | seq a b => simp only [compC] at hc; split at hc <;> cases hc
  | cond c x y => simp only [compC] at hc; split at hc <;> cases hc
  | block id b => simp only [compC] at hc; split at hc <;> cases hc
  | loop b => simp only [compC] at hc; split at hc <;> cases hc
  | scope b => simp only [compC] at hc; split at hc <;> cases hc
  | rangeFunc g ps x y => simp only [compC] at hc; (repeat' split at hc) <;> cases hc
  | _ => simp [compC] at hc

theorem awp_exit {id : Nat} (h : Q (.exit id) s) : AWp P l N (.exit id) Q s := by
  refine ⟨.exit id, s, fun c hc hwf => ⟨hwf, fun E ρ β a w hs hN => ?_⟩, h⟩
  cases c with
  | exit i => simp only [compC] at hc; cases hc; exact wpIn_exit ⟨rfl, hN, ρ, β, hs⟩
  | region id ops d => simp only [compC] at hc; (repeat' split at hc) <;> cases hc
  | seq a b => simp only [compC] at hc; split at hc <;> cases hc
  | cond c x y => simp only [compC] at hc; split at hc <;> cases hc
  | block id b => simp only [compC] at hc; split at hc <;> cases hc
  | loop b => simp only [compC] at hc; split at hc <;> cases hc
  | scope b => simp only [compC] at hc; split at hc <;> cases hc
  | rangeFunc g ps x y => simp only [compC] at hc; (repeat' split at hc) <;> cases hc
  | _ => simp [compC] at hc

theorem awp_ret (h : Q .ret s) : AWp P l N .ret Q s := by
  refine ⟨.ret, s, fun c hc hwf => ⟨hwf, fun E ρ β a w hs hN => ?_⟩, h⟩
  cases c with
  | ret => exact wpIn_ret ⟨rfl, hN, ρ, β, hs⟩
  | region id ops d => simp only [compC] at hc; (repeat' split at hc) <;> cases hc
  | seq a b => simp only [compC] at hc; split at hc <;> cases hc
  | cond c x y => simp only [compC] at hc; split at hc <;> cases hc
  | block id b => simp only [compC] at hc; split at hc <;> cases hc
  | loop b => simp only [compC] at hc; split at hc <;> cases hc
  | scope b => simp only [compC] at hc; split at hc <;> cases hc
  | rangeFunc g ps x y => simp only [compC] at hc; (repeat' split at hc) <;> cases hc
  | _ => simp [compC] at hc

theorem compC_seq {c : Code} {x y : AC} (h : compC P N c = some (.seq x y)) : ∃ a b, c = .seq a b ∧ compC P N a = some x ∧ compC P N b = some y := by
  cases c with
  | region id ops d => simp only [compC] at h; (repeat' split at h) <;> cases h
  | seq a b =>
    simp only [compC] at h
    split at h
    · rename_i h1 h2; cases h; exact ⟨a, b, rfl, h1, h2⟩
    · cases h
  | cond c x y => simp only [compC] at h; split at h <;> cases h
  | block id b => simp only [compC] at h; split at h <;> cases h
  | loop b => simp only [compC] at h; split at h <;> cases h
  | scope b => simp only [compC] at h; split at h <;> cases h
  | rangeFunc g ps x y => simp only [compC] at h; (repeat' split at h) <;> cases h
  | _ => simp [compC] at h

theorem compC_cond {c : Code} {k : Opd} {x y : AC} (h : compC P N c = some (.cond k x y)) : ∃ d a b, c = .cond d a b ∧ cOpd d = some k ∧ compC P N a = some x ∧ compC P N b = some y := by
  cases c with
  | region id ops d => simp only [compC] at h; (repeat' split at h) <;> cases h
  | cond d a b =>
    simp only [compC] at h
    split at h
    · rename_i h0 h1 h2; cases h; exact ⟨d, a, b, rfl, h0, h1, h2⟩
    · cases h
  | seq a b => simp only [compC] at h; split at h <;> cases h
  | block id b => simp only [compC] at h; split at h <;> cases h
  | loop b => simp only [compC] at h; split at h <;> cases h
  | scope b => simp only [compC] at h; split at h <;> cases h
  | rangeFunc g ps x y => simp only [compC] at h; (repeat' split at h) <;> cases h
  | _ => simp [compC] at h

theorem compC_block {c : Code} {i : Nat} {x : AC} (h : compC P N c = some (.block i x)) : ∃ a, c = .block i a ∧ compC P N a = some x := by
  cases c with
  | region id ops d => simp only [compC] at h; (repeat' split at h) <;> cases h
  | block id b =>
    simp only [compC] at h
    split at h
    · rename_i h1; cases h; exact ⟨b, rfl, h1⟩
    · cases h
  | seq a b => simp only [compC] at h; split at h <;> cases h
  | cond c x y => simp only [compC] at h; split at h <;> cases h
  | loop b => simp only [compC] at h; split at h <;> cases h
  | scope b => simp only [compC] at h; split at h <;> cases h
  | rangeFunc g ps x y => simp only [compC] at h; (repeat' split at h) <;> cases h
  | _ => simp [compC] at h

theorem compC_loop {c : Code} {x : AC} (h : compC P N c = some (.loop x)) : ∃ a, c = .loop a ∧ compC P N a = some x := by
  cases c with
  | region id ops d => simp only [compC] at h; (repeat' split at h) <;> cases h
  | loop b =>
    simp only [compC] at h
    split at h
    · rename_i h1; cases h; exact ⟨b, rfl, h1⟩
    · cases h
  | seq a b => simp only [compC] at h; split at h <;> cases h
  | cond c x y => simp only [compC] at h; split at h <;> cases h
  | block id b => simp only [compC] at h; split at h <;> cases h
  | scope b => simp only [compC] at h; split at h <;> cases h
  | rangeFunc g ps x y => simp only [compC] at h; (repeat' split at h) <;> cases h
  | _ => simp [compC] at h

theorem compC_reg {c : Code} {d : Bool} {ed : List (List Nat)} {cs : List CI} (h : compC P N c = some (.reg d ed cs)) :
    ∃ id ops, c = .region id ops d ∧ compOps P ops ops.toList = some cs ∧ (∀ x ∈ cs, dstOK N x = true) ∧ (d = true → ed = ops.toList.map edgesOf ∧ backOK 0 ed = true) := by
  cases c with
  | region id ops d' =>
    simp only [compC] at h
    split at h
    · rename_i cs' hcs
      split at h
      · rename_i hb
        cases h
        simp only [Bool.and_eq_true] at hb
        refine ⟨id, ops, rfl, hcs, List.all_eq_true.1 hb.1, fun hd => ?_⟩
        subst hd
        simpa using hb.2
      · cases h
    · cases h
  | seq a b => simp only [compC] at h; split at h <;> cases h
  | cond c x y => simp only [compC] at h; split at h <;> cases h
  | block id b => simp only [compC] at h; split at h <;> cases h
  | loop b => simp only [compC] at h; split at h <;> cases h
  | scope b => simp only [compC] at h; split at h <;> cases h
  | rangeFunc g ps x y => simp only [compC] at h; (repeat' split at h) <;> cases h
  | _ => simp [compC] at h

theorem awp_seq {x y : AC} (h : AWp P l N x (thenS (fun s' => AWp P l N y Q s') Q) s) : AWp P l N (.seq x y) Q s := by
  obtain ⟨e, s', hb, hq⟩ := h
  cases e with
  | normal =>
    obtain ⟨e2, s2, hb2, hq2⟩ := hq
    refine ⟨e2, s2, fun c hc hwf => ?_, hq2⟩
    obtain ⟨a, b, rfl, ha, hb'⟩ := compC_seq hc
    have h1 := hb a ha hwf
    have h2 := hb2 b hb' h1.1
    refine ⟨h2.1, fun E ρ β a' w hs hN => wpIn_seq (wpIn_mono (h1.2 E ρ β a' w hs hN) ?_)⟩
    rintro e a1 w1 ⟨rfl, hN1, ρ1, β1, hs1⟩
    exact h2.2 E ρ1 β1 a1 w1 hs1 hN1
  | _ =>
    refine ⟨_, s', fun c hc hwf => ?_, hq⟩
    obtain ⟨a, b, rfl, ha, hb'⟩ := compC_seq hc
    have h1 := hb a ha hwf
    refine ⟨h1.1, fun E ρ β a' w hs hN => wpIn_seq (wpIn_mono (h1.2 E ρ β a' w hs hN) ?_)⟩
    rintro e a1 w1 ⟨rfl, hN1, ρ1, β1, hs1⟩
    exact ⟨rfl, hN1, ρ1, β1, hs1⟩

theorem awp_cond {k : Opd} {x y : AC} {b : Bool} (hk : k.ev s.A = .v (.lit (.bool b))) (ht : b = true → AWp P l N x Q s) (hf : b = false → AWp P l N y Q s) : AWp P l N (.cond k x y) Q s := by
  have key : ∀ {t : Bool}, b = t → ∀ e s', BS P l N (if t then x else y) s e s' → BS P l N (.cond k x y) s e s' := by
    intro t ht e s' hb c hc hwf
    obtain ⟨d, a, a', rfl, h0, h1, h2⟩ := compC_cond hc
    have h3 := hb (if t then a else a') (by cases t <;> simp [h1, h2]) hwf
    refine ⟨h3.1, fun E ρ β ac w hs hN => ?_⟩
    have hev := hs.opd h0
    rw [hk] at hev
    simp only [TR, VR] at hev
    exact wpIn_cond (hev.trans (by rw [ht])) (h3.2 E ρ β ac w hs hN)
  cases hb : b with
  | true => obtain ⟨e, s', h1, h2⟩ := ht hb; exact ⟨e, s', key hb e s' h1, h2⟩
  | false => obtain ⟨e, s', h1, h2⟩ := hf hb; exact ⟨e, s', key hb e s' h1, h2⟩

theorem awp_block {id : Nat} {x : AC} (h : AWp P l N x (inBlockS id Q) s) : AWp P l N (.block id x) Q s := by
  obtain ⟨e, s', hb, hq⟩ := h
  have key : ∀ e', (∀ a w, e' = e' → Exit.inBlock id (fun e'' (_ : Act) (_ : World) => e'' = e') e a w) → BS P l N (.block id x) s e' s' := by
    intro e' he c hc hwf
    obtain ⟨a, rfl, ha⟩ := compC_block hc
    have h1 := hb a ha hwf
    refine ⟨h1.1, fun E ρ β ac w hs hN => wpIn_block (wpIn_mono (h1.2 E ρ β ac w hs hN) ?_)⟩
    rintro e1 a1 w1 ⟨rfl, hN1, ρ1, β1, hs1⟩
    have := he a1 w1 rfl
    cases e1 with
    | exit i =>
      simp only [Exit.inBlock] at this ⊢
      split at this <;> rename_i hi
      · rw [if_pos hi]; exact ⟨this, hN1, ρ1, β1, hs1⟩
      · rw [if_neg hi]; exact ⟨this, hN1, ρ1, β1, hs1⟩
    | _ => exact ⟨this, hN1, ρ1, β1, hs1⟩
  cases e with
  | exit i =>
    simp only [inBlockS] at hq
    split at hq
    · rename_i hi; exact ⟨.normal, s', key _ (fun a w _ => by simp [Exit.inBlock, hi]), hq⟩
    · rename_i hi; exact ⟨.exit i, s', key _ (fun a w _ => by simp [Exit.inBlock, hi]), hq⟩
  | normal => exact ⟨_, s', key _ (fun a w _ => rfl), hq⟩
  | _ => exact ⟨_, s', key _ (fun a w _ => rfl), hq⟩

theorem awp_lab (h : Q .normal s) : AWp P l N .lab Q s := by
  refine ⟨.normal, s, fun c hc hwf => ⟨hwf, fun E ρ β a w hs hN => ?_⟩, h⟩
  cases c with
  | label l => exact wpIn_label ⟨rfl, hN, ρ, β, hs⟩
  | region id ops d => simp only [compC] at hc; (repeat' split at hc) <;> cases hc
  | seq a b => simp only [compC] at hc; split at hc <;> cases hc
  | cond c x y => simp only [compC] at hc; split at hc <;> cases hc
  | block id b => simp only [compC] at hc; split at hc <;> cases hc
  | loop b => simp only [compC] at hc; split at hc <;> cases hc
  | scope b => simp only [compC] at hc; split at hc <;> cases hc
  | rangeFunc g ps x y => simp only [compC] at hc; (repeat' split at hc) <;> cases hc
  | _ => simp [compC] at hc

theorem compC_scope {c : Code} {x : AC} (h : compC P N c = some (.scope x)) : ∃ a, c = .scope a ∧ compC P N a = some x := by
  cases c with
  | region id ops d => simp only [compC] at h; (repeat' split at h) <;> cases h
  | scope b =>
    simp only [compC] at h
    split at h
    · rename_i h1; cases h; exact ⟨b, rfl, h1⟩
    · cases h
  | seq a b => simp only [compC] at h; split at h <;> cases h
  | cond c x y => simp only [compC] at h; split at h <;> cases h
  | block id b => simp only [compC] at h; split at h <;> cases h
  | loop b => simp only [compC] at h; split at h <;> cases h
  | rangeFunc g ps x y => simp only [compC] at h; (repeat' split at h) <;> cases h
  | _ => simp [compC] at h

theorem compC_rng {c : Code} {f : Opd} {ps : List Nat} {x y : AC} (h : compC P N c = some (.rng f ps x y)) : ∃ g qs a b, c = .rangeFunc g qs a b ∧ cOpd g = some f ∧ qs.toList = ps ∧ compC P N a = some x ∧ compC P N b = some y := by
  cases c with
  | region id ops d => simp only [compC] at h; (repeat' split at h) <;> cases h
  | rangeFunc g qs a b =>
    simp only [compC] at h
    split at h
    · rename_i h0 h1 h2
      split at h
      · cases h; exact ⟨g, qs, a, b, rfl, h0, rfl, h1, h2⟩
      · cases h
    · cases h
  | scope b => simp only [compC] at h; split at h <;> cases h
  | seq a b => simp only [compC] at h; split at h <;> cases h
  | cond c x y => simp only [compC] at h; split at h <;> cases h
  | block id b => simp only [compC] at h; split at h <;> cases h
  | loop b => simp only [compC] at h; split at h <;> cases h
  | _ => simp [compC] at h

/-- A scope into which nobody jumps back. -/
theorem awp_scope {x : AC} (h : AWp P l N x (fun e s' => (∀ t, e ≠ .goto t) ∧ Q e s') s) : AWp P l N (.scope x) Q s := by
  obtain ⟨e, s', hb, hg, hq⟩ := h
  refine ⟨e, s', fun c hc hwf => ?_, hq⟩
  obtain ⟨d, rfl, hd⟩ := compC_scope hc
  have h1 := hb d hd hwf
  refine ⟨h1.1, fun E ρ β a w hs hN b k cs hro hfb hr => ?_⟩
  obtain ⟨e1, a1, w1, ⟨rfl, q⟩, harr⟩ := h1.2 E ρ β a w hs hN b (.inScope d :: k) cs hro hfb hr
  have s1 : StepsIn (Machine.fenced P (FW E.e.l)) P (lone (b.atR a (.code (.scope d) :: k)) cs w) (lone (b.atR a (.code d :: .inScope d :: k)) cs w) :=
    .one (fenced_calm hfb hr rfl) (step_lone_go (by simp [stepG, stepG.exec, Frame.atR]))
  cases e1 with
  | normal =>
    exact ⟨_, a1, w1, ⟨rfl, q⟩, .of_steps s1 (StepsIn.trans harr (.one (fenced_calm hfb hr rfl) (step_lone_go (by simp [stepG, stepG.exec, Frame.atR]))))⟩
  | goto t => exact absurd rfl (hg t)
  | exit id => exact ⟨_, a1, w1, ⟨rfl, q⟩, .of_steps s1 ⟨fun k' hk => harr.1 k' (by simpa [exitTo] using hk), fun hr' hk => harr.2 hr' (by simpa [exitTo] using hk)⟩⟩
  | ret => exact ⟨_, a1, w1, ⟨rfl, q⟩, .of_steps s1 harr⟩
  | panic ch => exact ⟨_, a1, w1, ⟨rfl, q⟩, .of_steps s1 harr⟩
  | outgrown => exact ⟨_, a1, w1, ⟨rfl, q⟩, .of_steps s1 harr⟩

/-- What says less. -/
def Le (s t : St) : Prop := WF s → WF t ∧ ∀ (E : Entry) (ρ : Rn) (β : Nat → Option Nat) (a : Act) (w : World), SR E ρ β s a w → ∃ ρ' β', SR E ρ' β' t a w

theorem Le.refl (s : St) : Le s s := fun h => ⟨h, fun E ρ β a w hs => ⟨ρ, β, hs⟩⟩
theorem Le.trans {s t u : St} (h : Le s t) (k : Le t u) : Le s u := fun hw =>
  ⟨(k (h hw).1).1, fun E ρ β a w hs => let ⟨ρ1, β1, h1⟩ := (h hw).2 E ρ β a w hs; (k (h hw).1).2 E ρ1 β1 a w h1⟩

theorem awp_le {ac : AC} {t : St} (hle : Le s t) (h : AWp P l N ac Q t) : AWp P l N ac Q s := by
  obtain ⟨e, s', hb, hq⟩ := h
  refine ⟨e, s', fun c hc hwf => ?_, hq⟩
  have h1 := hle hwf
  have h2 := hb c hc h1.1
  refine ⟨h2.1, fun E ρ β a w hs hN => ?_⟩
  obtain ⟨ρ1, β1, hs1⟩ := h1.2 E ρ β a w hs
  exact h2.2 E ρ1 β1 a w hs1 hN

theorem awp_loop {γ : Type} {x : AC} (I : γ → St) (μ : γ → Nat) (g : γ) (hs : Le s (I g))
    (round : ∀ g, AWp P l N x (thenS (fun s' => ∃ g', μ g' < μ g ∧ Le s' (I g')) Q) (I g)) : AWp P l N (.loop x) Q s := by
  refine awp_le hs ?_
  have key : ∀ n g, μ g = n → ∃ e s', Q e s' ∧ (∀ c, compC P N c = some x → WF (I g) → WF s' ∧ ∀ (E : Ent l) (ρ : Rn) (β : Nat → Option Nat) (a : Act) (w : World), SR E ρ β (I g) a w → a.tmps.size = N →
      ∀ (b : Frame) (k : List Item) (cs : List Frame), b.roundOf = (FW E.e.l).round → (FW E.e.l).fn b.fn → (FW E.e.l).room (cs.length + 1 + 0) →
        ∃ e' a' w', (e' = e ∧ a'.tmps.size = N ∧ ∃ ρ' β', SR E ρ' β' s' a' w') ∧ ArrivesIn (Machine.fenced P (FW E.e.l)) P (lone (b.atR a (.code c :: .inLoop c :: k)) cs w) b k cs e' a' w') := by
    intro n
    induction n using Nat.strongRecOn with
    | _ n ih =>
      intro g hn
      obtain ⟨e, s1, hb, hq⟩ := round g
      cases e with
      | normal =>
        obtain ⟨g', hlt, hle⟩ := hq
        obtain ⟨e2, s2, hq2, h2⟩ := ih (μ g') (hn ▸ hlt) g' rfl
        refine ⟨e2, s2, hq2, fun c hc hwf => ?_⟩
        have h1 := hb c hc hwf
        have hl := hle h1.1
        have h3 := h2 c hc hl.1
        refine ⟨h3.1, fun E ρ β a w hs hN b k cs hro hfb hr => ?_⟩
        obtain ⟨e1, a1, w1, ⟨rfl, hN1, ρ1, β1, hs1⟩, harr⟩ := h1.2 E ρ β a w hs hN b (.inLoop c :: k) cs hro hfb hr
        obtain ⟨ρ2, β2, hs2⟩ := hl.2 E ρ1 β1 a1 w1 hs1
        obtain ⟨e', a', w', q, harr2⟩ := h3.2 E ρ2 β2 a1 w1 hs2 hN1 b k cs hro hfb hr
        exact ⟨e', a', w', q, .of_steps (StepsIn.trans harr (.one (fenced_calm hfb hr rfl) stepR_inLoop)) harr2⟩
      | _ =>
        refine ⟨_, s1, hq, fun c hc hwf => ?_⟩
        have h1 := hb c hc hwf
        refine ⟨h1.1, fun E ρ β a w hs hN b k cs hro hfb hr => ?_⟩
        obtain ⟨e1, a1, w1, ⟨rfl, q⟩, harr⟩ := h1.2 E ρ β a w hs hN b (.inLoop c :: k) cs hro hfb hr
        exact ⟨_, a1, w1, ⟨rfl, q⟩, .pass (x := .inLoop c) rfl (fun _ _ => .inl (by simp)) harr⟩
  obtain ⟨e, s', hq, h⟩ := key _ g rfl
  refine ⟨e, s', fun c hc hwf => ?_, hq⟩
  obtain ⟨a, rfl, ha⟩ := compC_loop hc
  have h1 := h a ha hwf
  refine ⟨h1.1, fun E ρ β ac w hs hN b k cs hro hfb hr => ?_⟩
  obtain ⟨e', a', w', q, harr⟩ := h1.2 E ρ β ac w hs hN b k cs hro hfb hr
  exact ⟨e', a', w', q, .of_steps (.one (fenced_calm hfb hr rfl) stepR_loop) harr⟩

theorem awp_reg {ed : List (List Nat)} {cs : List CI} (h : RW P l N cs [] (fun _ s' => Q .normal s') s) : AWp P l N (.reg false ed cs) Q s := by
  obtain ⟨its, s', hst, hq⟩ := h
  refine ⟨.normal, s', fun c hc hwf => ?_, hq⟩
  obtain ⟨id, ops, rfl, hops, hd, _⟩ := compC_reg hc
  obtain ⟨hlen, hget⟩ := compOps_get hops
  have hseq := fun Q => steps_seq (Q := Q) hst (ops := ops) 0 (fun m c hm => by
    obtain ⟨o, h1, h2⟩ := hget m c hm
    exact ⟨o, by simpa using h1, h2⟩) hd hwf
  refine ⟨(hseq fun _ _ _ => True).1, fun E ρ β a w hs hN => wpIn_region ?_⟩
  have := (hseq (fun e' a' w' => e' = Exit.normal ∧ a'.tmps.size = N ∧ ∃ ρ' β', SR E ρ' β' s' a' w')).2 E ρ β a w hs hN (fun a' w' ρ' β' hs' hN' => ⟨rfl, hN', ρ', β', hs'⟩)
  rw [List.range_eq_range', ← Array.length_toList, ← hlen]
  exact this

def nodes : Nat → List CI → List It → List Nd
  | k, c :: cs, it :: its => ⟨k, c, it⟩ :: nodes (k + 1) cs its
  | _, _, _ => []

theorem nodes_runs {cs : List CI} {its : List It} {s s' : St} (h : Steps' P l N cs its s s') : ∀ k, RunsL P l N (nodes k cs its) s s' := by
  induction h with
  | nil => exact fun _ => .nil (Same.refl _)
  | cons g _ ih => exact fun k => .cons g (ih (k + 1))
theorem Steps'.len {cs : List CI} {its : List It} {s s' : St} (h : Steps' P l N cs its s s') : its.length = cs.length := by
  induction h with
  | nil => rfl
  | cons _ _ ih => simp [ih]
theorem nodes_get : ∀ (k : Nat) (cs : List CI) (its : List It), its.length = cs.length → (nodes k cs its).length = cs.length ∧ ∀ (m : Nat) (n : Nd), (nodes k cs its)[m]? = some n → n.i = k + m ∧ cs[m]? = some n.ci ∧ its[m]? = some n.it
  | k, [], [], _ => by simp [nodes]
  | k, c :: cs, it :: its, h => by
    obtain ⟨h1, h2⟩ := nodes_get (k + 1) cs its (by simpa using h)
    refine ⟨by simp [nodes, h1], fun m n hm => ?_⟩
    cases m with
    | zero => simp [nodes] at hm; subst hm; simp
    | succ m =>
      simp [nodes] at hm
      obtain ⟨h3, h4, h5⟩ := h2 m n hm
      exact ⟨by omega, by simpa using h4, by simpa using h5⟩
  | k, [], _ :: _, h => by simp at h
  | k, _ :: _, [], h => by simp at h

theorem awp_regd {ed : List (List Nat)} {cs : List CI} (hm : P.follows .mixedOrders = true) (h : RW P l N cs [] (fun its s' => chk ed its = true ∧ Q .normal s') s) : AWp P l N (.reg true ed cs) Q s := by
  obtain ⟨its, s', hst, hck, hq⟩ := h
  refine ⟨.normal, s', fun c hc hwf => ?_, hq⟩
  obtain ⟨id, ops, rfl, hops, hd, hed⟩ := compC_reg hc
  obtain ⟨hed, hback⟩ := hed rfl
  obtain ⟨hlen, hget⟩ := compOps_get hops
  have hseq := steps_seq (Q := fun _ _ _ => True) hst (ops := ops) 0 (fun m c hm => by
    obtain ⟨o, h1, h2⟩ := hget m c hm
    exact ⟨o, by simpa using h1, h2⟩) hd hwf
  have hnl := hst.len
  obtain ⟨hlen2, hn⟩ := nodes_get 0 cs its hnl
  have hsz : ops.size = cs.length := by rw [← Array.length_toList, ← hlen]
  refine ⟨hseq.1, fun E ρ β a w hs hN => wpIn_region_any hm ?_⟩
  have hspec := chkGo_spec (ops := ops) hck rfl (fun k a hk => by simp at hk) (fun k e hk => by
    rw [hed] at hk
    simp only [List.getElem?_map, Option.map_eq_some_iff] at hk
    obtain ⟨o, h1, h2⟩ := hk
    exact ⟨o, by simpa using h1, h2.symm⟩)
  have hord := any_order (P := P) (l := l) (N := N) (ops := ops) (Q := fun e' a' w' => e' = Exit.normal ∧ a'.tmps.size = N ∧ ∃ ρ' β', SR E ρ' β' s' a' w') (E := E) (s' := s')
    (fun j o hj e he hb => by
      have := backOK_get hback j (edgesOf o) (by rw [hed]; simp [hj]) e.on (mem_edgesOf.2 ⟨e, he, hb, rfl⟩)
      omega)
    (fun a' w' ρ' β' hs' _ hN' => ⟨rfl, hN', ρ', β', hs'⟩)
    (nodes 0 cs its) s (Array.replicate ops.size false) ρ β a { w with drawn := w.drawn + 1 } (by simp)
    (fun n hmem => by
      obtain ⟨m, hm⟩ := List.mem_iff_getElem?.1 hmem
      obtain ⟨h1, h2, h3⟩ := hn m n hm
      obtain ⟨o, h4, h5⟩ := hget m n.ci h2
      refine ⟨o, by rw [h1]; simpa using h4, h5, fun d hdd => ?_⟩
      have := hd n.ci (List.mem_of_getElem? h2)
      simpa [dstOK, hdd] using this)
    (List.pairwise_iff_getElem.2 fun p q hp hq hpq => by
      obtain ⟨h1, h2, h3⟩ := hn p _ (List.getElem?_eq_getElem hp)
      obtain ⟨h4, h5, h6⟩ := hn q _ (List.getElem?_eq_getElem hq)
      refine ⟨by omega, ?_⟩
      have := hspec p q _ _ hpq (Nat.zero_le _) (by simpa using h3) (by simpa using h6)
      rw [h1, h4]
      simpa using this)
    (fun i hi => by
      have : i < (nodes 0 cs its).length := by omega
      obtain ⟨h1, h2, h3⟩ := hn i _ (List.getElem?_eq_getElem this)
      simp only [Array.getD_eq_getD_getElem?, Array.getElem?_replicate, hi, if_true, Option.getD_some, true_iff]
      exact ⟨_, List.getElem_mem this, by rw [h1]; omega⟩)
    (fun j o hj hl => by
      simp only [Array.getD_eq_getD_getElem?, Array.getElem?_replicate] at hl
      split at hl <;> simp at hl)
    (nodes_runs hst 0) hwf (hs.drew) hN
  rw [hlen2, ← hsz] at hord
  exact hord

end
end Iso

/- The abstract layer, fourteenth part: instructions as steps, calls, functions, giving up what is not needed. Nothing of a program. -/
namespace Iso
open Go Go.RowKit

section
variable {P : Program} {l : Option Nat} {N : Nat} {G : List Nat}

/-- What an operation does, whatever its guard says. -/
def GoodI (P : Program) (l : Option Nat) (N : Nat) (dst : Option Nat) (i : I) (it : It) (s : St) : Prop :=
  ∀ o : Oper, comp1 P o = some i → o.dst = dst → (∀ d, dst = some d → d < N) → ∀ t, Agree it.rd s t → WF t →
    WF (it.app t) ∧ ∀ (E : Ent l) (ρ : Rn) (β : Nat → Option Nat) (a : Act) (w : World), SR E ρ β t a w → a.tmps.size = N →
      ∀ (Q : Exit → Act → World → Prop) (K : Act → World → Prop), (∀ a' w' ρ' β', SR E ρ' β' (it.app t) a' w' → a'.tmps.size = N → K a' w') → o.wpIn (FW E.e.l) 0 P a w K Q

theorem compCI_none {ops : Array Oper} {o : Oper} {dst : Option Nat} {i : I} (h : compCI P ops o = some ⟨dst, none, i⟩) : comp1 P o = some i ∧ o.dst = dst ∧ o.guard = none := by
  simp only [compCI, Option.pure_def, Option.bind_eq_bind, Option.bind_eq_some_iff] at h
  obtain ⟨j, h1, h⟩ := h
  split at h
  · rename_i hg; cases h; exact ⟨h1, rfl, hg⟩
  · simp only [Option.bind_eq_some_iff] at h
    obtain ⟨_, _, _, _, h⟩ := h
    cases h
theorem compCI_some {ops : Array Oper} {o : Oper} {dst : Option Nat} {i : I} {g : Nat} {want : Bool} (h : compCI P ops o = some ⟨dst, some (g, want), i⟩) :
    comp1 P o = some i ∧ o.dst = dst ∧ ∃ j oj, o.guard = some (j, want) ∧ ops[j]? = some oj ∧ oj.dst = some g := by
  simp only [compCI, Option.pure_def, Option.bind_eq_bind, Option.bind_eq_some_iff] at h
  obtain ⟨k, h1, h⟩ := h
  split at h
  · cases h
  · rename_i j w hg
    simp only [Option.bind_eq_some_iff] at h
    obtain ⟨oj, h2, t, h3, h⟩ := h
    cases h
    exact ⟨h1, rfl, j, oj, hg, h2, h3⟩

theorem good_plain {dst : Option Nat} {i : I} {it : It} {s : St} (h : GoodI P l N dst i it s) : Good P l N ⟨dst, none, i⟩ it s := by
  intro ops k o ho hc hd t ht hwf
  obtain ⟨h1, h2, h3⟩ := compCI_none hc
  obtain ⟨h4, h5⟩ := h o h1 h2 hd t ht hwf
  refine ⟨h4, fun E ρ β a w hs hN Q K hK => ?_⟩
  simp only [wpOpIn, ho]
  rw [if_pos (by simp [Region.wanted, h3])]
  exact h5 E ρ β a w hs hN Q K hK

theorem yield_of {ops : Array Oper} {j g : Nat} {oj : Oper} {E : Entry} {ρ : Rn} {β : Nat → Option Nat} {t : St} {a : Act} {w : World} {b : Bool} (hs : SR E ρ β t a w) (h1 : ops[j]? = some oj) (h2 : oj.dst = some g) (hg : t.A.get g = .v (.lit (.bool b))) :
    yielded ops a.tmps j = some b := by
  have h3 := hs.tmps g
  rw [hg] at h3
  simp only [TR, VR] at h3
  simp only [yielded, h1, h2, Option.bind_some]
  rw [Array.getD_eq_getD_getElem?] at h3
  cases hx : a.tmps[g]? with
  | none => rw [hx] at h3; simp [undef] at h3
  | some x => rw [hx] at h3; simp at h3; subst h3; rfl

theorem good_guard {dst : Option Nat} {i : I} {x : T} {rd : Rd} {eff : Eff} {s : St} {g : Nat} {want : Bool} (hg : s.A.get g = .v (.lit (.bool want))) (h : GoodI P l N dst i ⟨dst, x, rd, eff⟩ s) :
    Good P l N ⟨dst, some (g, want), i⟩ ⟨dst, x, ⟨g :: rd.tmps, rd.slots, rd.heap⟩, eff⟩ s := by
  intro ops k o ho hc hd t ht hwf
  obtain ⟨h1, h2, j, oj, h3, h6, h7⟩ := compCI_some hc
  obtain ⟨h4, h5⟩ := h o h1 h2 hd t ⟨fun n hn => ht.A n (List.mem_cons_of_mem _ hn), ht.L, ht.H⟩ hwf
  refine ⟨h4, fun E ρ β a w hs hN Q K hK => ?_⟩
  simp only [wpOpIn, ho]
  have hy := yield_of hs h6 h7 ((ht.A g (List.mem_cons_self ..)).symm.trans hg)
  rw [if_pos (by simp [Region.wanted, h3, hy])]
  exact h5 E ρ β a w hs hN Q K hK

theorem WF.any {t : St} (h : WF t) (d : Option Nat) (x : V) : WF ⟨t.A.put? d (.v x), t.L, t.H⟩ := fun n e o hn => by
  simp only [Env.get_put?] at hn
  split at hn
  · cases hn
  · exact h n e o hn

theorem good_skip {dst : Option Nat} {i : I} {s : St} {g : Nat} {want b : Bool} (hg : s.A.get g = .v (.lit (.bool b))) (hne : b ≠ want) :
    Good P l N ⟨dst, some (g, want), i⟩ ⟨dst, .v .any, { tmps := [g] }, {}⟩ s := by
  intro ops k o ho hc hd t ht hwf
  obtain ⟨h1, h2, j, oj, h3, h6, h7⟩ := compCI_some hc
  refine ⟨hwf.any dst .any, fun E ρ β a w hs hN Q K hK => ?_⟩
  simp only [wpOpIn, ho]
  have hy := yield_of hs h6 h7 ((ht.A g (List.mem_cons_self ..)).symm.trans hg)
  rw [if_neg (by simp [Region.wanted, h3, hy, hne])]
  refine ⟨fun f hf => trivial, ?_⟩
  subst h2
  exact hK _ _ ρ β (hs.put o.dst (fun d h => by rw [hN]; exact hd d h) (by simp [TR, VR])) (by rw [put_size]; exact hN)

theorem rw_step {dst : Option Nat} {i : I} {it : It} {s : St} {r : List CI} {acc : List It} {Q : List It → St → Prop} (h : GoodI P l N dst i it s) (k : RW P l N r (acc ++ [it]) Q (it.app s)) : RW P l N (⟨dst, none, i⟩ :: r) acc Q s :=
  .cons it (good_plain h) k
theorem rw_gstep {dst : Option Nat} {i : I} {x : T} {rd : Rd} {eff : Eff} {s : St} {g : Nat} {want : Bool} {r : List CI} {acc : List It} {Q : List It → St → Prop} (hg : s.A.get g = .v (.lit (.bool want))) (h : GoodI P l N dst i ⟨dst, x, rd, eff⟩ s)
    (k : RW P l N r (acc ++ [⟨dst, x, ⟨g :: rd.tmps, rd.slots, rd.heap⟩, eff⟩]) Q (It.app ⟨dst, x, ⟨g :: rd.tmps, rd.slots, rd.heap⟩, eff⟩ s)) : RW P l N (⟨dst, some (g, want), i⟩ :: r) acc Q s :=
  .cons _ (good_guard hg h) k
theorem rw_gskip {dst : Option Nat} {i : I} {s : St} {g : Nat} {want b : Bool} {r : List CI} {acc : List It} {Q : List It → St → Prop} (hg : s.A.get g = .v (.lit (.bool b))) (hne : b ≠ want)
    (k : RW P l N r (acc ++ [⟨dst, .v .any, { tmps := [g] }, {}⟩]) Q (It.app ⟨dst, .v .any, { tmps := [g] }, {}⟩ s)) : RW P l N (⟨dst, some (g, want), i⟩ :: r) acc Q s :=
  .cons _ (good_skip hg hne) k

theorem comp1_comp {o : Oper} {i : I} (h : comp1 P o = some i) : comp P o = some i ∧ (callI i = true → ∃ c, o.op = .call c) := by
  simp only [comp1] at h
  split at h
  · rename_i j hj
    split at h
    · cases h
    · rename_i hn
      cases h
      refine ⟨hj, fun hi => ?_⟩
      cases hop : o.op with
      | call c => exact ⟨c, rfl⟩
      | _ => simp [hi, isCallOp, hop] at hn
  · cases h

theorem comp_no_defer {o : Oper} {i : I} (h : comp P o = some i) (c : Call) : o.op ≠ .defer c := by
  intro hd
  simp [comp, hd] at h

/-- An instruction that 'aop' knows. -/
theorem goodI_of_aop {dst : Option Nat} {i : I} {it : It} {s : St} (hdst : it.dst = dst)
    (h : ∀ t, Agree it.rd s t → WF t → WF (it.app t) ∧ ∃ s', aop G dst i t = some (it.x, s') ∧ Same ⟨s'.A.put? it.dst it.x, s'.L, s'.H⟩ (it.app t)) : GoodI P l N dst i it s := by
  intro o hc ho hd t ht hwf
  have hc := (comp1_comp hc).1
  obtain ⟨h1, s', h2, h3⟩ := h t ht hwf
  refine ⟨h1, fun E ρ β a w hs hN Q K hK => ?_⟩
  subst ho
  obtain ⟨w', y, ρ', β', hrun, hs', hx⟩ := comp_sound hs hc h2
  refine ⟨fun f hf => trivial, ?_⟩
  rw [Oper.semAt_eq _ _ _ (comp_no_defer hc)]
  have hput := (hs'.put o.dst (fun d h => by rw [hN]; exact hd d h) hx)
  rw [hdst] at h3
  have hfin := hK (a.put o.dst y) w' ρ' β' (hput.same h3) (by rw [put_size]; exact hN)
  rcases hrun with hr | ⟨hr, hy⟩
  · rw [hr]; exact hfin
  · rw [hr]; subst hy; exact hfin

/-! ### Calls -/
def E0 (ρ : Rn) (H : AH) (w : World) : Entry := ⟨ρ.φ, H.next, ρ.Y, w, none⟩
def HR (ρ : Rn) (H : AH) (w : World) : Prop := SR (E0 ρ H w) ρ (fun _ => none) ⟨[], [], H⟩ ⟨#[], []⟩ w

/-- A function, called with these arguments upon this heap, returns this, and leaves this heap. -/
def FN (P : Program) (f : Nat) (args : List V) (H : AH) (v : V) (H' : AH) : Prop :=
  ∀ (ρ : Rn) (w : World) (xs : List Value), HR ρ H w → VRs ρ w args xs →
    CallsIn Fence.wide 0 P f xs.toArray w fun e w' => ∃ y ρ', e = .returned y ∧ SR (E0 ρ H w) ρ' (fun _ => none) ⟨[], [], H'⟩ ⟨#[], []⟩ w' ∧ VR ρ' w' v y

theorem SR.hr {E : Entry} {ρ : Rn} {β : Nat → Option Nat} {s : St} {a : Act} {w : World} (h : SR E ρ β s a w) : HR ρ s.H w where
  tmps := fun t => by simp [Env.get, TR, VR]
  loc := fun t cs hc => by simp [Loc.get] at hc
  nloc := fun _ _ => rfl
  heap := h.heap
  nheap := h.nheap
  Y := fun B => by simp [E0]
  injφ := h.injφ
  injβ := fun t t' B h1 _ => by simp at h1
  disj := fun t b B h1 => by simp at h1
  Xφ := fun b B hx hb => by
    rcases (h.Y B).1 hx with hx | ⟨t, ht⟩
    · exact h.Xφ b B hx hb
    · exact h.disj t b B ht hb
  Xlt := fun B hx => by
    rcases (h.Y B).1 hx with hx | ⟨t, ht⟩
    · exact h.ltX hx
    · exact h.ltβ ht
  next := h.next
  dead := h.dead
  dfr := trivial
  size := Nat.le_refl _
  frame := fun B _ _ => rfl
  fromφ := fun b B hb => .inl ⟨b, hb⟩
  fromβ := fun t B h1 => by simp at h1
  names := fun b B _ hb => hb
  n0 := Nat.le_refl _
  os := rfl
  tape := rfl
  output := rfl
  shape := fun B C e hC => ⟨C, hC, rfl⟩

theorem HR.keep {ρ ρ' : Rn} {H H' : AH} {w w' : World} (hρ : ρ.next = H.next) (hφ : ∀ b B, ρ.φ b = some B → B < w.heap.size) (h : SR (E0 ρ H w) ρ' (fun _ => none) ⟨[], [], H'⟩ ⟨#[], []⟩ w') : Keep ρ w ρ' w' where
  next := by rw [h.next, hρ]; exact h.n0
  names := fun b B hb hB => h.names b B (by rw [hρ] at hb; exact hb) hB
  imm := fun B hB => by
    refine ⟨⟨Nat.lt_of_lt_of_le hB.1 h.size, fun hy => ?_, fun b hb => ?_⟩, h.frame B hB.1 hB.2.2⟩
    · rcases (h.Y B).1 hy with hx | ⟨t, ht⟩
      · exact hB.2.1 hx
      · cases ht
    · rcases h.fromφ b B hb with ⟨b0, h0⟩ | h0
      · exact hB.2.2 b0 h0
      · exact absurd hB.1 (Nat.not_lt.2 h0)
  shape := h.shape

theorem SR.called {E : Entry} {ρ ρ' : Rn} {β : Nat → Option Nat} {s : St} {a : Act} {w w' : World} {H' : AH} (h : SR E ρ β s a w) (k : SR (E0 ρ s.H w) ρ' (fun _ => none) ⟨[], [], H'⟩ ⟨#[], []⟩ w') :
    SR E ρ' β ⟨s.A, s.L, H'⟩ a w' := by
  have kp : Keep ρ w ρ' w' := HR.keep h.next (fun b B hb => h.ltφ hb) k
  refine { tmps := fun t => (h.tmps t).keep kp, loc := fun t cs hc => ?_, nloc := h.nloc, heap := k.heap, nheap := k.nheap, Y := fun B => ?_, injφ := k.injφ, injβ := h.injβ, disj := fun t b B ht hb => ?_, Xφ := fun b B hx hb => ?_, Xlt := h.Xlt, next := k.next, dead := k.dead, dfr := h.dfr.keep kp, size := Nat.le_trans h.size k.size, frame := fun B hB hn => ?_, fromφ := fun b B hb => ?_, fromβ := h.fromβ, names := fun b B hb hB => ?_, n0 := Nat.le_trans h.n0 k.n0, os := k.os.trans h.os, tape := k.tape.trans h.tape, output := k.output.trans h.output, shape := fun B C e hC => ?_ }
  · obtain ⟨B, h1, h2⟩ := h.loc t cs hc
    exact ⟨B, h1, h2.keep kp (k.frame B (h.ltβ h1) fun b hb => h.disj t b B h1 hb)⟩
  · rw [k.Y B]
    constructor
    · rintro (hx | ⟨t, ht⟩)
      · exact (h.Y B).1 hx
      · cases ht
    · exact fun hx => .inl ((h.Y B).2 hx)
  · exact k.Xφ b B ((h.Y B).2 (.inr ⟨t, ht⟩)) hb
  · exact k.Xφ b B ((h.Y B).2 (.inl hx)) hb
  · have : ∀ b, ρ.φ b ≠ some B := fun b hb => by
      rcases h.fromφ b B hb with ⟨b0, h0⟩ | h0
      · exact hn b0 h0
      · omega
    exact (k.frame B (Nat.lt_of_lt_of_le hB h.size) this).trans (h.frame B hB hn)
  · rcases k.fromφ b B hb with ⟨b0, h0⟩ | h0
    · exact h.fromφ b0 B h0
    · exact .inr (Nat.le_trans h.size h0)
  · exact h.names b B hb (k.names b B (Nat.lt_of_lt_of_le hb h.n0) hB)
  · obtain ⟨C', h1, h2⟩ := h.shape B C e hC
    obtain ⟨C'', h3, h4⟩ := k.shape B C' e h1
    exact ⟨C'', h3, h4.trans h2⟩

theorem comp_call_func {o : Oper} {c : Call} {f : Nat} {args : List Opd} (hop : o.op = .call c) (h : comp P o = some (.call f args)) : c.callee = .value (.func f) ∧ cOpds c.args.toList = some args ∧ hasBody P f = true := by
  cases hcal : c.callee with
  | invoke r n => simp [comp, hop, hcal] at h
  | value g =>
    cases g with
    | func g =>
      simp only [comp, hop, hcal, Option.pure_def, Option.bind_eq_bind, Option.bind_eq_some_iff] at h
      obtain ⟨as, h1, hc⟩ := h
      split at hc
      · rename_i hb; cases hc; exact ⟨rfl, h1, hb⟩
      · (repeat' split at hc) <;> cases hc
    | tmp t =>
      simp only [comp, hop, hcal, Option.pure_def, Option.bind_eq_bind, Option.bind_eq_some_iff] at h
      obtain ⟨_, _, _, _, hc⟩ := h
      cases hc
    | const v =>
      simp only [comp, hop, hcal, Option.pure_def, Option.bind_eq_bind, Option.bind_eq_some_iff] at h
      obtain ⟨_, _, _, _, hc⟩ := h
      cases hc
    | global g =>
      simp only [comp, hop, hcal, Option.pure_def, Option.bind_eq_bind, Option.bind_eq_some_iff] at h
      obtain ⟨_, _, _, _, hc⟩ := h
      cases hc
  | builtin b =>
    exfalso
    cases b with
    | len =>
      simp only [comp, hop, hcal, Option.pure_def, Option.bind_eq_bind, Option.bind_eq_some_iff] at h
      obtain ⟨t, h1, d, h2, hc⟩ := h
      split at hc
      · simp only [Option.bind_eq_some_iff] at hc; obtain ⟨y', hy, hc⟩ := hc; cases hc
      · simp only [Option.bind_eq_some_iff] at hc; obtain ⟨y', hy, hc⟩ := hc; cases hc
      · cases hc
    | min =>
      simp only [comp, hop, hcal, Option.pure_def, Option.bind_eq_bind, Option.bind_eq_some_iff] at h
      obtain ⟨xs, h1, hc⟩ := h; cases hc
    | max =>
      simp only [comp, hop, hcal, Option.pure_def, Option.bind_eq_bind, Option.bind_eq_some_iff] at h
      obtain ⟨xs, h1, hc⟩ := h; cases hc
    | append =>
      simp only [comp, hop, hcal, Option.pure_def, Option.bind_eq_bind] at h
      split at h
      · simp only [Option.bind_eq_some_iff] at h
        obtain ⟨d, h1, hc⟩ := h
        split at hc
        · simp only [Option.bind_eq_some_iff] at hc
          obtain ⟨i, h2, zz, h3, hc⟩ := hc
          split at hc
          · cases hc
          · simp only [Option.bind_eq_some_iff] at hc
            obtain ⟨y', hy, z', hz, hc⟩ := hc
            cases hc
        · cases hc
      · cases h
    | copy =>
      simp only [comp, hop, hcal, Option.pure_def, Option.bind_eq_bind, Option.bind_eq_some_iff] at h
      obtain ⟨t, h1, d, h2, hc⟩ := h
      split at hc
      · split at hc
        · simp only [Option.bind_eq_some_iff] at hc
          obtain ⟨sz, hsz, y', hy, z', hz, hc⟩ := hc
          cases hc
        · cases hc
      · cases hc
    | delete =>
      simp only [comp, hop, hcal, Option.pure_def, Option.bind_eq_bind, Option.bind_eq_some_iff] at h
      obtain ⟨t, h1, d, h2, hc⟩ := h
      split at hc
      · split at hc
        · simp only [Option.bind_eq_some_iff] at hc
          obtain ⟨kk, hk, y', hy, z', hz, hc⟩ := hc
          cases hc
        · cases hc
      · cases hc
    | _ => simp [comp, hop, hcal] at h

theorem comp_call_val {o : Oper} {c : Call} {fo : Opd} {args : List Opd} (hop : o.op = .call c) (h : comp P o = some (.callv fo args)) : ∃ g, c.callee = .value g ∧ cOpd g = some fo ∧ cOpds c.args.toList = some args := by
  cases hcal : c.callee with
  | invoke r n => simp [comp, hop, hcal] at h
  | value g =>
    cases g with
    | func g =>
      simp only [comp, hop, hcal, Option.pure_def, Option.bind_eq_bind, Option.bind_eq_some_iff] at h
      obtain ⟨as, h1, hc⟩ := h
      split at hc
      · cases hc
      · (repeat' split at hc) <;> cases hc
    | tmp t =>
      simp only [comp, hop, hcal, Option.pure_def, Option.bind_eq_bind, Option.bind_eq_some_iff] at h
      obtain ⟨_, h1, _, h2, hc⟩ := h
      cases hc
      exact ⟨_, rfl, h1, h2⟩
    | const v =>
      simp only [comp, hop, hcal, Option.pure_def, Option.bind_eq_bind, Option.bind_eq_some_iff] at h
      obtain ⟨_, h1, _, h2, hc⟩ := h
      cases hc
      exact ⟨_, rfl, h1, h2⟩
    | global g =>
      simp only [comp, hop, hcal, Option.pure_def, Option.bind_eq_bind, Option.bind_eq_some_iff] at h
      obtain ⟨_, h1, _, h2, hc⟩ := h
      cases hc
      exact ⟨_, rfl, h1, h2⟩
  | builtin b =>
    exfalso
    cases b with
    | len =>
      simp only [comp, hop, hcal, Option.pure_def, Option.bind_eq_bind, Option.bind_eq_some_iff] at h
      obtain ⟨t, h1, d, h2, hc⟩ := h
      split at hc
      · simp only [Option.bind_eq_some_iff] at hc; obtain ⟨y', hy, hc⟩ := hc; cases hc
      · simp only [Option.bind_eq_some_iff] at hc; obtain ⟨y', hy, hc⟩ := hc; cases hc
      · cases hc
    | min =>
      simp only [comp, hop, hcal, Option.pure_def, Option.bind_eq_bind, Option.bind_eq_some_iff] at h
      obtain ⟨xs, h1, hc⟩ := h; cases hc
    | max =>
      simp only [comp, hop, hcal, Option.pure_def, Option.bind_eq_bind, Option.bind_eq_some_iff] at h
      obtain ⟨xs, h1, hc⟩ := h; cases hc
    | append =>
      simp only [comp, hop, hcal, Option.pure_def, Option.bind_eq_bind] at h
      split at h
      · simp only [Option.bind_eq_some_iff] at h
        obtain ⟨d, h1, hc⟩ := h
        split at hc
        · simp only [Option.bind_eq_some_iff] at hc
          obtain ⟨i, h2, zz, h3, hc⟩ := hc
          split at hc
          · cases hc
          · simp only [Option.bind_eq_some_iff] at hc
            obtain ⟨y', hy, z', hz, hc⟩ := hc
            cases hc
        · cases hc
      · cases h
    | copy =>
      simp only [comp, hop, hcal, Option.pure_def, Option.bind_eq_bind, Option.bind_eq_some_iff] at h
      obtain ⟨t, h1, d, h2, hc⟩ := h
      split at hc
      · split at hc
        · simp only [Option.bind_eq_some_iff] at hc
          obtain ⟨sz, hsz, y', hy, z', hz, hc⟩ := hc
          cases hc
        · cases hc
      · cases hc
    | delete =>
      simp only [comp, hop, hcal, Option.pure_def, Option.bind_eq_bind, Option.bind_eq_some_iff] at h
      obtain ⟨t, h1, d, h2, hc⟩ := h
      split at hc
      · split at hc
        · simp only [Option.bind_eq_some_iff] at hc
          obtain ⟨kk, hk, y', hy, z', hz, hc⟩ := hc
          cases hc
        · cases hc
      · cases hc
    | _ => simp [comp, hop, hcal] at h

theorem cOpds_eval {E : Entry} {ρ : Rn} {β : Nat → Option Nat} {s : St} {a : Act} {w : World} (hs : SR E ρ β s a w) : ∀ {xs : List Operand} {os : List Opd} {vs : List V}, cOpds xs = some os → evs s.A os = some vs → VRs ρ w vs (xs.map a.eval)
  | [], os, vs, h, hv => by simp [cOpds] at h; subst h; simp [evs] at hv; subst hv; simp [VRs]
  | x :: xs, os, vs, h, hv => by
    simp only [cOpds, Option.pure_def, Option.bind_eq_bind, Option.bind_eq_some_iff] at h
    obtain ⟨y, h1, ys, h2, h3⟩ := h
    cases h3
    simp only [evs] at hv
    split at hv
    · rename_i u hu
      split at hv
      · rename_i us hus
        cases hv
        have := hs.opd h1
        rw [hu] at this
        simp only [VRs, List.map_cons]
        exact ⟨_, _, rfl, this, cOpds_eval hs h2 hus⟩
      · cases hv
    · cases hv

theorem run_enter {f : Nat} (hf : hasBody P f = true) (args : Array Value) (w : World) : (callFunc f args).run P w = .ok (.enter f args) w := by
  unfold hasBody at hf
  split at hf
  · rename_i fn hfn
    simp only [Bool.and_eq_true, Bool.not_eq_true', beq_eq_false_iff_ne, ne_eq] at hf
    simp only [callFunc]
    simp [hfn, hf.2, hf.1]
    intro hn
    simp [hn] at hf
  · cases hf

theorem FW_calls {l : Option Nat} {f : Nat} {xs : Array Value} {w : World} {R : Ending → World → Prop} (h : CallsIn Fence.wide 0 P f xs w R) : CallsIn (FW l) 0 P f xs w R := h

def opdTmps : List Opd → List Nat
  | [] => []
  | .t n :: r => n :: opdTmps r
  | .k _ :: r => opdTmps r

theorem ev_agree {x : Opd} {s t : St} (h : ∀ n ∈ opdTmps [x], s.A.get n = t.A.get n) : x.ev t.A = x.ev s.A := by
  cases x with
  | t n => exact (h n (by simp [opdTmps])).symm
  | k v => rfl
theorem evs_agree {s t : St} : ∀ {xs : List Opd}, (∀ n ∈ opdTmps xs, s.A.get n = t.A.get n) → evs t.A xs = evs s.A xs
  | [], _ => rfl
  | x :: xs, h => by
    have h1 : x.ev t.A = x.ev s.A := by
      cases x with
      | t n => exact (h n (by simp [opdTmps])).symm
      | k v => rfl
    have h2 : evs t.A xs = evs s.A xs := evs_agree fun n hn => h n (by cases x <;> simp [opdTmps, hn])
    simp only [evs, h1, h2]

theorem run_call_wp {o : Oper} {f : Nat} {xs : Array Value} {vs : List V} {H' : AH} {v : V} {E : Entry} {ρ : Rn} {β : Nat → Option Nat} {t : St} {a : Act} {w : World} {Q : Exit → Act → World → Prop} {K : Act → World → Prop}
    (hnd : ∀ c, o.op ≠ .defer c) (hrun : (execOp a.eval o).run P w = .ok (.enter f xs) w) (hxs : VRs ρ w vs xs.toList) (hf : FN P f vs t.H v H') (hs : SR E ρ β t a w) (hN : a.tmps.size = N) (hd : ∀ d, o.dst = some d → d < N)
    (hK : ∀ a' w' ρ' β', SR E ρ' β' ⟨t.A.put? o.dst (.v v), t.L, H'⟩ a' w' → a'.tmps.size = N → K a' w') : o.wpIn (FW E.l) 0 P a w K Q := by
  refine ⟨fun f hf => trivial, ?_⟩
  rw [Oper.semAt_eq _ _ _ hnd, hrun]
  rw [Oper.uponIn_enter]
  refine ⟨fun h => by simp [FW] at h, FW_calls ?_⟩
  have := hf ρ w xs.toList hs.hr hxs
  rw [Array.toArray_toList] at this
  refine this.mono ?_
  rintro e w' ⟨y, ρ', rfl, hs', hv⟩
  exact hK _ w' ρ' β ((hs.called hs').put o.dst (fun d h => by rw [hN]; exact hd d h) hv) (by rw [put_size]; exact hN)

theorem goodI_call {dst : Option Nat} {f : Nat} {args : List Opd} {vs : List V} {v : V} {H' : AH} {hh : Option AH} {s : St} (hargs : evs s.A args = some vs) (hf : FN P f vs s.H v H') (hH : hh.getD s.H = H') :
    GoodI P l N dst (.call f args) ⟨dst, .v v, { tmps := opdTmps args, heap := true }, { heap := hh }⟩ s := by
  intro o hc ho hd t ht hwf
  obtain ⟨hc, hcall⟩ := comp1_comp hc
  obtain ⟨c, hop⟩ := hcall rfl
  obtain ⟨h1, h2, h3⟩ := comp_call_func hop hc
  have htH : s.H = t.H := ht.H rfl
  refine ⟨fun n e o hn => ?_, fun E ρ β a w hs hN Q K hK => ?_⟩
  · simp only [It.app, killA, Env.get_put?] at hn
    split at hn
    · cases hn
    · exact hwf n e o hn
  · have hxs := cOpds_eval hs h2 ((evs_agree ht.A).trans hargs)
    refine run_call_wp (f := f) (xs := c.args.map a.eval) (vs := vs) (v := v) (H' := H') (fun c' => by simp [hop]) ?_ (by simpa using hxs) (by rw [← htH]; exact hf) hs hN (by rw [ho]; exact hd) ?_
    · have hf0 : a.eval (.func f) = .func (.func f) #[] #[] := rfl
      simp only [execOp, hop, resolve, h1]
      simp [hf0, Deferred.ofValue, invoke]
      exact run_enter h3 _ _
    · intro a' w' ρ' β' hs' hN'
      refine hK a' w' ρ' β' ?_ hN'
      subst ho
      simpa only [It.app, killA, slotL, ← htH, hH] using hs'

theorem goodI_callv {dst : Option Nat} {f : Nat} {fo : Opd} {caps : List V} {args : List Opd} {vs : List V} {v : V} {H' : AH} {hh : Option AH} {s : St} (hfo : fo.ev s.A = .v (.fn f caps)) (hargs : evs s.A args = some vs) (hb : hasBody P f = true) (hf : FN P f (vs ++ caps) s.H v H') (hH : hh.getD s.H = H') :
    GoodI P l N dst (.callv fo args) ⟨dst, .v v, { tmps := opdTmps (fo :: args), heap := true }, { heap := hh }⟩ s := by
  intro o hc ho hd t ht hwf
  obtain ⟨hc, hcall⟩ := comp1_comp hc
  obtain ⟨c, hop⟩ := hcall rfl
  obtain ⟨g, h1, h2, h3⟩ := comp_call_val hop hc
  have htH : s.H = t.H := ht.H rfl
  refine ⟨fun n e o hn => ?_, fun E ρ β a w hs hN Q K hK => ?_⟩
  · simp only [It.app, killA, Env.get_put?] at hn
    split at hn
    · cases hn
    · exact hwf n e o hn
  · have hxs := cOpds_eval hs h3 ((evs_agree fun n hn => ht.A n (by cases fo <;> simp [opdTmps] at hn ⊢ <;> simp [hn])).trans hargs)
    have hg := hs.opd h2
    rw [ev_agree (x := fo) (s := s) (t := t) (fun n hn => ht.A n (by cases fo <;> simp [opdTmps] at hn ⊢; simp [hn])), hfo] at hg
    simp only [TR, VR] at hg
    obtain ⟨ys, hg, hys⟩ := hg
    refine run_call_wp (f := f) (xs := c.args.map a.eval ++ ys) (vs := vs ++ caps) (v := v) (H' := H') (fun c' => by simp [hop]) ?_ (by simpa using hxs.append hys) (by rw [← htH]; exact hf) hs hN (by rw [ho]; exact hd) ?_
    · simp only [execOp, hop, resolve, h1]
      simp [hg, Deferred.ofValue, invoke]
      exact run_enter hb _ _
    · intro a' w' ρ' β' hs' hN'
      refine hK a' w' ρ' β' ?_ hN'
      subst ho
      simpa only [It.app, killA, slotL, ← htH, hH] using hs'

end
end Iso

/- The abstract layer, fifteenth part: a function from its body; forgetting and freezing. Nothing of a program. -/
namespace Iso
open Go Go.RowKit

/-! ### Freezing -/
mutual
def V.frz (b : Nat) (cs : List V) : V → V
  | .hs b' o n sz => if b' = b then .vs ((cs.drop o).take (n * sz)) n else .hs b' o n sz
  | .ptr b' o => if b' = b then .vp (cs.drop o) else .ptr b' o
  | .vs xs n => .vs (Vs.frz b cs xs) n
  | .vp xs => .vp (Vs.frz b cs xs)
  | .fn f xs => .fn f (Vs.frz b cs xs)
  | .agg xs => .agg (Vs.frz b cs xs)
  | .tup xs => .tup (Vs.frz b cs xs)
  | .any => .any
  | .lit v => .lit v
  | .mp b => .mp b
  | .yl b => .yl b
def Vs.frz (b : Nat) (cs : List V) : List V → List V
  | [] => []
  | x :: r => V.frz b cs x :: Vs.frz b cs r
end

section
variable {ρ ρ' : Rn} {w : World} {b B : Nat} {cs : List V}

mutual
theorem VR.frz (k : Keep ρ w ρ' w) (hB : ρ.φ b = some B) (himm : ρ'.imm w B) (hrow : VRrow ρ' w B 0 cs) : ∀ (v : V) (x : Value), VR ρ w v x → VR ρ' w (v.frz b cs) x
  | .any, x, h => by simp [V.frz, VR]
  | .lit v, x, h => by simpa [V.frz, VR] using h
  | .ptr b' o, x, h => by
    simp only [V.frz]
    split
    · rename_i hb
      subst hb
      have hx := h.ptr_at hB
      simp only [VR]
      have hr := hrow.drop o
      rw [Nat.zero_add] at hr
      exact ⟨B, o, hx, himm, hr⟩
    · exact VR.keep k _ _ h
  | .hs b' o n sz, x, h => by
    simp only [V.frz]
    split
    · rename_i hb
      subst hb
      obtain ⟨o', cap, hx, ho, hn, _⟩ := h.hs_at hB
      simp only [VR]
      refine ⟨B, o', cap, hx, hn, himm, ?_⟩
      rcases ho with rfl | ⟨rfl, _⟩
      · have hr := (hrow.drop o').take (n * sz)
        rw [Nat.zero_add] at hr
        exact hr
      · simp [VRrow]
    · exact VR.keep k _ _ h
  | .vs xs n, x, h => by
    simp only [V.frz, VR] at h ⊢
    obtain ⟨B', o, cap, hx, hn, hi, hr⟩ := h
    exact ⟨B', o, cap, hx, hn, (k.imm B' hi).1, VRrow.frz k hB himm hrow xs B' o hr⟩
  | .vp xs, x, h => by
    simp only [V.frz, VR] at h ⊢
    obtain ⟨B', o, hx, hi, hr⟩ := h
    exact ⟨B', o, hx, (k.imm B' hi).1, VRrow.frz k hB himm hrow xs B' o hr⟩
  | .mp b, x, h => by simp only [V.frz]; exact VR.keep k _ _ h
  | .yl b, x, h => by simp only [V.frz]; exact VR.keep k _ _ h
  | .fn f xs, x, h => by
    simp only [V.frz, VR] at h ⊢
    obtain ⟨ys, hx, hr⟩ := h
    exact ⟨ys, hx, VRs.frz k hB himm hrow xs _ hr⟩
  | .agg xs, x, h => by
    simp only [V.frz, VR] at h ⊢
    obtain ⟨ys, hx, hr⟩ := h
    exact ⟨ys, hx, VRs.frz k hB himm hrow xs _ hr⟩
  | .tup xs, x, h => by
    simp only [V.frz, VR] at h ⊢
    obtain ⟨ys, hx, hr⟩ := h
    exact ⟨ys, hx, VRs.frz k hB himm hrow xs _ hr⟩
theorem VRs.frz (k : Keep ρ w ρ' w) (hB : ρ.φ b = some B) (himm : ρ'.imm w B) (hrow : VRrow ρ' w B 0 cs) : ∀ (vs : List V) (xs : List Value), VRs ρ w vs xs → VRs ρ' w (Vs.frz b cs vs) xs
  | [], xs, h => by simpa [Vs.frz, VRs] using h
  | v :: vs, xs, h => by
    simp only [Vs.frz, VRs] at h ⊢
    obtain ⟨x, r, hx, h1, h2⟩ := h
    exact ⟨x, r, hx, VR.frz k hB himm hrow v x h1, VRs.frz k hB himm hrow vs r h2⟩
theorem VRrow.frz (k : Keep ρ w ρ' w) (hB : ρ.φ b = some B) (himm : ρ'.imm w B) (hrow : VRrow ρ' w B 0 cs) : ∀ (vs : List V) (B' o : Nat), VRrow ρ w B' o vs → VRrow ρ' w B' o (Vs.frz b cs vs)
  | [], _, _, _ => by simp [Vs.frz, VRrow]
  | v :: vs, B', o, h => by
    simp only [Vs.frz, VRrow] at h ⊢
    obtain ⟨⟨x, hx, h1⟩, h2⟩ := h
    exact ⟨⟨x, hx, VR.frz k hB himm hrow v x h1⟩, VRrow.frz k hB himm hrow vs B' (o + 1) h2⟩
end
end

def T.frz (b : Nat) (cs : List V) : T → T
  | .v x => .v (x.frz b cs)
  | .lp t o => .lp t o
def Env.frz (b : Nat) (cs : List V) : Env → Env
  | [] => []
  | (s, x) :: r => (s, x.frz b cs) :: Env.frz b cs r
theorem Env.get_frz (b : Nat) (cs : List V) : ∀ (A : Env) (t : Nat), (A.frz b cs).get t = (A.get t).frz b cs
  | [], _ => by simp [Env.frz, Env.get, T.frz, V.frz]
  | (s, x) :: r, t => by
    simp only [Env.frz, Env.get]
    split
    · rfl
    · exact Env.get_frz b cs r t

section
variable {E : Entry} {ρ : Rn} {β : Nat → Option Nat} {s : St} {a : Act} {w : World}

/-- A named block is given up: who held it holds its cells from here on. -/
theorem SR.frz (h : SR E ρ β s a w) {b : Nat} {cs : List V} (hb : s.H.get b = some (.cells cs)) :
    ∃ ρ', SR E ρ' β ⟨s.A.frz b cs, s.L, s.H.del b⟩ a w ∧ ρ'.next = ρ.next ∧ ∀ v x, VR ρ w v x → VR ρ' w (v.frz b cs) x := by
  obtain ⟨B, hB, hr⟩ := h.heap b _ hb
  obtain ⟨ρ', h', k, himm, hn⟩ := h.del b
  obtain ⟨C, e, hC, hle, hcs⟩ := hr
  have hrow : VRrow ρ' w B 0 cs := row_of_heap hC (VRs.keep k _ _ hcs)
  have hv := fun v x => VR.frz k hB (himm B hB) hrow v x
  refine ⟨ρ', { h' with tmps := fun t => ?_ }, hn, hv⟩
  show TR ρ' β w ((s.A.frz b cs).get t) _
  rw [Env.get_frz]
  have := h.tmps t
  cases hx : s.A.get t with
  | v x => rw [hx] at this; exact hv x _ this
  | lp d o => rw [hx] at this; exact this

theorem le_frz {b : Nat} {cs : List V} (hb : s.H.get b = some (.cells cs)) : Le s ⟨s.A.frz b cs, s.L, s.H.del b⟩ := fun hwf =>
  ⟨fun n d o hn => by
    simp only [Env.get_frz] at hn
    cases hx : s.A.get n with
    | v x => rw [hx] at hn; cases hn
    | lp e p => rw [hx] at hn; simp only [T.frz] at hn; cases hn; exact hwf n d o hx,
   fun E ρ β a w hs => let ⟨ρ', h', _⟩ := hs.frz hb; ⟨ρ', β, h'⟩⟩

/-! ### Forgetting -/
def Sub (A' A : Env) : Prop := ∀ t, A'.get t = .v .any ∨ A'.get t = A.get t

theorem sub_nil (A : Env) : Sub [] A := fun t => .inl rfl
theorem sub_cons {t : Nat} {x : T} {A' A : Env} (h : A.get t = x) (r : Sub A' A) : Sub ((t, x) :: A') A := fun u => by
  simp only [Env.get]
  split
  · rename_i he; subst he; exact .inr h.symm
  · exact r u

theorem le_sub {A : Env} {L : Loc} {H : AH} {A' : Env} (h : Sub A' A) : Le ⟨A, L, H⟩ ⟨A', L, H⟩ := fun hwf =>
  ⟨fun n d o hn => by
    rcases h n with h1 | h1
    · rw [h1] at hn; cases hn
    · rw [h1] at hn; exact hwf n d o hn,
   fun E ρ β a w hs => ⟨ρ, β, { hs with tmps := fun t => (by
    rcases h t with h1 | h1
    · show TR ρ β w (A'.get t) _
      rw [h1]; simp [TR, VR]
    · show TR ρ β w (A'.get t) _
      rw [h1]; exact hs.tmps t) }⟩⟩

theorem T.kill_lp {d : Nat} {x : T} {e o : Nat} (h : x.kill d = .lp e o) : x = .lp e o ∧ e ≠ d := by
  cases x with
  | v x => cases h
  | lp t p =>
    simp only [T.kill] at h
    split at h
    · cases h
    · rename_i hne; cases h; exact ⟨rfl, hne⟩

theorem le_drop (s : St) (d : Nat) : Le s ⟨s.A.kill d, s.L.del d, s.H⟩ := fun hwf => by
  refine ⟨fun n e o hn => ?_, fun E ρ β a w hs => ?_⟩
  · simp only [Env.get_kill] at hn
    obtain ⟨h1, h2⟩ := T.kill_lp hn
    have := hwf n e o h1
    simpa only [Loc.get_del, if_neg h2] using this
  · cases hd : s.L.get d with
    | some cs =>
      obtain ⟨B, hB, _⟩ := hs.loc d cs hd
      obtain ⟨ρ', β', h1, _⟩ := hs.freezeL hB
      exact ⟨ρ', β', h1⟩
    | none =>
      refine ⟨ρ, β, { hs with tmps := fun t => ?_, loc := fun t cs hc => ?_, nloc := fun t ht => ?_ }⟩
      · show TR ρ β w ((s.A.kill d).get t) _
        rw [Env.get_kill]
        have := hs.tmps t
        cases hx : s.A.get t with
        | v x => rw [hx] at this; exact this
        | lp e o =>
          rw [hx] at this
          simp only [T.kill]
          split
          · simp [TR, VR]
          · exact this
      · simp only [Loc.get_del] at hc
        split at hc
        · cases hc
        · exact hs.loc t cs hc
      · simp only [Loc.get_del] at ht
        split at ht
        · rename_i he; subst he; exact hs.nloc _ hd
        · exact hs.nloc t ht

/-- All local variables at once. -/
theorem SR.dropAll (h : SR E ρ β s a w) : ∃ ρ', SR E ρ' (fun _ => none) ⟨[], [], s.H⟩ ⟨#[], a.defers⟩ w ∧ ρ'.next = ρ.next ∧ ρ'.φ = ρ.φ ∧ ∀ v x, VR ρ w v x → VR ρ' w v x := by
  let ρ' : Rn := { ρ with Y := E.X }
  have k : Keep ρ w ρ' w := ⟨Nat.le_refl _, fun _ _ _ h => h, fun B hB => ⟨⟨hB.1, fun hy => hB.2.1 ((h.Y B).2 (.inl hy)), hB.2.2⟩, rfl⟩, fun B C e hC => ⟨C, hC, rfl⟩⟩
  exact ⟨ρ', { h with dfr := h.dfr.keep k, tmps := fun t => by simp [Env.get, TR, VR], loc := fun t cs hc => by simp [Loc.get] at hc, nloc := fun _ _ => rfl, heap := fun b kb hb => (by
    obtain ⟨B, h1, h2⟩ := h.heap b kb hb
    exact ⟨B, h1, h2.keep k rfl⟩), Y := fun B => by simp [ρ'], injβ := fun t t' B h1 _ => (by cases h1), disj := fun t b B h1 => (by cases h1), fromβ := fun t B h1 => (by cases h1) }, rfl, rfl, fun v x => VR.keep k v x⟩

/-! ### Names that a value holds -/
mutual
def V.under (n : Nat) : V → Prop
  | .ptr b _ => b < n
  | .hs b _ _ _ => b < n
  | .mp b => b < n
  | .yl b => b < n
  | .vs xs _ => Vs.under n xs
  | .vp xs => Vs.under n xs
  | .fn _ xs => Vs.under n xs
  | .agg xs => Vs.under n xs
  | .tup xs => Vs.under n xs
  | .any => True
  | .lit _ => True
def Vs.under (n : Nat) : List V → Prop
  | [] => True
  | x :: r => V.under n x ∧ Vs.under n r
end

def Rn.cut (ρ : Rn) (n : Nat) : Rn := { ρ with φ := fun b => if b < n then ρ.φ b else none, next := n }

theorem cut_φ {ρ : Rn} {n b B : Nat} (h : (ρ.cut n).φ b = some B) : b < n ∧ ρ.φ b = some B := by
  simp only [Rn.cut] at h
  split at h
  · rename_i hl; exact ⟨hl, h⟩
  · cases h
theorem cut_imm {ρ : Rn} {n B : Nat} (h : ρ.imm w B) : (ρ.cut n).imm w B := ⟨h.1, h.2.1, fun b hb => h.2.2 b (cut_φ hb).2⟩

mutual
theorem VR.under : ∀ (v : V) (x : Value), VR ρ w v x → v.under ρ.next
  | .any, _, _ => by simp [V.under]
  | .lit v, _, _ => by simp [V.under]
  | .ptr b o, x, h => by simp only [VR] at h; exact h.1
  | .hs b o n sz, x, h => by simp only [VR] at h; exact h.1
  | .mp b, x, h => by simp only [VR] at h; exact h.1
  | .yl b, x, h => by simp only [VR] at h; exact h.1
  | .vs xs n, x, h => by
    simp only [VR] at h
    obtain ⟨B, o, cap, _, _, _, hr⟩ := h
    exact VRrow.under xs B o hr
  | .vp xs, x, h => by
    simp only [VR] at h
    obtain ⟨B, o, _, _, hr⟩ := h
    exact VRrow.under xs B o hr
  | .fn f xs, x, h => by
    simp only [VR] at h
    obtain ⟨ys, _, hr⟩ := h
    exact VRs.under xs _ hr
  | .agg xs, x, h => by
    simp only [VR] at h
    obtain ⟨ys, _, hr⟩ := h
    exact VRs.under xs _ hr
  | .tup xs, x, h => by
    simp only [VR] at h
    obtain ⟨ys, _, hr⟩ := h
    exact VRs.under xs _ hr
theorem VRs.under : ∀ (vs : List V) (xs : List Value), VRs ρ w vs xs → Vs.under ρ.next vs
  | [], _, _ => by simp [Vs.under]
  | v :: vs, xs, h => by
    simp only [VRs] at h
    obtain ⟨x, r, _, h1, h2⟩ := h
    exact ⟨VR.under v x h1, VRs.under vs r h2⟩
theorem VRrow.under : ∀ (vs : List V) (B o : Nat), VRrow ρ w B o vs → Vs.under ρ.next vs
  | [], _, _, _ => by simp [Vs.under]
  | v :: vs, B, o, h => by
    simp only [VRrow] at h
    obtain ⟨⟨x, _, h1⟩, h2⟩ := h
    exact ⟨VR.under v x h1, VRrow.under vs B (o + 1) h2⟩
end

mutual
theorem VR.cut {n : Nat} : ∀ (v : V) (x : Value), VR ρ w v x → v.under n → VR (ρ.cut n) w v x
  | .any, _, _, _ => by simp [VR]
  | .lit v, x, h, _ => by simpa [VR] using h
  | .ptr b o, x, h, hb => by
    simp only [VR] at h ⊢
    obtain ⟨_, B, h1, h2⟩ := h
    exact ⟨hb, B, h1, fun B' hB => h2 B' (cut_φ hB).2⟩
  | .hs b o n sz, x, h, hb => by
    simp only [VR] at h ⊢
    obtain ⟨_, B, o', cap, h1, h2, h3, h4, h5⟩ := h
    exact ⟨hb, B, o', cap, h1, h2, h3, h4, fun B' hB => h5 B' (cut_φ hB).2⟩
  | .mp b, x, h, hb => by
    simp only [VR] at h ⊢
    obtain ⟨_, B, h1, h2⟩ := h
    exact ⟨hb, B, h1, fun B' hB => h2 B' (cut_φ hB).2⟩
  | .yl b, x, h, hb => by
    simp only [VR] at h ⊢
    obtain ⟨_, B, h1, h2⟩ := h
    exact ⟨hb, B, h1, fun B' hB => h2 B' (cut_φ hB).2⟩
  | .vs xs n, x, h, hb => by
    simp only [VR] at h ⊢
    obtain ⟨B, o, cap, h1, h2, h3, hr⟩ := h
    exact ⟨B, o, cap, h1, h2, cut_imm h3, VRrow.cut xs B o hr hb⟩
  | .vp xs, x, h, hb => by
    simp only [VR] at h ⊢
    obtain ⟨B, o, h1, h3, hr⟩ := h
    exact ⟨B, o, h1, cut_imm h3, VRrow.cut xs B o hr hb⟩
  | .fn f xs, x, h, hb => by
    simp only [VR] at h ⊢
    obtain ⟨ys, h1, hr⟩ := h
    exact ⟨ys, h1, VRs.cut xs _ hr hb⟩
  | .agg xs, x, h, hb => by
    simp only [VR] at h ⊢
    obtain ⟨ys, h1, hr⟩ := h
    exact ⟨ys, h1, VRs.cut xs _ hr hb⟩
  | .tup xs, x, h, hb => by
    simp only [VR] at h ⊢
    obtain ⟨ys, h1, hr⟩ := h
    exact ⟨ys, h1, VRs.cut xs _ hr hb⟩
theorem VRs.cut {n : Nat} : ∀ (vs : List V) (xs : List Value), VRs ρ w vs xs → Vs.under n vs → VRs (ρ.cut n) w vs xs
  | [], xs, h, _ => by simpa [VRs] using h
  | v :: vs, xs, h, hb => by
    simp only [VRs] at h ⊢
    obtain ⟨x, r, hx, h1, h2⟩ := h
    exact ⟨x, r, hx, VR.cut v x h1 hb.1, VRs.cut vs r h2 hb.2⟩
theorem VRrow.cut {n : Nat} : ∀ (vs : List V) (B o : Nat), VRrow ρ w B o vs → Vs.under n vs → VRrow (ρ.cut n) w B o vs
  | [], _, _, _, _ => by simp [VRrow]
  | v :: vs, B, o, h, hb => by
    simp only [VRrow] at h ⊢
    obtain ⟨⟨x, hx, h1⟩, h2⟩ := h
    exact ⟨⟨x, hx, VR.cut v x h1 hb.1⟩, VRrow.cut vs B (o + 1) h2 hb.2⟩
end

def Blk.under (n : Nat) : Blk → Prop
  | .cells cs => Vs.under n cs
  | .map es => Vs.under n (es.map (·.1)) ∧ Vs.under n (es.map (·.2))
  | .loop _ _ _ _ vs => Vs.under n vs

theorem BlkAt.under {B : Nat} {k : Blk} (h : BlkAt ρ w B k) : k.under ρ.next := by
  cases k with
  | cells cs => obtain ⟨C, e, _, _, h3⟩ := h; exact VRs.under _ _ h3
  | map es => obtain ⟨C, e, _, h2, h3⟩ := h; exact ⟨VRs.under _ _ h2, VRs.under _ _ h3⟩
  | loop C st pe ps vs => obtain ⟨r, _, _, _, _, _, h6⟩ := h; exact VRs.under _ _ h6
theorem BlkAt.cut {B n : Nat} {k : Blk} (h : BlkAt ρ w B k) (hb : k.under n) : BlkAt (ρ.cut n) w B k := by
  cases k with
  | cells cs => obtain ⟨C, e, h1, h2, h3⟩ := h; exact ⟨C, e, h1, h2, VRs.cut _ _ h3 hb⟩
  | map es => obtain ⟨C, e, h1, h2, h3⟩ := h; exact ⟨C, e, h1, VRs.cut _ _ h2 hb.1, VRs.cut _ _ h3 hb.2⟩
  | loop C st pe ps vs => obtain ⟨r, h1, h2, h3, h4, h5, h6⟩ := h; exact ⟨r, h1, h2, h3, h4, h5, VRs.cut _ _ h6 hb⟩

/-- A function that gave no old block another content: its own names are forgotten. -/
theorem SR.quiet {ρ0 : Rn} {w0 : World} {H H1 : AH} (h0 : HR ρ0 H w0) (h : SR (E0 ρ0 H w0) ρ (fun _ => none) ⟨[], [], H1⟩ ⟨#[], []⟩ w) (hsame : ∀ b, b < H.next → H1.get b = H.get b) :
    SR (E0 ρ0 H w0) (ρ.cut H.next) (fun _ => none) ⟨[], [], H⟩ ⟨#[], []⟩ w ∧ ∀ v x, VR ρ w v x → v.under H.next → VR (ρ.cut H.next) w v x := by
  refine ⟨{ h with dfr := trivial, tmps := fun t => by simp [Env.get, TR, VR], loc := fun t cs hc => by simp [Loc.get] at hc, heap := fun b k hb => ?_, nheap := fun b hb => ?_, Y := h.Y, injφ := fun b b' B h1 h2 => h.injφ b b' B (cut_φ h1).2 (cut_φ h2).2, disj := fun t b B ht => (by cases ht), Xφ := fun b B hx hb => h.Xφ b B hx (cut_φ hb).2, next := rfl, dead := h0.dead, fromφ := fun b B hb => h.fromφ b B (cut_φ hb).2, names := fun b B hb hB => h.names b B hb (cut_φ hB).2, n0 := Nat.le_refl _ }, fun v x => VR.cut v x⟩
  · have hlt : b < H.next := Nat.lt_of_not_le fun hle => by
      have := h0.dead b hle
      rw [hb] at this; cases this
    obtain ⟨B, h1, h2⟩ := h.heap b k ((hsame b hlt).trans hb)
    obtain ⟨B0, h3, h4⟩ := h0.heap b k hb
    refine ⟨B, by simp only [Rn.cut, if_pos hlt]; exact h1, h2.cut ?_⟩
    have := h4.under
    rw [h0.next] at this
    exact this
  · simp only [Rn.cut]
    split
    · rename_i hlt; exact h.nheap b ((hsame b hlt).trans hb)
    · rfl

end
end Iso

/- The abstract layer, sixteenth part: a function from its body. Nothing of a program. -/
namespace Iso
open Go Go.RowKit

inductive RV where
  | tmp (t : Nat)
  | cell (t : Nat) (ag : Bool) (sz : Nat)

structure CF where
  N : Nat
  ac : AC
  rs : List RV

def compRs (P : Program) : List ResultVar → Option (List RV)
  | [] => some []
  | .tmp t :: r => match compRs P r with
    | some r => some (.tmp t :: r)
    | none => none
  | .cell a t :: r => match isAgg? P t, sizeOf? P t, compRs P r with
    | some ag, some sz, some r => some (.cell a ag sz :: r)
    | _, _, _ => none

def compF (P : Program) (f : Nat) : Option CF :=
  match P.funcs[f]? with
  | some fn => match fn.body with
    | some c => match compC P fn.ntmps c, compRs P fn.results.toList with
      | some ac, some rs => some ⟨fn.ntmps, ac, rs⟩
      | _, _ => none
    | none => none
  | none => none

def resV1 (s : St) : RV → Option V
  | .tmp t => (s.A.get t).val
  | .cell t ag sz => match s.A.get t with
    | .lp d o => match s.L.get d with | some cs => rd ag sz (cs.drop o) | none => none
    | .v (.ptr b o) => match s.H.get b with | some (.cells cs) => rd ag sz (cs.drop o) | _ => none
    | _ => none
def resVs (s : St) : List RV → Option (List V)
  | [] => some []
  | r :: rs => match resV1 s r with
    | some v => match resVs s rs with
      | some vs => some (v :: vs)
      | none => none
    | none => none
def resT : List V → V
  | [v] => v
  | vs => .tup vs

def argsA : Nat → List V → Env
  | _, [] => []
  | k, v :: r => (k, .v v) :: argsA (k + 1) r

theorem argsA_get : ∀ (k : Nat) (args : List V) (t : Nat), (argsA k args).get t = .v (if k ≤ t then (args[t - k]?).getD .any else .any)
  | k, [], t => by simp [argsA, Env.get]
  | k, v :: r, t => by
    simp only [argsA, Env.get]
    by_cases h : k = t
    · subst h; simp
    · rw [if_neg h, argsA_get (k + 1) r t]
      by_cases hk : k ≤ t
      · rw [if_pos (by omega), if_pos hk, show t - k = (t - (k + 1)) + 1 by omega]
        simp
      · rw [if_neg (by omega), if_neg hk]

section
variable {P : Program}

def resOne (a : Act) : ResultVar → Sem Value
  | .tmp t => pure (a.tmps.getD t undef)
  | .cell x t => do loadVar t (← asAddr (a.tmps.getD x undef))

theorem resV1_sound {E : Entry} {ρ : Rn} {β : Nat → Option Nat} {s : St} {a : Act} {w : World} (hs : SR E ρ β s a w) {r : ResultVar} {q : RV} {v : V} (hr : compRs P [r] = some [q]) (h : resV1 s q = some v) :
    ∃ y, (resOne a r).run P w = .ok y w ∧ VR ρ w v y := by
  cases r with
  | tmp t =>
    simp only [compRs, Option.some.injEq, List.cons.injEq, and_true] at hr
    subst hr
    simp only [resV1] at h
    have := hs.tmps t
    cases hx : s.A.get t with
    | lp d o => rw [hx] at h; cases h
    | v x =>
      rw [hx] at h this
      cases h
      exact ⟨_, rfl, this⟩
  | cell x t =>
    simp only [compRs] at hr
    split at hr
    · rename_i ag sz r' hag hsz hr'
      cases hr'
      simp only [Option.some.injEq, List.cons.injEq, and_true] at hr
      subst hr
      simp only [resV1] at h
      have hx := hs.tmps x
      split at h
      · rename_i d o hd
        split at h
        · rename_i cs hc
          rw [hd] at hx
          obtain ⟨B, hB, hrow⟩ := hs.loc d cs hc
          have he := hx B hB
          obtain ⟨y, h1, h2⟩ := rd_cells (P := P) hag hsz (by have := hrow.row.drop o; rwa [Nat.zero_add] at this) h
          refine ⟨y, ?_, h2⟩
          simp only [resOne, he]
          simp [asAddr, h1]
        · cases h
      · rename_i b o hd
        split at h
        · rename_i cs hc
          rw [hd] at hx
          obtain ⟨B, hB, hrow⟩ := hs.heap b _ hc
          have he := VR.ptr_at (w := w) hx hB
          obtain ⟨y, h1, h2⟩ := rd_cells (P := P) hag hsz (by have := (RowAt.row hrow).drop o; rwa [Nat.zero_add] at this) h
          refine ⟨y, ?_, h2⟩
          simp only [resOne, he]
          simp [asAddr, h1]
        · cases h
      · cases h
    · cases hr

theorem compRs_cons {r : ResultVar} {rs : List ResultVar} {qs : List RV} (h : compRs P (r :: rs) = some qs) : ∃ q qs', qs = q :: qs' ∧ compRs P [r] = some [q] ∧ compRs P rs = some qs' := by
  cases r with
  | tmp t =>
    simp only [compRs] at h
    split at h
    · rename_i r' hr; cases h; exact ⟨_, _, rfl, rfl, hr⟩
    · cases h
  | cell a t =>
    simp only [compRs] at h
    split at h
    · rename_i ag sz r' h1 h2 h3; cases h; exact ⟨_, _, rfl, by simp [compRs, h1, h2], h3⟩
    · cases h

theorem resVs_sound {E : Entry} {ρ : Rn} {β : Nat → Option Nat} {s : St} {a : Act} {w : World} (hs : SR E ρ β s a w) : ∀ {rs : List ResultVar} {qs : List RV} {vs : List V}, compRs P rs = some qs → resVs s qs = some vs →
    ∃ ys, (rs.mapM (resOne a)).run P w = .ok ys w ∧ VRs ρ w vs ys
  | [], qs, vs, h, hv => by
    simp [compRs] at h; subst h; simp [resVs] at hv; subst hv
    exact ⟨[], by simp, by simp [VRs]⟩
  | r :: rs, qs, vs, h, hv => by
    obtain ⟨q, qs', rfl, h1, h2⟩ := compRs_cons h
    simp only [resVs] at hv
    split at hv
    · rename_i v hv1
      split at hv
      · rename_i vs' hv2
        cases hv
        obtain ⟨y, hy, hvr⟩ := resV1_sound hs h1 hv1
        obtain ⟨ys, hys, hvs⟩ := resVs_sound hs h2 hv2
        refine ⟨y :: ys, ?_, by simp only [VRs]; exact ⟨y, ys, rfl, hvr, hvs⟩⟩
        rw [List.mapM_cons, Sem.run_bind, hy]
        simp only [Result.andThen]
        rw [Sem.run_bind, hys]
        rfl
      · cases hv
    · cases hv

theorem results_run {E : Entry} {ρ : Rn} {β : Nat → Option Nat} {s : St} {a : Act} {w : World} {fn : Func} (hs : SR E ρ β s a w) {qs : List RV} {vs : List V} (h : compRs P fn.results.toList = some qs) (hv : resVs s qs = some vs) :
    ∃ y, (results fn a.tmps).run P w = .ok y w ∧ VR ρ w (resT vs) y := by
  obtain ⟨ys, hys, hvs⟩ := resVs_sound hs h hv
  have hl := hvs.length
  refine ⟨(if h : ys.toArray.size = 1 then ys.toArray[0] else .tuple ys.toArray), ?_, ?_⟩
  · have he : results fn a.tmps = (do
        let vs ← fn.results.mapM (resOne a)
        pure (if h : vs.size = 1 then vs[0] else .tuple vs)) := rfl
    rw [he, Array.mapM_eq_mapM_toList, Sem.run_bind, Sem.run_map, hys]
    rfl
  · match vs, ys, hl, hvs with
    | [v], [y], _, hvs =>
      simp only [VRs] at hvs
      obtain ⟨x, r, h1, h2, h3⟩ := hvs
      cases h1
      simpa [resT] using h2
    | [], [], _, hvs => simp [resT, VR, VRs]
    | v :: v' :: r, y :: y' :: r', _, hvs =>
      simp only [resT, VR]
      exact ⟨(y :: y' :: r').toArray, by simp, by simpa using hvs⟩

end
end Iso

/- The abstract layer, seventeenth part: the function's contract. Nothing of a program. -/
namespace Iso
open Go Go.RowKit

/-! ### What a range over a function has left for the end -/
/-- The cells lie as they lay. -/
structure Cells (w w' : World) : Prop where
  cell : ∀ a, w'.cell? a = w.cell? a
  size : w'.heap.size = w.heap.size
  row : ∀ (B : Nat) (C : Array Value) (e : TypeId), w.heap[B]? = some (Obj.cells C e (0, 0)) → w'.heap[B]? = some (Obj.cells C e (0, 0))

section
variable {ρ : Rn} {w w' : World}
mutual
theorem VR.same (k : Cells w w') : ∀ (v : V) (x : Value), VR ρ w v x → VR ρ w' v x
  | .any, _, _ => by simp [VR]
  | .lit v, x, h => by simpa [VR] using h
  | .ptr b o, x, h => by simpa [VR] using h
  | .hs b o n sz, x, h => by
    simp only [VR] at h ⊢
    obtain ⟨h0, B, o', cap, hx, ho, hn, ⟨C, e, hC, hs⟩, hu⟩ := h
    exact ⟨h0, B, o', cap, hx, ho, hn, ⟨C, e, k.row B C e hC, hs⟩, hu⟩
  | .vs cs n, x, h => by
    simp only [VR] at h ⊢
    obtain ⟨B, o, cap, hx, hn, hi, hr⟩ := h
    exact ⟨B, o, cap, hx, hn, ⟨by rw [k.size]; exact hi.1, hi.2⟩, VRrow.same k cs B o hr⟩
  | .vp cs, x, h => by
    simp only [VR] at h ⊢
    obtain ⟨B, o, hx, hi, hr⟩ := h
    exact ⟨B, o, hx, ⟨by rw [k.size]; exact hi.1, hi.2⟩, VRrow.same k cs B o hr⟩
  | .mp b, x, h => by simpa [VR] using h
  | .yl b, x, h => by simpa [VR] using h
  | .fn f caps, x, h => by
    simp only [VR] at h ⊢
    obtain ⟨xs, hx, hr⟩ := h
    exact ⟨xs, hx, VRs.same k caps _ hr⟩
  | .agg cs, x, h => by
    simp only [VR] at h ⊢
    obtain ⟨xs, hx, hr⟩ := h
    exact ⟨xs, hx, VRs.same k cs _ hr⟩
  | .tup cs, x, h => by
    simp only [VR] at h ⊢
    obtain ⟨xs, hx, hr⟩ := h
    exact ⟨xs, hx, VRs.same k cs _ hr⟩
theorem VRs.same (k : Cells w w') : ∀ (vs : List V) (xs : List Value), VRs ρ w vs xs → VRs ρ w' vs xs
  | [], xs, h => by simpa [VRs] using h
  | v :: vs, xs, h => by
    simp only [VRs] at h ⊢
    obtain ⟨x, r, hx, h1, h2⟩ := h
    exact ⟨x, r, hx, VR.same k v x h1, VRs.same k vs r h2⟩
theorem VRrow.same (k : Cells w w') : ∀ (vs : List V) (B o : Nat), VRrow ρ w B o vs → VRrow ρ w' B o vs
  | [], _, _, _ => by simp [VRrow]
  | v :: vs, B, o, h => by
    simp only [VRrow] at h ⊢
    obtain ⟨⟨x, hx, h1⟩, h2⟩ := h
    exact ⟨⟨x, (k.cell _).trans hx, VR.same k v x h1⟩, VRrow.same k vs B (o + 1) h2⟩
end

theorem Cells.put {D : Nat} (h : w.heap[D]? = some (.deferred (some []))) : Cells w (w.putObj D (.deferred none)) := by
  have hlt : D < w.heap.size := (Array.getElem?_eq_some_iff.1 h).1
  refine ⟨fun a => ?_, by simp [World.putObj], fun B C e hC => ?_⟩
  · by_cases hD : a.block = D
    · have h1 : (w.putObj D (.deferred none)).heap[a.block]? = some (.deferred none) := by rw [hD]; exact World.putObj_heap_same hlt
      have h2 : w.heap[a.block]? = some (.deferred (some [])) := by rw [hD]; exact h
      simp [World.cell?, h1, h2]
    · have h1 : (w.putObj D (.deferred none)).heap[a.block]? = w.heap[a.block]? := World.putObj_heap_other hD
      simp [World.cell?, h1]
  · by_cases hD : B = D
    · subst hD; rw [h] at hC; cases hC
    · rw [World.putObj_heap_other hD]; exact hC

theorem RowAt.same (k : Cells w w') {B : Nat} {cs : List V} (h : RowAt ρ w B cs) : RowAt ρ w' B cs := by
  obtain ⟨C, e, h1, h2, h3⟩ := h
  exact ⟨C, e, k.row B C e h1, h2, VRs.same k _ _ h3⟩

theorem Marks.unput {n D : Nat} {d : Deferred} (hd : d = { target := .collected D, args := #[] }) : ∀ {ds : List Deferred}, (∀ d' ∈ ds, d' ≠ d) → Marks n ρ w ds → Marks n ρ (w.putObj D (.deferred none)) ds
  | [], _, _ => trivial
  | e :: ds, hne, ⟨⟨D', h0, h1, h2, h3, h4⟩, h⟩ => by
    have hD : D' ≠ D := fun he => hne e (List.mem_cons_self ..) (by rw [h1, hd, he])
    exact ⟨⟨D', h0, h1, ⟨by simp [World.putObj]; exact h2.1, h2.2⟩, (World.putObj_heap_other hD).trans h3, h4⟩, Marks.unput hd (fun d' hd' => hne d' (List.mem_cons_of_mem _ hd')) h⟩

theorem SR.unmark {E : Entry} {β : Nat → Option Nat} {s : St} {t : Array Value} {d : Deferred} {ds : List Deferred} (h : SR E ρ β s ⟨t, d :: ds⟩ w) :
    ∃ D, d.target = .collected D ∧ w.heap[D]? = some (.deferred (some [])) ∧ SR E ρ β s ⟨t, ds⟩ (w.putObj D (.deferred none)) := by
  obtain ⟨⟨D, h0, h1, h2, h3, h4⟩, hm⟩ := h.dfr
  have k := Cells.put h3
  have other : ∀ B, B ≠ D → (w.putObj D (.deferred none)).heap[B]? = w.heap[B]? := fun B hB => World.putObj_heap_other hB
  refine ⟨D, by rw [h1], h3, { h with tmps := fun u => ?_, loc := fun u cs hc => ?_, heap := fun b kb hb => ?_, dfr := Marks.unput h1 h4 hm, size := by rw [k.size]; exact h.size, frame := fun B hB hn => ?_, os := h.os, tape := h.tape, output := h.output, shape := fun B C e hC => ?_ }⟩
  · have := h.tmps u
    cases hx : s.A.get u with
    | v x => rw [hx] at this; exact VR.same k _ _ this
    | lp e o => rw [hx] at this; exact this
  · obtain ⟨B, h5, h6⟩ := h.loc u cs hc
    exact ⟨B, h5, h6.same k⟩
  · obtain ⟨B, h5, h6⟩ := h.heap b kb hb
    refine ⟨B, h5, ?_⟩
    have hne : B ≠ D := fun e => h2.2.2 b (e ▸ h5)
    cases kb with
    | cells cs => exact RowAt.same k h6
    | map es => obtain ⟨C, e, q1, q2, q3⟩ := h6; exact ⟨C, e, (other B hne).trans q1, VRs.same k _ _ q2, VRs.same k _ _ q3⟩
    | loop C st pe ps vs => obtain ⟨r, q1, q2, q3, q4, q5, q6⟩ := h6; exact ⟨r, (other B hne).trans q1, q2, q3, q4, q5, VRs.same k _ _ q6⟩
  · exact (other B (by omega)).trans (h.frame B hB hn)
  · obtain ⟨C', h5, h6⟩ := h.shape B C e hC
    exact ⟨C', k.row B C' e h5, h6⟩
end

section
variable {P : Program}

theorem leaves_marks {f : Func} {ρ0 : Rn} {H : AH} {w0 : World} {s' : St} {rs : List RV} {vs : List V} {t : Array Value} (h2 : compRs P f.results.toList = some rs) (hvs : resVs s' rs = some vs) : ∀ (ds : List Deferred) (w' : World) (ρ' : Rn) (β' : Nat → Option Nat), SR (E0 ρ0 H w0) ρ' β' s' ⟨t, ds⟩ w' →
    LeavesInM Fence.wide 0 P f t (fun e w' => ∃ y ρ', e = .returned y ∧ SR (E0 ρ0 H w0) ρ' (fun _ => none) ⟨[], [], s'.H⟩ ⟨#[], []⟩ w' ∧ VR ρ' w' (resT vs) y) ds .returning w'
  | [], w', ρ', β', hs' => by
    obtain ⟨y, hy, hvr⟩ := results_run (P := P) hs' h2 hvs
    obtain ⟨ρ'', hd, hn', hφ, hk⟩ := hs'.dropAll
    exact ⟨y, hy, y, ρ'', rfl, hd, hk _ _ hvr⟩
  | d :: ds, w', ρ', β', hs' => by
    obtain ⟨D, h3, h4, h5⟩ := hs'.unmark
    exact ⟨by simp, .inl ⟨D, _, h3, run_takeDeferred h4, leaves_marks h2 hvs ds _ ρ' β' h5⟩⟩

theorem fn_of {f N : Nat} {ac : AC} {rs : List RV} {args : List V} {H : AH} {Q : V → AH → Prop} (hf : compF P f = some ⟨N, ac, rs⟩) (hn : args.length ≤ N)
    (h : AWp P none N ac (fun e s' => (e = .normal ∨ e = .ret) ∧ ∃ vs, resVs s' rs = some vs ∧ Q (resT vs) s'.H) ⟨argsA 0 args, [], H⟩) : ∃ v H', FN P f args H v H' ∧ Q v H' := by
  obtain ⟨e, s', hb, he, vs, hvs, hQ⟩ := h
  refine ⟨resT vs, s'.H, ?_, hQ⟩
  simp only [compF] at hf
  split at hf
  · rename_i fn hfn
    split at hf
    · rename_i c hc
      split at hf
      · rename_i ac' rs' h1 h2
        cases hf
        intro ρ w xs hr hxs
        have hwf : WF ⟨argsA 0 args, [], H⟩ := fun n d o hd => by simp [argsA_get] at hd
        have hlen := hxs.length
        refine callsIn_of_wp_marks hfn hc trivial ?_
        refine wpIn_mono ((hb c h1 hwf).2 ⟨E0 ρ H w, fun _ => rfl⟩ ρ (fun _ => none) { tmps := xs.toArray ++ Array.replicate (fn.ntmps - xs.toArray.size) undef, defers := [] } w ?_ (by simp; omega)) ?_
        · refine { hr with tmps := fun t => ?_, loc := fun t cs hc => by simp [Loc.get] at hc, dfr := trivial }
          show TR ρ _ w ((argsA 0 args).get t) _
          rw [argsA_get]
          simp only [Nat.zero_le, if_true, Nat.sub_zero, TR]
          cases hv : args[t]? with
          | none => simp [VR]
          | some v =>
            obtain ⟨x, hx, hvr⟩ := hxs.get t v hv
            have hlt : t < xs.length := (List.getElem?_eq_some_iff.1 hx).1
            simp only [Option.getD_some, Array.getD_eq_getD_getElem?]
            rw [Array.getElem?_append_left (by simpa using hlt)]
            simp only [List.getElem?_toArray, hx, Option.getD_some]
            exact hvr
        · rintro e' a' w' ⟨rfl, hN', ρ', β', hs'⟩
          have fin := leaves_marks (f := fn) (ρ0 := ρ) (H := H) (w0 := w) h2 hvs a'.defers w' ρ' β' hs'
          rcases he with rfl | rfl
          · exact fin
          · exact fin
      · cases hf
    · cases hf
  · cases hf

theorem FN.frz {f : Nat} {args : List V} {H H1 : AH} {v : V} (h : FN P f args H v H1) {b : Nat} {cs : List V} (hb : H1.get b = some (.cells cs)) (v' : V) (hv : v.frz b cs = v' := by simp [V.frz]) : FN P f args H v' (H1.del b) := by
  subst hv
  intro ρ w xs hr hxs
  refine (h ρ w xs hr hxs).mono ?_
  rintro e w' ⟨y, ρ', rfl, hs, hv⟩
  obtain ⟨ρ'', hs', _, hk⟩ := hs.frz hb
  exact ⟨y, ρ'', rfl, hs', hk _ _ hv⟩

theorem FN.quiet {f : Nat} {args : List V} {H H1 : AH} {v : V} (h : FN P f args H v H1) (hsame : ∀ b, b < H.next → H1.get b = H.get b) (hv : v.under H.next) : FN P f args H v H := by
  intro ρ w xs hr hxs
  refine (h ρ w xs hr hxs).mono ?_
  rintro e w' ⟨y, ρ', rfl, hs, hvr⟩
  obtain ⟨hs', hk⟩ := SR.quiet hr hs hsame
  exact ⟨y, _, rfl, hs', hk _ _ hvr hv⟩

/-- A function that touches no memory, and returns a plain value. -/
theorem fn_pure {f : Nat} {args : List Value} {y : Value} (h : ∀ w, CallsIn Fence.wide 0 P f args.toArray w fun e w' => e = .returned y ∧ w' = w) (H : AH) : FN P f (args.map .lit) H (.lit y) H := by
  intro ρ w xs hr hxs
  have : xs = args := by
    clear h hr
    induction args generalizing xs with
    | nil => simpa [VRs] using hxs
    | cons a r ih =>
      simp only [List.map_cons, VRs, VR] at hxs
      obtain ⟨x, r', rfl, rfl, h2⟩ := hxs
      rw [ih r' h2]
  subst this
  refine (h w).mono ?_
  rintro e w' ⟨rfl, rfl⟩
  exact ⟨y, ρ, rfl, hr, by simp [VR]⟩

end
end Iso
