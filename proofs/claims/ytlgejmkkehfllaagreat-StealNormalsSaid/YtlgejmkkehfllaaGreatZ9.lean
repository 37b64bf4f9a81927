import Derived.Test.YtlgejmkkehfllaaGreatZ3
import Derived.Test.YtlgejmkkehfllaaGreatProg
/- The layer: what is given up, all at once; jumps that join. Nothing of a program. -/
namespace Iso
open Go Go.RowKit
def SubOn : Env → Env → Prop
  | [], _ => True
  | (t, x) :: r, A => A.get t = x ∧ SubOn r A
theorem sub_on : ∀ {A' A : Env}, SubOn A' A → Sub A' A
  | [], A, _ => sub_nil A
  | (_, _) :: _, _, h => sub_cons h.1 (sub_on h.2)
def LocOn : List Nat → Loc → Loc → Prop
  | [], _, _ => True
  | k :: r, L, L' => L.get k = L'.get k ∧ LocOn r L L'
def keysIn (ks : List Nat) : Loc → Bool
  | [] => true
  | (t, _) :: r => ks.contains t && keysIn ks r
theorem LocOn.get : ∀ {ks : List Nat} {L L' : Loc}, LocOn ks L L' → ∀ k ∈ ks, L.get k = L'.get k
  | _ :: _, _, _, h, k, hk => by
    rcases List.mem_cons.1 hk with rfl | hk
    · exact h.1
    · exact LocOn.get h.2 k hk
theorem keysIn.none : ∀ {ks : List Nat} {L : Loc}, keysIn ks L = true → ∀ k, k ∉ ks → L.get k = none
  | _, [], _, _, _ => rfl
  | ks, (t, x) :: r, h, k, hk => by
    simp only [keysIn, Bool.and_eq_true] at h
    have h1 : t ≠ k := fun e => hk (by subst e; simpa using h.1)
    simp only [Loc.get, if_neg h1]
    exact keysIn.none h.2 k hk
/-- Of temporaries and local variables only these are kept. -/
theorem le_at (ks : List Nat) {A A' : Env} {L L' : Loc} {H : AH} (hA : SubOn A' A) (hL : LocOn ks L L') (h : keysIn ks L = true) (h' : keysIn ks L' = true) : Le ⟨A, L, H⟩ ⟨A', L', H⟩ := by
  refine Le.trans (t := ⟨A, L', H⟩) ?_ (le_sub (sub_on hA))
  have e : ∀ t, L.get t = L'.get t := fun t => by
    by_cases ht : t ∈ ks
    · exact hL.get t ht
    · rw [keysIn.none h t ht, keysIn.none h' t ht]
  exact fun hw => ⟨hw.same ⟨fun _ => rfl, e, rfl⟩, fun E ρ β a w hs => ⟨ρ, β, hs.same ⟨fun _ => rfl, e, rfl⟩⟩⟩
/-! What is passed over, told exactly: so that what hangs on it is passed over too. -/
section
variable {P : Program} {l : Option Nat} {N : Nat}
theorem good_skW {dst : Option Nat} {i : I} {s : St} {g : Nat} {want b : Bool} (hg : s.A.get g = .v (.lit (.bool b))) (hne : b ≠ want) :
    Good P l N ⟨dst, some (g, want), i⟩ ⟨dst, .v (.lit undef), { tmps := [g] }, {}⟩ s := by
  intro ops k o ho hc hd t ht hwf
  obtain ⟨h1, h2, j, oj, h3, h6, h7⟩ := compCI_some hc
  refine ⟨hwf.any dst (.lit undef), fun E ρ β a w hs hN Q K hK => ?_⟩
  simp only [wpOpIn, ho]
  have hy := yield_of hs h6 h7 ((ht.A g (List.mem_cons_self ..)).symm.trans hg)
  rw [if_neg (by simp [Region.wanted, h3, hy, hne])]
  refine ⟨fun f hf => trivial, ?_⟩
  subst h2
  exact hK _ _ ρ β (hs.put o.dst (fun d h => by rw [hN]; exact hd d h) (by simp [TR, VR])) (by rw [put_size]; exact hN)
theorem good_skW2 {dst : Option Nat} {i : I} {s : St} {g : Nat} {want : Bool} (hg : s.A.get g = .v (.lit undef)) :
    Good P l N ⟨dst, some (g, want), i⟩ ⟨dst, .v (.lit undef), { tmps := [g] }, {}⟩ s := by
  intro ops k o ho hc hd t ht hwf
  obtain ⟨h1, h2, j, oj, h3, h6, h7⟩ := compCI_some hc
  refine ⟨hwf.any dst (.lit undef), fun E ρ β a w hs hN Q K hK => ?_⟩
  simp only [wpOpIn, ho]
  have hy : yielded ops a.tmps j = none := by
    have h8 := hs.tmps g
    rw [← ht.A g (List.mem_cons_self ..), hg] at h8
    simp only [TR, VR] at h8
    simp only [yielded, h6, h7, Option.bind_some]
    rw [Array.getD_eq_getD_getElem?] at h8
    cases hx : a.tmps[g]? with
    | none => rfl
    | some x => rw [hx] at h8; simp at h8; subst h8; rfl
  rw [if_neg (by simp [Region.wanted, h3, hy])]
  refine ⟨fun f hf => trivial, ?_⟩
  subst h2
  exact hK _ _ ρ β (hs.put o.dst (fun d h => by rw [hN]; exact hd d h) (by simp [TR, VR])) (by rw [put_size]; exact hN)
variable {A : Env} {L : Loc} {H : AH} {r : List CI} {i : I}
theorem su_v {R : St → Prop} {d g : Nat} {want b : Bool} (hg : A.get g = .v (.lit (.bool b))) (hne : b = !want) (k : SW P l N r R ⟨(d, .v (.lit undef)) :: A, L, H⟩) : SW P l N (⟨some d, some (g, want), i⟩ :: r) R ⟨A, L, H⟩ :=
  SW.cons ⟨some d, .v (.lit undef), { tmps := [g] }, {}⟩ (good_skW hg (by subst hne; cases want <;> decide)) k
theorem su_u {R : St → Prop} {d g : Nat} {want : Bool} (hg : A.get g = .v (.lit undef)) (k : SW P l N r R ⟨(d, .v (.lit undef)) :: A, L, H⟩) : SW P l N (⟨some d, some (g, want), i⟩ :: r) R ⟨A, L, H⟩ :=
  SW.cons ⟨some d, .v (.lit undef), { tmps := [g] }, {}⟩ (good_skW2 hg) k
theorem ru_v {R : List It → St → Prop} {acc : List It} {d g : Nat} {want b : Bool} (hg : A.get g = .v (.lit (.bool b))) (hne : b = !want) (k : RW P l N r (acc ++ [⟨some d, .v (.lit undef), { tmps := [g] }, {}⟩]) R ⟨(d, .v (.lit undef)) :: A, L, H⟩) : RW P l N (⟨some d, some (g, want), i⟩ :: r) acc R ⟨A, L, H⟩ :=
  RW.cons _ (good_skW hg (by subst hne; cases want <;> decide)) k
theorem ru_u {R : List It → St → Prop} {acc : List It} {d g : Nat} {want : Bool} (hg : A.get g = .v (.lit undef)) (k : RW P l N r (acc ++ [⟨some d, .v (.lit undef), { tmps := [g] }, {}⟩]) R ⟨(d, .v (.lit undef)) :: A, L, H⟩) : RW P l N (⟨some d, some (g, want), i⟩ :: r) acc R ⟨A, L, H⟩ :=
  RW.cons _ (good_skW2 hg) k
end
end Iso

/- The compiled code of functions. -/
namespace Iso
open Go Go.Proofs
def ac28 : AC := (.seq 
  (.reg false [] [⟨(some 2), none, (.mv (.k (.lit (.slice none 0 0))))⟩]) (.seq 
  (.reg false [] [⟨(some 11), none, (.call 16 [(.k (.lit (.int .i64 0)))])⟩,
    ⟨(some 3), none, (.new [(.lit (.bool false)), (.lit (.slice none 0 0)), (.lit (.slice none 0 0))])⟩,
    ⟨none, none, (.st 3 (.t 3) (.t 11))⟩]) (.seq (.seq 
  (.reg false [] [⟨(some 12), none, (.mv (.t 0))⟩,
    ⟨(some 13), none, (.len (.t 12))⟩,
    ⟨(some 14), none, (.mv (.k (.lit (.int .i64 0))))⟩]) (.block 0 (.loop (.seq 
  (.reg false [] [⟨(some 15), none, (.bin .lss (.t 14) (.t 13))⟩]) (.seq (.cond (.t 15) .skip (.exit 0)) (.seq (.block 1 (.seq 
  (.reg false [] [⟨(some 16), none, (.iad 4 (.t 12) (.t 14))⟩,
    ⟨(some 17), none, (.ld true 4 (.t 16))⟩,
    ⟨(some 5), none, (.new [(.lit (.int .i64 0)), (.lit (.bool false)), (.lit (.slice none 0 0)), (.lit (.slice none 0 0))])⟩,
    ⟨none, none, (.st 4 (.t 5) (.t 17))⟩]) 
  (.reg false [] [⟨(some 18), none, (.ld true 3 (.t 3))⟩,
    ⟨(some 19), none, (.fad 1 (.t 5))⟩,
    ⟨(some 20), none, (.ld true 3 (.t 19))⟩,
    ⟨(some 21), none, (.call 26 [(.t 18), (.t 20)])⟩,
    ⟨none, none, (.st 3 (.t 3) (.t 21))⟩]))) 
  (.reg false [] [⟨(some 22), none, (.bin .add (.t 14) (.k (.lit (.int .i64 1))))⟩,
    ⟨(some 14), none, (.mv (.t 22))⟩]))))))) (.seq 
  (.reg false [] [⟨(some 6), none, (.mv (.k (.lit (.slice none 0 0))))⟩]) (.seq (.seq 
  (.reg false [] [⟨(some 23), none, (.mv (.t 0))⟩,
    ⟨(some 24), none, (.len (.t 23))⟩,
    ⟨(some 25), none, (.mv (.k (.lit (.int .i64 0))))⟩]) (.block 2 (.loop (.seq 
  (.reg false [] [⟨(some 26), none, (.bin .lss (.t 25) (.t 24))⟩]) (.seq (.cond (.t 26) .skip (.exit 2)) (.seq (.block 3 (.seq 
  (.reg false [] [⟨(some 27), none, (.iad 4 (.t 23) (.t 25))⟩,
    ⟨(some 28), none, (.ld true 4 (.t 27))⟩,
    ⟨(some 8), none, (.new [(.lit (.int .i64 0)), (.lit (.bool false)), (.lit (.slice none 0 0)), (.lit (.slice none 0 0))])⟩,
    ⟨none, none, (.st 4 (.t 8) (.t 28))⟩]) (.seq 
  (.reg false [] [⟨(some 29), none, (.fad 1 (.t 8))⟩,
    ⟨(some 30), none, (.ld true 3 (.t 29))⟩,
    ⟨(some 31), none, (.call 27 [(.t 30)])⟩,
    ⟨(some 32), none, (.bin .neq (.t 31) (.k (.lit (.int .i64 0))))⟩]) (.cond (.t 32) (.seq 
  (.reg false [] [⟨(some 34), none, (.fad 1 (.t 8))⟩,
    ⟨(some 35), none, (.ld true 3 (.t 34))⟩,
    ⟨(some 36), none, (.ld true 3 (.t 3))⟩,
    ⟨(some 37), none, (.call 33 [(.t 35), (.t 36)])⟩,
    ⟨(some 33), none, (.mv (.t 37))⟩,
    ⟨(some 38), none, (.ext (.t 33) 0)⟩,
    ⟨(some 39), none, (.ext (.t 33) 1)⟩,
    ⟨(some 9), none, (.new [(.lit (.bool false)), (.lit (.slice none 0 0)), (.lit (.slice none 0 0))])⟩,
    ⟨none, none, (.st 3 (.t 9) (.t 38))⟩,
    ⟨(some 10), none, (.mv (.t 39))⟩]) 
  (.reg false [] [⟨(some 40), none, (.mv (.t 6))⟩,
    ⟨(some 41), none, (.fad 0 (.t 8))⟩,
    ⟨(some 42), none, (.ld false 1 (.t 41))⟩,
    ⟨(some 43), none, (.ld true 3 (.t 9))⟩,
    ⟨(some 44), none, (.bld [(.lit (.int .i64 0)), (.lit (.bool false)), (.lit (.slice none 0 0)), (.lit (.slice none 0 0))] [(0, (1, (.t 42))), (1, (3, (.t 43)))])⟩,
    ⟨(some 45), none, (.bsl 1 4 [(.lit (.int .i64 0)), (.lit (.bool false)), (.lit (.slice none 0 0)), (.lit (.slice none 0 0))] [(0, (4, (.t 44)))])⟩,
    ⟨(some 46), none, (.app 4 64 (.t 40) (.t 45))⟩,
    ⟨(some 6), none, (.mv (.t 46))⟩])) .skip)))) 
  (.reg false [] [⟨(some 47), none, (.bin .add (.t 25) (.k (.lit (.int .i64 1))))⟩,
    ⟨(some 25), none, (.mv (.t 47))⟩]))))))) (.seq 
  (.reg false [] [⟨(some 48), none, (.mv (.t 6))⟩,
    ⟨(some 49), none, (.call 67 [(.t 48), (.k (.fn 68 []))])⟩]) (.seq 
  (.reg false [] [⟨(some 50), none, (.mv (.t 6))⟩,
    ⟨(some 2), none, (.mv (.t 50))⟩]) .ret)))))))
theorem cf28 : compF Tryz.prog 28 = some ⟨51, ac28, [(.tmp 2)]⟩ := by kernel_rfl
def ac67 : AC :=
  (.reg false [] [⟨(some 4), none, (.mv (.t 0))⟩,
    ⟨(some 5), none, (.mv (.t 0))⟩,
    ⟨(some 6), none, (.len (.t 5))⟩,
    ⟨(some 7), none, (.mv (.t 1))⟩,
    ⟨(some 8), none, (.call 109 [(.t 4), (.t 6), (.t 7)])⟩])
theorem cf67 : compF Tryz.prog 67 = some ⟨9, ac67, []⟩ := by kernel_rfl
def ac68 : AC := (.seq 
  (.reg false [] [⟨(some 2), none, (.box (.t 0))⟩,
    ⟨(some 3), none, (.box (.t 1))⟩,
    ⟨(some 4), none, (.mv (.k (.lit (.int .i64 0))))⟩]) (.seq 
  (.reg false [] [⟨(some 5), none, (.fad 0 (.t 2))⟩,
    ⟨(some 6), none, (.ld false 1 (.t 5))⟩,
    ⟨(some 7), none, (.fad 0 (.t 3))⟩,
    ⟨(some 8), none, (.ld false 1 (.t 7))⟩,
    ⟨(some 9), none, (.bin .sub (.t 6) (.t 8))⟩,
    ⟨(some 4), none, (.mv (.t 9))⟩]) .ret))
theorem cf68 : compF Tryz.prog 68 = some ⟨10, ac68, [(.tmp 4)]⟩ := by kernel_rfl
def ac109 : AC := (.seq 
  (.reg false [] [⟨(some 6), none, (.mv (.k (.lit (.int .i64 20))))⟩]) (.seq 
  (.reg false [] [⟨(some 10), none, (.mv (.t 6))⟩,
    ⟨(some 7), none, (.mv (.k (.lit (.int .i64 0))))⟩,
    ⟨(some 8), none, (.mv (.t 10))⟩]) (.seq (.block 0 (.loop (.seq (.seq 
  (.reg false [] [⟨(some 11), none, (.mv (.t 8))⟩,
    ⟨(some 12), none, (.mv (.t 1))⟩,
    ⟨(some 13), none, (.bin .leq (.t 11) (.t 12))⟩]) (.cond (.t 13) .skip (.exit 0))) (.block 1 (.seq 
  (.reg false [] [⟨(some 14), none, (.mv (.t 0))⟩,
    ⟨(some 15), none, (.mv (.t 7))⟩,
    ⟨(some 16), none, (.mv (.t 8))⟩,
    ⟨(some 17), none, (.mv (.t 2))⟩,
    ⟨(some 18), none, (.call 157 [(.t 14), (.t 15), (.t 16), (.t 17)])⟩]) (.seq 
  (.reg false [] [⟨(some 19), none, (.mv (.t 8))⟩,
    ⟨(some 7), none, (.mv (.t 19))⟩]) 
  (.reg false [] [⟨(some 20), none, (.mv (.t 8))⟩,
    ⟨(some 21), none, (.mv (.t 6))⟩,
    ⟨(some 22), none, (.bin .add (.t 20) (.t 21))⟩,
    ⟨(some 8), none, (.mv (.t 22))⟩]))))))) (.seq 
  (.reg false [] [⟨(some 23), none, (.mv (.t 0))⟩,
    ⟨(some 24), none, (.mv (.t 7))⟩,
    ⟨(some 25), none, (.mv (.t 1))⟩,
    ⟨(some 26), none, (.mv (.t 2))⟩,
    ⟨(some 27), none, (.call 157 [(.t 23), (.t 24), (.t 25), (.t 26)])⟩]) (.block 2 (.loop (.seq (.seq 
  (.reg false [] [⟨(some 28), none, (.mv (.t 6))⟩,
    ⟨(some 29), none, (.mv (.t 1))⟩,
    ⟨(some 30), none, (.bin .lss (.t 28) (.t 29))⟩]) (.cond (.t 30) .skip (.exit 2))) (.block 3 (.seq 
  (.reg false [] [⟨(some 31), none, (.mv (.t 6))⟩,
    ⟨(some 32), none, (.bin .mul (.k (.lit (.int .i64 2))) (.t 31))⟩,
    ⟨(some 7), none, (.mv (.k (.lit (.int .i64 0))))⟩,
    ⟨(some 8), none, (.mv (.t 32))⟩]) (.seq (.block 4 (.loop (.seq (.seq 
  (.reg false [] [⟨(some 33), none, (.mv (.t 8))⟩,
    ⟨(some 34), none, (.mv (.t 1))⟩,
    ⟨(some 35), none, (.bin .leq (.t 33) (.t 34))⟩]) (.cond (.t 35) .skip (.exit 4))) (.block 5 (.seq 
  (.reg false [] [⟨(some 36), none, (.mv (.t 0))⟩,
    ⟨(some 37), none, (.mv (.t 7))⟩,
    ⟨(some 38), none, (.mv (.t 7))⟩,
    ⟨(some 39), none, (.mv (.t 6))⟩,
    ⟨(some 40), none, (.bin .add (.t 38) (.t 39))⟩,
    ⟨(some 41), none, (.mv (.t 8))⟩,
    ⟨(some 42), none, (.mv (.t 2))⟩,
    ⟨(some 43), none, (.call 158 [(.t 36), (.t 37), (.t 40), (.t 41), (.t 42)])⟩]) (.seq 
  (.reg false [] [⟨(some 44), none, (.mv (.t 8))⟩,
    ⟨(some 7), none, (.mv (.t 44))⟩]) 
  (.reg false [] [⟨(some 45), none, (.mv (.t 8))⟩,
    ⟨(some 46), none, (.mv (.t 6))⟩,
    ⟨(some 47), none, (.bin .mul (.k (.lit (.int .i64 2))) (.t 46))⟩,
    ⟨(some 48), none, (.bin .add (.t 45) (.t 47))⟩,
    ⟨(some 8), none, (.mv (.t 48))⟩]))))))) (.seq (.seq 
  (.reg false [] [⟨(some 49), none, (.mv (.t 7))⟩,
    ⟨(some 50), none, (.mv (.t 6))⟩,
    ⟨(some 51), none, (.bin .add (.t 49) (.t 50))⟩,
    ⟨(some 9), none, (.mv (.t 51))⟩]) (.seq 
  (.reg false [] [⟨(some 52), none, (.mv (.t 9))⟩,
    ⟨(some 53), none, (.mv (.t 1))⟩,
    ⟨(some 54), none, (.bin .lss (.t 52) (.t 53))⟩]) (.cond (.t 54) 
  (.reg false [] [⟨(some 55), none, (.mv (.t 0))⟩,
    ⟨(some 56), none, (.mv (.t 7))⟩,
    ⟨(some 57), none, (.mv (.t 9))⟩,
    ⟨(some 58), none, (.mv (.t 1))⟩,
    ⟨(some 59), none, (.mv (.t 2))⟩,
    ⟨(some 60), none, (.call 158 [(.t 55), (.t 56), (.t 57), (.t 58), (.t 59)])⟩]) .skip))) 
  (.reg false [] [⟨(some 61), none, (.mv (.t 6))⟩,
    ⟨(some 62), none, (.bin .mul (.t 61) (.k (.lit (.int .i64 2))))⟩,
    ⟨(some 6), none, (.mv (.t 62))⟩]))))))))))))
theorem cf109 : compF Tryz.prog 109 = some ⟨63, ac109, []⟩ := by kernel_rfl
def ac157 : AC := (.seq 
  (.reg false [] [⟨(some 10), none, (.mv (.t 1))⟩,
    ⟨(some 11), none, (.bin .add (.t 10) (.k (.lit (.int .i64 1))))⟩,
    ⟨(some 8), none, (.mv (.t 11))⟩]) (.block 0 (.loop (.seq (.seq 
  (.reg false [] [⟨(some 12), none, (.mv (.t 8))⟩,
    ⟨(some 13), none, (.mv (.t 2))⟩,
    ⟨(some 14), none, (.bin .lss (.t 12) (.t 13))⟩]) (.cond (.t 14) .skip (.exit 0))) (.seq (.block 1 (.seq 
  (.reg false [] [⟨(some 17), none, (.mv (.t 8))⟩,
    ⟨(some 9), none, (.mv (.t 17))⟩]) (.block 2 (.loop (.seq (.seq 
  (.reg true [[], [], [0, 1], [2], [3], [3], [3], [5, 6, 3], [7, 3], [3], [3], [10, 3], [9, 11, 3], [12, 3], [4, 8, 13, 3, 3], [14, 3], [3, 15]] [⟨(some 18), none, (.mv (.t 9))⟩,
    ⟨(some 19), none, (.mv (.t 1))⟩,
    ⟨(some 20), none, (.bin .gtr (.t 18) (.t 19))⟩,
    ⟨(some 21), none, (.mv (.t 20))⟩,
    ⟨(some 22), (some (21, true)), (.mv (.t 3))⟩,
    ⟨(some 23), (some (21, true)), (.mv (.t 0))⟩,
    ⟨(some 24), (some (21, true)), (.mv (.t 9))⟩,
    ⟨(some 25), (some (21, true)), (.iad 4 (.t 23) (.t 24))⟩,
    ⟨(some 26), (some (21, true)), (.ld true 4 (.t 25))⟩,
    ⟨(some 27), (some (21, true)), (.mv (.t 0))⟩,
    ⟨(some 28), (some (21, true)), (.mv (.t 9))⟩,
    ⟨(some 29), (some (21, true)), (.bin .sub (.t 28) (.k (.lit (.int .i64 1))))⟩,
    ⟨(some 30), (some (21, true)), (.iad 4 (.t 27) (.t 29))⟩,
    ⟨(some 31), (some (21, true)), (.ld true 4 (.t 30))⟩,
    ⟨(some 32), (some (21, true)), (.callv (.t 22) [(.t 26), (.t 31)])⟩,
    ⟨(some 33), (some (21, true)), (.bin .lss (.t 32) (.k (.lit (.int .i64 0))))⟩,
    ⟨(some 34), none, (.pick (.t 21) (.t 33) (.k (.lit (.bool false))))⟩]) (.cond (.t 34) .skip (.exit 2))) (.seq (.block 3 
  (.reg true [[], [], [], [], [3], [], [], [6], [5, 7], [8], [], [], [10, 11], [12], [0, 1, 0, 1, 5, 6, 7, 8, 9, 13], [14, 9, 0, 1, 5, 6, 7, 8, 9, 13], [2, 4, 0, 1, 2, 3, 4, 5, 6, 7, 8, 9, 10, 11, 12, 13, 14, 15], [16, 13, 15, 0, 1, 2, 3, 4, 5, 6, 7, 8, 9, 10, 11, 12, 13, 14, 15]] [⟨(some 37), none, (.mv (.t 0))⟩,
    ⟨(some 38), none, (.mv (.t 9))⟩,
    ⟨(some 39), none, (.mv (.t 0))⟩,
    ⟨(some 40), none, (.mv (.t 9))⟩,
    ⟨(some 41), none, (.bin .sub (.t 40) (.k (.lit (.int .i64 1))))⟩,
    ⟨(some 42), none, (.mv (.t 0))⟩,
    ⟨(some 43), none, (.mv (.t 9))⟩,
    ⟨(some 44), none, (.bin .sub (.t 43) (.k (.lit (.int .i64 1))))⟩,
    ⟨(some 45), none, (.iad 4 (.t 42) (.t 44))⟩,
    ⟨(some 46), none, (.ld true 4 (.t 45))⟩,
    ⟨(some 47), none, (.mv (.t 0))⟩,
    ⟨(some 48), none, (.mv (.t 9))⟩,
    ⟨(some 49), none, (.iad 4 (.t 47) (.t 48))⟩,
    ⟨(some 50), none, (.ld true 4 (.t 49))⟩,
    ⟨(some 51), none, (.iad 4 (.t 37) (.t 38))⟩,
    ⟨none, none, (.st 4 (.t 51) (.t 46))⟩,
    ⟨(some 52), none, (.iad 4 (.t 39) (.t 41))⟩,
    ⟨none, none, (.st 4 (.t 52) (.t 50))⟩])) 
  (.reg false [] [⟨(some 35), none, (.mv (.t 9))⟩,
    ⟨(some 36), none, (.bin .sub (.t 35) (.k (.lit (.int .i64 1))))⟩,
    ⟨(some 9), none, (.mv (.t 36))⟩]))))))) 
  (.reg false [] [⟨(some 15), none, (.mv (.t 8))⟩,
    ⟨(some 16), none, (.bin .add (.t 15) (.k (.lit (.int .i64 1))))⟩,
    ⟨(some 8), none, (.mv (.t 16))⟩]))))))
theorem cf157 : compF Tryz.prog 157 = some ⟨53, ac157, []⟩ := by kernel_rfl
end Iso

/- The compiled code of the functions on magnitudes. -/
namespace Iso
open Go Go.Proofs
def ac106 : AC := (.seq 
  (.reg false [] [⟨(some 2), none, (.mv (.k (.lit (.slice none 0 0))))⟩]) (.seq (.block 0 (.loop (.seq (.seq 
  (.reg false [] [⟨(some 3), none, (.mv (.t 0))⟩,
    ⟨(some 4), none, (.len (.t 3))⟩,
    ⟨(some 5), none, (.bin .gtr (.t 4) (.k (.lit (.int .i64 0))))⟩,
    ⟨(some 6), none, (.mv (.t 5))⟩,
    ⟨(some 7), (some (6, true)), (.mv (.t 0))⟩,
    ⟨(some 8), (some (6, true)), (.mv (.t 0))⟩,
    ⟨(some 9), (some (6, true)), (.len (.t 8))⟩,
    ⟨(some 10), (some (6, true)), (.bin .sub (.t 9) (.k (.lit (.int .i64 1))))⟩,
    ⟨(some 11), (some (6, true)), (.iad 1 (.t 7) (.t 10))⟩,
    ⟨(some 12), (some (6, true)), (.ld false 1 (.t 11))⟩,
    ⟨(some 13), (some (6, true)), (.bin .eql (.t 12) (.k (.lit (.int .u64 0))))⟩,
    ⟨(some 14), none, (.pick (.t 6) (.t 13) (.k (.lit (.bool false))))⟩]) (.cond (.t 14) .skip (.exit 0))) (.block 1 
  (.reg false [] [⟨(some 15), none, (.mv (.t 0))⟩,
    ⟨(some 16), none, (.mv (.t 0))⟩,
    ⟨(some 17), none, (.len (.t 16))⟩,
    ⟨(some 18), none, (.bin .sub (.t 17) (.k (.lit (.int .i64 1))))⟩,
    ⟨(some 19), none, (.sls 1 (.t 15) none (some (.t 18)))⟩,
    ⟨(some 0), none, (.mv (.t 19))⟩]))))) (.seq 
  (.reg false [] [⟨(some 20), none, (.mv (.t 0))⟩,
    ⟨(some 2), none, (.mv (.t 20))⟩]) .ret)))
theorem cf106 : compF Tryz.prog 106 = some ⟨21, ac106, [(.tmp 2)]⟩ := by kernel_rfl
def ac107 : AC := (.seq 
  (.reg false [] [⟨(some 4), none, (.mv (.k (.lit (.int .i64 0))))⟩]) (.seq 
  (.reg false [] [⟨(some 6), none, (.mv (.t 0))⟩,
    ⟨(some 7), none, (.call 106 [(.t 6)])⟩,
    ⟨(some 8), none, (.mv (.t 1))⟩,
    ⟨(some 9), none, (.call 106 [(.t 8)])⟩,
    ⟨(some 0), none, (.mv (.t 7))⟩,
    ⟨(some 1), none, (.mv (.t 9))⟩]) (.seq (.seq 
  (.reg false [] [⟨(some 10), none, (.mv (.t 0))⟩,
    ⟨(some 11), none, (.len (.t 10))⟩,
    ⟨(some 12), none, (.mv (.t 1))⟩,
    ⟨(some 13), none, (.len (.t 12))⟩,
    ⟨(some 14), none, (.bin .neq (.t 11) (.t 13))⟩]) (.cond (.t 14) (.seq (.seq 
  (.reg false [] [⟨(some 15), none, (.mv (.t 0))⟩,
    ⟨(some 16), none, (.len (.t 15))⟩,
    ⟨(some 17), none, (.mv (.t 1))⟩,
    ⟨(some 18), none, (.len (.t 17))⟩,
    ⟨(some 19), none, (.bin .lss (.t 16) (.t 18))⟩]) (.cond (.t 19) (.seq 
  (.reg false [] [⟨(some 4), none, (.mv (.k (.lit (.int .i64 (-1)))))⟩]) .ret) .skip)) (.seq 
  (.reg false [] [⟨(some 4), none, (.mv (.k (.lit (.int .i64 1))))⟩]) .ret)) .skip)) (.seq (.seq 
  (.reg false [] [⟨(some 20), none, (.mv (.t 0))⟩,
    ⟨(some 21), none, (.len (.t 20))⟩,
    ⟨(some 22), none, (.bin .sub (.t 21) (.k (.lit (.int .i64 1))))⟩,
    ⟨(some 5), none, (.mv (.t 22))⟩]) (.block 0 (.loop (.seq (.seq 
  (.reg false [] [⟨(some 23), none, (.mv (.t 5))⟩,
    ⟨(some 24), none, (.bin .geq (.t 23) (.k (.lit (.int .i64 0))))⟩]) (.cond (.t 24) .skip (.exit 0))) (.seq (.block 1 (.seq 
  (.reg true [[], [], [0, 1], [2], [], [], [4, 5], [6], [3, 7]] [⟨(some 27), none, (.mv (.t 0))⟩,
    ⟨(some 28), none, (.mv (.t 5))⟩,
    ⟨(some 29), none, (.iad 1 (.t 27) (.t 28))⟩,
    ⟨(some 30), none, (.ld false 1 (.t 29))⟩,
    ⟨(some 31), none, (.mv (.t 1))⟩,
    ⟨(some 32), none, (.mv (.t 5))⟩,
    ⟨(some 33), none, (.iad 1 (.t 31) (.t 32))⟩,
    ⟨(some 34), none, (.ld false 1 (.t 33))⟩,
    ⟨(some 35), none, (.bin .neq (.t 30) (.t 34))⟩]) (.cond (.t 35) (.seq (.seq 
  (.reg true [[], [], [0, 1], [2], [], [], [4, 5], [6], [3, 7]] [⟨(some 36), none, (.mv (.t 0))⟩,
    ⟨(some 37), none, (.mv (.t 5))⟩,
    ⟨(some 38), none, (.iad 1 (.t 36) (.t 37))⟩,
    ⟨(some 39), none, (.ld false 1 (.t 38))⟩,
    ⟨(some 40), none, (.mv (.t 1))⟩,
    ⟨(some 41), none, (.mv (.t 5))⟩,
    ⟨(some 42), none, (.iad 1 (.t 40) (.t 41))⟩,
    ⟨(some 43), none, (.ld false 1 (.t 42))⟩,
    ⟨(some 44), none, (.bin .lss (.t 39) (.t 43))⟩]) (.cond (.t 44) (.seq 
  (.reg false [] [⟨(some 4), none, (.mv (.k (.lit (.int .i64 (-1)))))⟩]) .ret) .skip)) (.seq 
  (.reg false [] [⟨(some 4), none, (.mv (.k (.lit (.int .i64 1))))⟩]) .ret)) .skip))) 
  (.reg false [] [⟨(some 25), none, (.mv (.t 5))⟩,
    ⟨(some 26), none, (.bin .sub (.t 25) (.k (.lit (.int .i64 1))))⟩,
    ⟨(some 5), none, (.mv (.t 26))⟩])))))) (.seq 
  (.reg false [] [⟨(some 4), none, (.mv (.k (.lit (.int .i64 0))))⟩]) .ret)))))
theorem cf107 : compF Tryz.prog 107 = some ⟨45, ac107, [(.tmp 4)]⟩ := by kernel_rfl
def ac101 : AC := (.seq 
  (.reg false [] [⟨(some 4), none, (.mv (.k (.lit (.slice none 0 0))))⟩]) (.seq (.seq 
  (.reg false [] [⟨(some 10), none, (.mv (.t 0))⟩,
    ⟨(some 11), none, (.len (.t 10))⟩,
    ⟨(some 12), none, (.mv (.t 1))⟩,
    ⟨(some 13), none, (.len (.t 12))⟩,
    ⟨(some 14), none, (.bin .lss (.t 11) (.t 13))⟩]) (.cond (.t 14) 
  (.reg false [] [⟨(some 15), none, (.mv (.t 1))⟩,
    ⟨(some 16), none, (.mv (.t 0))⟩,
    ⟨(some 0), none, (.mv (.t 15))⟩,
    ⟨(some 1), none, (.mv (.t 16))⟩]) .skip)) (.seq 
  (.reg false [] [⟨(some 17), none, (.mv (.t 0))⟩,
    ⟨(some 18), none, (.len (.t 17))⟩,
    ⟨(some 19), none, (.bin .add (.t 18) (.k (.lit (.int .i64 1))))⟩,
    ⟨(some 20), none, (.mks 1 8 [(.lit (.int .u64 0))] (.t 19) (.t 19))⟩,
    ⟨(some 5), none, (.mv (.t 20))⟩]) (.seq 
  (.reg false [] [⟨(some 6), none, (.mv (.k (.lit (.int .u64 0))))⟩]) (.seq (.seq 
  (.reg false [] [⟨(some 21), none, (.mv (.t 0))⟩,
    ⟨(some 22), none, (.len (.t 21))⟩,
    ⟨(some 23), none, (.mv (.k (.lit (.int .i64 0))))⟩]) (.block 0 (.loop (.seq 
  (.reg false [] [⟨(some 24), none, (.bin .lss (.t 23) (.t 22))⟩]) (.seq (.cond (.t 24) .skip (.exit 0)) (.seq (.block 1 (.seq 
  (.reg false [] [⟨(some 25), none, (.mv (.t 23))⟩,
    ⟨(some 26), none, (.iad 1 (.t 21) (.t 23))⟩,
    ⟨(some 27), none, (.ld false 1 (.t 26))⟩,
    ⟨(some 7), none, (.mv (.t 25))⟩,
    ⟨(some 8), none, (.mv (.t 27))⟩]) (.seq 
  (.reg false [] [⟨(some 9), none, (.mv (.k (.lit (.int .u64 0))))⟩]) (.seq (.seq 
  (.reg false [] [⟨(some 28), none, (.mv (.t 7))⟩,
    ⟨(some 29), none, (.mv (.t 1))⟩,
    ⟨(some 30), none, (.len (.t 29))⟩,
    ⟨(some 31), none, (.bin .lss (.t 28) (.t 30))⟩]) (.cond (.t 31) 
  (.reg false [] [⟨(some 32), none, (.mv (.t 1))⟩,
    ⟨(some 33), none, (.mv (.t 7))⟩,
    ⟨(some 34), none, (.iad 1 (.t 32) (.t 33))⟩,
    ⟨(some 35), none, (.ld false 1 (.t 34))⟩,
    ⟨(some 9), none, (.mv (.t 35))⟩]) .skip)) 
  (.reg false [] [⟨(some 37), none, (.mv (.t 5))⟩,
    ⟨(some 38), none, (.mv (.t 7))⟩,
    ⟨(some 39), none, (.mv (.t 8))⟩,
    ⟨(some 40), none, (.mv (.t 9))⟩,
    ⟨(some 41), none, (.mv (.t 6))⟩,
    ⟨(some 42), none, (.adc (.t 39) (.t 40) (.t 41))⟩,
    ⟨(some 36), none, (.mv (.t 42))⟩,
    ⟨(some 43), none, (.ext (.t 36) 0)⟩,
    ⟨(some 44), none, (.ext (.t 36) 1)⟩,
    ⟨(some 45), none, (.iad 1 (.t 37) (.t 38))⟩,
    ⟨none, none, (.st 1 (.t 45) (.t 43))⟩,
    ⟨(some 6), none, (.mv (.t 44))⟩]))))) 
  (.reg false [] [⟨(some 46), none, (.bin .add (.t 23) (.k (.lit (.int .i64 1))))⟩,
    ⟨(some 23), none, (.mv (.t 46))⟩]))))))) (.seq 
  (.reg false [] [⟨(some 47), none, (.mv (.t 5))⟩,
    ⟨(some 48), none, (.mv (.t 0))⟩,
    ⟨(some 49), none, (.len (.t 48))⟩,
    ⟨(some 50), none, (.mv (.t 6))⟩,
    ⟨(some 51), none, (.iad 1 (.t 47) (.t 49))⟩,
    ⟨none, none, (.st 1 (.t 51) (.t 50))⟩]) (.seq 
  (.reg false [] [⟨(some 52), none, (.mv (.t 5))⟩,
    ⟨(some 53), none, (.call 106 [(.t 52)])⟩,
    ⟨(some 4), none, (.mv (.t 53))⟩]) .ret)))))))
theorem cf101 : compF Tryz.prog 101 = some ⟨54, ac101, [(.tmp 4)]⟩ := by kernel_rfl
def ac108 : AC := (.seq 
  (.reg false [] [⟨(some 4), none, (.mv (.k (.lit (.slice none 0 0))))⟩]) (.seq 
  (.reg false [] [⟨(some 10), none, (.mv (.t 0))⟩,
    ⟨(some 11), none, (.call 106 [(.t 10)])⟩,
    ⟨(some 12), none, (.mv (.t 1))⟩,
    ⟨(some 13), none, (.call 106 [(.t 12)])⟩,
    ⟨(some 0), none, (.mv (.t 11))⟩,
    ⟨(some 1), none, (.mv (.t 13))⟩]) (.seq (.seq 
  (.reg false [] [⟨(some 14), none, (.mv (.t 0))⟩,
    ⟨(some 15), none, (.mv (.t 1))⟩,
    ⟨(some 16), none, (.call 107 [(.t 14), (.t 15)])⟩,
    ⟨(some 17), none, (.bin .leq (.t 16) (.k (.lit (.int .i64 0))))⟩]) (.cond (.t 17) (.seq 
  (.reg false [] [⟨(some 4), none, (.mv (.k (.lit (.slice none 0 0))))⟩]) .ret) .skip)) (.seq 
  (.reg false [] [⟨(some 18), none, (.mv (.t 0))⟩,
    ⟨(some 19), none, (.len (.t 18))⟩,
    ⟨(some 20), none, (.mks 1 8 [(.lit (.int .u64 0))] (.t 19) (.t 19))⟩,
    ⟨(some 5), none, (.mv (.t 20))⟩]) (.seq 
  (.reg false [] [⟨(some 6), none, (.mv (.k (.lit (.int .u64 0))))⟩]) (.seq (.seq 
  (.reg false [] [⟨(some 21), none, (.mv (.t 0))⟩,
    ⟨(some 22), none, (.len (.t 21))⟩,
    ⟨(some 23), none, (.mv (.k (.lit (.int .i64 0))))⟩]) (.block 0 (.loop (.seq 
  (.reg false [] [⟨(some 24), none, (.bin .lss (.t 23) (.t 22))⟩]) (.seq (.cond (.t 24) .skip (.exit 0)) (.seq (.block 1 (.seq 
  (.reg false [] [⟨(some 25), none, (.mv (.t 23))⟩,
    ⟨(some 26), none, (.iad 1 (.t 21) (.t 23))⟩,
    ⟨(some 27), none, (.ld false 1 (.t 26))⟩,
    ⟨(some 7), none, (.mv (.t 25))⟩,
    ⟨(some 8), none, (.mv (.t 27))⟩]) (.seq 
  (.reg false [] [⟨(some 9), none, (.mv (.k (.lit (.int .u64 0))))⟩]) (.seq (.seq 
  (.reg false [] [⟨(some 28), none, (.mv (.t 7))⟩,
    ⟨(some 29), none, (.mv (.t 1))⟩,
    ⟨(some 30), none, (.len (.t 29))⟩,
    ⟨(some 31), none, (.bin .lss (.t 28) (.t 30))⟩]) (.cond (.t 31) 
  (.reg false [] [⟨(some 32), none, (.mv (.t 1))⟩,
    ⟨(some 33), none, (.mv (.t 7))⟩,
    ⟨(some 34), none, (.iad 1 (.t 32) (.t 33))⟩,
    ⟨(some 35), none, (.ld false 1 (.t 34))⟩,
    ⟨(some 9), none, (.mv (.t 35))⟩]) .skip)) 
  (.reg false [] [⟨(some 37), none, (.mv (.t 5))⟩,
    ⟨(some 38), none, (.mv (.t 7))⟩,
    ⟨(some 39), none, (.mv (.t 8))⟩,
    ⟨(some 40), none, (.mv (.t 9))⟩,
    ⟨(some 41), none, (.mv (.t 6))⟩,
    ⟨(some 42), none, (.sbb (.t 39) (.t 40) (.t 41))⟩,
    ⟨(some 36), none, (.mv (.t 42))⟩,
    ⟨(some 43), none, (.ext (.t 36) 0)⟩,
    ⟨(some 44), none, (.ext (.t 36) 1)⟩,
    ⟨(some 45), none, (.iad 1 (.t 37) (.t 38))⟩,
    ⟨none, none, (.st 1 (.t 45) (.t 43))⟩,
    ⟨(some 6), none, (.mv (.t 44))⟩]))))) 
  (.reg false [] [⟨(some 46), none, (.bin .add (.t 23) (.k (.lit (.int .i64 1))))⟩,
    ⟨(some 23), none, (.mv (.t 46))⟩]))))))) (.seq 
  (.reg false [] [⟨(some 47), none, (.mv (.t 5))⟩,
    ⟨(some 48), none, (.call 106 [(.t 47)])⟩,
    ⟨(some 4), none, (.mv (.t 48))⟩]) .ret)))))))
theorem cf108 : compF Tryz.prog 108 = some ⟨49, ac108, [(.tmp 4)]⟩ := by kernel_rfl
def ac63 : AC := (.seq 
  (.reg false [] [⟨(some 4), none, (.mv (.k (.lit (.slice none 0 0))))⟩]) (.seq 
  (.reg false [] [⟨(some 14), none, (.mv (.t 0))⟩,
    ⟨(some 15), none, (.len (.t 14))⟩,
    ⟨(some 16), none, (.mv (.t 1))⟩,
    ⟨(some 17), none, (.len (.t 16))⟩,
    ⟨(some 18), none, (.bin .add (.t 15) (.t 17))⟩,
    ⟨(some 19), none, (.mks 1 8 [(.lit (.int .u64 0))] (.t 18) (.t 18))⟩,
    ⟨(some 5), none, (.mv (.t 19))⟩]) (.seq (.seq 
  (.reg false [] [⟨(some 20), none, (.mv (.t 0))⟩,
    ⟨(some 21), none, (.len (.t 20))⟩,
    ⟨(some 22), none, (.mv (.k (.lit (.int .i64 0))))⟩]) (.block 0 (.loop (.seq 
  (.reg false [] [⟨(some 23), none, (.bin .lss (.t 22) (.t 21))⟩]) (.seq (.cond (.t 23) .skip (.exit 0)) (.seq (.block 1 (.seq 
  (.reg false [] [⟨(some 24), none, (.mv (.t 22))⟩,
    ⟨(some 25), none, (.iad 1 (.t 20) (.t 22))⟩,
    ⟨(some 26), none, (.ld false 1 (.t 25))⟩,
    ⟨(some 6), none, (.mv (.t 24))⟩,
    ⟨(some 7), none, (.mv (.t 26))⟩]) (.seq 
  (.reg false [] [⟨(some 8), none, (.mv (.k (.lit (.int .u64 0))))⟩]) (.seq (.seq 
  (.reg false [] [⟨(some 27), none, (.mv (.t 1))⟩,
    ⟨(some 28), none, (.len (.t 27))⟩,
    ⟨(some 29), none, (.mv (.k (.lit (.int .i64 0))))⟩]) (.block 2 (.loop (.seq 
  (.reg false [] [⟨(some 30), none, (.bin .lss (.t 29) (.t 28))⟩]) (.seq (.cond (.t 30) .skip (.exit 2)) (.seq (.block 3 (.seq 
  (.reg false [] [⟨(some 31), none, (.mv (.t 29))⟩,
    ⟨(some 32), none, (.iad 1 (.t 27) (.t 29))⟩,
    ⟨(some 33), none, (.ld false 1 (.t 32))⟩,
    ⟨(some 9), none, (.mv (.t 31))⟩,
    ⟨(some 10), none, (.mv (.t 33))⟩]) (.seq 
  (.reg false [] [⟨(some 35), none, (.mv (.t 7))⟩,
    ⟨(some 36), none, (.mv (.t 10))⟩,
    ⟨(some 37), none, (.call 104 [(.t 35), (.t 36)])⟩,
    ⟨(some 34), none, (.mv (.t 37))⟩,
    ⟨(some 38), none, (.ext (.t 34) 0)⟩,
    ⟨(some 39), none, (.ext (.t 34) 1)⟩,
    ⟨(some 11), none, (.mv (.t 38))⟩,
    ⟨(some 12), none, (.mv (.t 39))⟩]) (.seq 
  (.reg false [] [⟨(some 13), none, (.mv (.k (.lit (.int .u64 0))))⟩]) (.seq 
  (.reg false [] [⟨(some 41), none, (.mv (.t 12))⟩,
    ⟨(some 42), none, (.mv (.t 8))⟩,
    ⟨(some 43), none, (.adc (.t 41) (.t 42) (.k (.lit (.int .u64 0))))⟩,
    ⟨(some 40), none, (.mv (.t 43))⟩,
    ⟨(some 44), none, (.ext (.t 40) 0)⟩,
    ⟨(some 45), none, (.ext (.t 40) 1)⟩,
    ⟨(some 12), none, (.mv (.t 44))⟩,
    ⟨(some 13), none, (.mv (.t 45))⟩]) (.seq 
  (.reg false [] [⟨(some 46), none, (.mv (.t 11))⟩,
    ⟨(some 47), none, (.mv (.t 13))⟩,
    ⟨(some 48), none, (.bin .add (.t 46) (.t 47))⟩,
    ⟨(some 11), none, (.mv (.t 48))⟩]) (.seq 
  (.reg false [] [⟨(some 50), none, (.mv (.t 5))⟩,
    ⟨(some 51), none, (.mv (.t 6))⟩,
    ⟨(some 52), none, (.mv (.t 9))⟩,
    ⟨(some 53), none, (.bin .add (.t 51) (.t 52))⟩,
    ⟨(some 54), none, (.mv (.t 5))⟩,
    ⟨(some 55), none, (.mv (.t 6))⟩,
    ⟨(some 56), none, (.mv (.t 9))⟩,
    ⟨(some 57), none, (.bin .add (.t 55) (.t 56))⟩,
    ⟨(some 58), none, (.iad 1 (.t 54) (.t 57))⟩,
    ⟨(some 59), none, (.ld false 1 (.t 58))⟩,
    ⟨(some 60), none, (.mv (.t 12))⟩,
    ⟨(some 61), none, (.adc (.t 59) (.t 60) (.k (.lit (.int .u64 0))))⟩,
    ⟨(some 49), none, (.mv (.t 61))⟩,
    ⟨(some 62), none, (.ext (.t 49) 0)⟩,
    ⟨(some 63), none, (.ext (.t 49) 1)⟩,
    ⟨(some 64), none, (.iad 1 (.t 50) (.t 53))⟩,
    ⟨none, none, (.st 1 (.t 64) (.t 62))⟩,
    ⟨(some 13), none, (.mv (.t 63))⟩]) 
  (.reg false [] [⟨(some 65), none, (.mv (.t 11))⟩,
    ⟨(some 66), none, (.mv (.t 13))⟩,
    ⟨(some 67), none, (.bin .add (.t 65) (.t 66))⟩,
    ⟨(some 8), none, (.mv (.t 67))⟩])))))))) 
  (.reg false [] [⟨(some 68), none, (.bin .add (.t 29) (.k (.lit (.int .i64 1))))⟩,
    ⟨(some 29), none, (.mv (.t 68))⟩]))))))) 
  (.reg false [] [⟨(some 69), none, (.mv (.t 5))⟩,
    ⟨(some 70), none, (.mv (.t 6))⟩,
    ⟨(some 71), none, (.mv (.t 1))⟩,
    ⟨(some 72), none, (.len (.t 71))⟩,
    ⟨(some 73), none, (.bin .add (.t 70) (.t 72))⟩,
    ⟨(some 74), none, (.mv (.t 8))⟩,
    ⟨(some 75), none, (.iad 1 (.t 69) (.t 73))⟩,
    ⟨none, none, (.st 1 (.t 75) (.t 74))⟩]))))) 
  (.reg false [] [⟨(some 76), none, (.bin .add (.t 22) (.k (.lit (.int .i64 1))))⟩,
    ⟨(some 22), none, (.mv (.t 76))⟩]))))))) (.seq 
  (.reg false [] [⟨(some 77), none, (.mv (.t 5))⟩,
    ⟨(some 78), none, (.call 106 [(.t 77)])⟩,
    ⟨(some 4), none, (.mv (.t 78))⟩]) .ret))))
theorem cf63 : compF Tryz.prog 63 = some ⟨79, ac63, [(.tmp 4)]⟩ := by kernel_rfl
def ac82 : AC := (.seq 
  (.reg false [] [⟨(some 2), none, (.mv (.k (.lit (.slice none 0 0))))⟩]) (.seq 
  (.reg false [] [⟨(some 3), none, (.mv (.t 0))⟩,
    ⟨(some 4), none, (.bsl 1 1 [(.lit (.int .u64 0))] [(0, (1, (.t 3)))])⟩,
    ⟨(some 5), none, (.call 106 [(.t 4)])⟩,
    ⟨(some 2), none, (.mv (.t 5))⟩]) .ret))
theorem cf82 : compF Tryz.prog 82 = some ⟨6, ac82, [(.tmp 2)]⟩ := by kernel_rfl
def ac103 : AC := (.seq 
  (.reg false [] [⟨(some 2), none, (.mv (.k (.lit (.int .i64 0))))⟩]) (.seq 
  (.reg false [] [⟨(some 3), none, (.mv (.t 0))⟩,
    ⟨(some 4), none, (.call 106 [(.t 3)])⟩,
    ⟨(some 0), none, (.mv (.t 4))⟩]) (.seq (.seq 
  (.reg false [] [⟨(some 5), none, (.mv (.t 0))⟩,
    ⟨(some 6), none, (.len (.t 5))⟩,
    ⟨(some 7), none, (.bin .eql (.t 6) (.k (.lit (.int .i64 0))))⟩]) (.cond (.t 7) (.seq 
  (.reg false [] [⟨(some 2), none, (.mv (.k (.lit (.int .i64 0))))⟩]) .ret) .skip)) (.seq 
  (.reg false [] [⟨(some 8), none, (.mv (.t 0))⟩,
    ⟨(some 9), none, (.len (.t 8))⟩,
    ⟨(some 10), none, (.bin .sub (.t 9) (.k (.lit (.int .i64 1))))⟩,
    ⟨(some 11), none, (.bin .mul (.k (.lit (.int .i64 64))) (.t 10))⟩,
    ⟨(some 12), none, (.mv (.t 0))⟩,
    ⟨(some 13), none, (.mv (.t 0))⟩,
    ⟨(some 14), none, (.len (.t 13))⟩,
    ⟨(some 15), none, (.bin .sub (.t 14) (.k (.lit (.int .i64 1))))⟩,
    ⟨(some 16), none, (.iad 1 (.t 12) (.t 15))⟩,
    ⟨(some 17), none, (.ld false 1 (.t 16))⟩,
    ⟨(some 18), none, (.call 146 [(.t 17)])⟩,
    ⟨(some 19), none, (.bin .add (.t 11) (.t 18))⟩,
    ⟨(some 2), none, (.mv (.t 19))⟩]) .ret))))
theorem cf103 : compF Tryz.prog 103 = some ⟨20, ac103, [(.tmp 2)]⟩ := by kernel_rfl
def ac150 : AC := (.seq 
  (.reg false [] [⟨(some 4), none, (.mv (.k (.lit (.slice none 0 0))))⟩,
    ⟨(some 5), none, (.mv (.k (.lit (.int .u64 0))))⟩]) (.seq 
  (.reg false [] [⟨(some 9), none, (.mv (.t 0))⟩,
    ⟨(some 10), none, (.len (.t 9))⟩,
    ⟨(some 11), none, (.mks 1 8 [(.lit (.int .u64 0))] (.t 10) (.t 10))⟩,
    ⟨(some 6), none, (.mv (.t 11))⟩]) (.seq 
  (.reg false [] [⟨(some 7), none, (.mv (.k (.lit (.int .u64 0))))⟩]) (.seq (.seq 
  (.reg false [] [⟨(some 12), none, (.mv (.t 0))⟩,
    ⟨(some 13), none, (.len (.t 12))⟩,
    ⟨(some 14), none, (.bin .sub (.t 13) (.k (.lit (.int .i64 1))))⟩,
    ⟨(some 8), none, (.mv (.t 14))⟩]) (.block 0 (.loop (.seq (.seq 
  (.reg false [] [⟨(some 15), none, (.mv (.t 8))⟩,
    ⟨(some 16), none, (.bin .geq (.t 15) (.k (.lit (.int .i64 0))))⟩]) (.cond (.t 16) .skip (.exit 0))) (.seq (.block 1 
  (.reg false [] [⟨(some 20), none, (.mv (.t 6))⟩,
    ⟨(some 21), none, (.mv (.t 8))⟩,
    ⟨(some 22), none, (.mv (.t 7))⟩,
    ⟨(some 23), none, (.mv (.t 0))⟩,
    ⟨(some 24), none, (.mv (.t 8))⟩,
    ⟨(some 25), none, (.iad 1 (.t 23) (.t 24))⟩,
    ⟨(some 26), none, (.ld false 1 (.t 25))⟩,
    ⟨(some 27), none, (.mv (.t 1))⟩,
    ⟨(some 28), none, (.call 171 [(.t 22), (.t 26), (.t 27)])⟩,
    ⟨(some 19), none, (.mv (.t 28))⟩,
    ⟨(some 29), none, (.ext (.t 19) 0)⟩,
    ⟨(some 30), none, (.ext (.t 19) 1)⟩,
    ⟨(some 31), none, (.iad 1 (.t 20) (.t 21))⟩,
    ⟨none, none, (.st 1 (.t 31) (.t 29))⟩,
    ⟨(some 7), none, (.mv (.t 30))⟩])) 
  (.reg false [] [⟨(some 17), none, (.mv (.t 8))⟩,
    ⟨(some 18), none, (.bin .sub (.t 17) (.k (.lit (.int .i64 1))))⟩,
    ⟨(some 8), none, (.mv (.t 18))⟩])))))) (.seq 
  (.reg false [] [⟨(some 32), none, (.mv (.t 6))⟩,
    ⟨(some 33), none, (.call 106 [(.t 32)])⟩,
    ⟨(some 34), none, (.mv (.t 7))⟩,
    ⟨(some 4), none, (.mv (.t 33))⟩,
    ⟨(some 5), none, (.mv (.t 34))⟩]) .ret)))))
theorem cf150 : compF Tryz.prog 150 = some ⟨35, ac150, [(.tmp 4), (.tmp 5)]⟩ := by kernel_rfl
def ac102 : AC := (.seq 
  (.reg false [] [⟨(some 4), none, (.mv (.k (.lit (.slice none 0 0))))⟩,
    ⟨(some 5), none, (.mv (.k (.lit (.slice none 0 0))))⟩]) (.seq 
  (.reg false [] [⟨(some 15), none, (.mv (.t 0))⟩,
    ⟨(some 16), none, (.call 106 [(.t 15)])⟩,
    ⟨(some 17), none, (.mv (.t 1))⟩,
    ⟨(some 18), none, (.call 106 [(.t 17)])⟩,
    ⟨(some 0), none, (.mv (.t 16))⟩,
    ⟨(some 1), none, (.mv (.t 18))⟩]) (.seq (.block 0 (.seq 
  (.reg false [] [⟨(some 20), none, (.mv (.t 1))⟩,
    ⟨(some 21), none, (.len (.t 20))⟩,
    ⟨(some 22), none, (.bin .eql (.t 21) (.k (.lit (.int .i64 0))))⟩,
    ⟨(some 23), none, (.mv (.t 22))⟩,
    ⟨(some 24), (some (23, false)), (.mv (.t 0))⟩,
    ⟨(some 25), (some (23, false)), (.mv (.t 1))⟩,
    ⟨(some 26), (some (23, false)), (.call 107 [(.t 24), (.t 25)])⟩,
    ⟨(some 27), (some (23, false)), (.bin .lss (.t 26) (.k (.lit (.int .i64 0))))⟩,
    ⟨(some 28), none, (.pick (.t 23) (.k (.lit (.bool true))) (.t 27))⟩,
    ⟨(some 19), none, (.mv (.t 28))⟩]) (.cond (.t 19) (.seq 
  (.reg false [] [⟨(some 29), none, (.mv (.t 0))⟩,
    ⟨(some 30), none, (.app 1 8 (.k (.lit (.slice none 0 0))) (.t 29))⟩,
    ⟨(some 4), none, (.mv (.k (.lit (.slice none 0 0))))⟩,
    ⟨(some 5), none, (.mv (.t 30))⟩]) .ret) (.seq 
  (.reg false [] [⟨(some 32), none, (.mv (.t 1))⟩,
    ⟨(some 33), none, (.len (.t 32))⟩,
    ⟨(some 34), none, (.bin .eql (.t 33) (.k (.lit (.int .i64 1))))⟩,
    ⟨(some 31), none, (.mv (.t 34))⟩]) (.cond (.t 31) (.seq 
  (.reg false [] [⟨(some 36), none, (.mv (.t 0))⟩,
    ⟨(some 37), none, (.mv (.t 1))⟩,
    ⟨(some 38), none, (.iad 1 (.t 37) (.k (.lit (.int .i64 0))))⟩,
    ⟨(some 39), none, (.ld false 1 (.t 38))⟩,
    ⟨(some 40), none, (.call 150 [(.t 36), (.t 39)])⟩,
    ⟨(some 35), none, (.mv (.t 40))⟩,
    ⟨(some 41), none, (.ext (.t 35) 0)⟩,
    ⟨(some 42), none, (.ext (.t 35) 1)⟩,
    ⟨(some 6), none, (.mv (.t 41))⟩,
    ⟨(some 7), none, (.mv (.t 42))⟩]) (.seq 
  (.reg false [] [⟨(some 43), none, (.mv (.t 6))⟩,
    ⟨(some 44), none, (.mv (.t 7))⟩,
    ⟨(some 45), none, (.call 82 [(.t 44)])⟩,
    ⟨(some 4), none, (.mv (.t 43))⟩,
    ⟨(some 5), none, (.mv (.t 45))⟩]) .ret)) .skip))))) (.seq 
  (.reg false [] [⟨(some 46), none, (.mv (.t 1))⟩,
    ⟨(some 47), none, (.len (.t 46))⟩,
    ⟨(some 48), none, (.bin .mul (.k (.lit (.int .i64 64))) (.t 47))⟩,
    ⟨(some 49), none, (.mv (.t 1))⟩,
    ⟨(some 50), none, (.call 103 [(.t 49)])⟩,
    ⟨(some 51), none, (.bin .sub (.t 48) (.t 50))⟩,
    ⟨(some 8), none, (.mv (.t 51))⟩]) (.seq 
  (.reg false [] [⟨(some 52), none, (.mv (.t 1))⟩,
    ⟨(some 53), none, (.mv (.t 8))⟩,
    ⟨(some 54), none, (.call 151 [(.t 52), (.t 53)])⟩,
    ⟨(some 9), none, (.mv (.t 54))⟩]) (.seq 
  (.reg false [] [⟨(some 55), none, (.mv (.t 0))⟩,
    ⟨(some 56), none, (.len (.t 55))⟩,
    ⟨(some 57), none, (.bin .add (.t 56) (.k (.lit (.int .i64 1))))⟩,
    ⟨(some 58), none, (.mks 1 8 [(.lit (.int .u64 0))] (.t 57) (.t 57))⟩,
    ⟨(some 10), none, (.mv (.t 58))⟩]) (.seq 
  (.reg false [] [⟨(some 59), none, (.mv (.t 10))⟩,
    ⟨(some 60), none, (.mv (.t 0))⟩,
    ⟨(some 61), none, (.mv (.t 8))⟩,
    ⟨(some 62), none, (.call 151 [(.t 60), (.t 61)])⟩,
    ⟨(some 63), none, (.cpy 1 (.t 59) (.t 62))⟩]) (.seq 
  (.reg false [] [⟨(some 64), none, (.mv (.t 9))⟩,
    ⟨(some 65), none, (.len (.t 64))⟩,
    ⟨(some 11), none, (.mv (.t 65))⟩]) (.seq 
  (.reg false [] [⟨(some 66), none, (.mv (.t 10))⟩,
    ⟨(some 67), none, (.len (.t 66))⟩,
    ⟨(some 68), none, (.mv (.t 11))⟩,
    ⟨(some 69), none, (.bin .sub (.t 67) (.t 68))⟩,
    ⟨(some 70), none, (.mks 1 8 [(.lit (.int .u64 0))] (.t 69) (.t 69))⟩,
    ⟨(some 12), none, (.mv (.t 70))⟩]) (.seq (.seq 
  (.reg false [] [⟨(some 71), none, (.mv (.t 12))⟩,
    ⟨(some 72), none, (.len (.t 71))⟩,
    ⟨(some 73), none, (.bin .sub (.t 72) (.k (.lit (.int .i64 1))))⟩,
    ⟨(some 13), none, (.mv (.t 73))⟩]) (.block 1 (.loop (.seq (.seq 
  (.reg false [] [⟨(some 74), none, (.mv (.t 13))⟩,
    ⟨(some 75), none, (.bin .geq (.t 74) (.k (.lit (.int .i64 0))))⟩]) (.cond (.t 75) .skip (.exit 1))) (.seq (.block 2 (.seq 
  (.reg false [] [⟨(some 78), none, (.mv (.t 10))⟩,
    ⟨(some 79), none, (.mv (.t 13))⟩,
    ⟨(some 80), none, (.mv (.t 13))⟩,
    ⟨(some 81), none, (.mv (.t 11))⟩,
    ⟨(some 82), none, (.bin .add (.t 80) (.t 81))⟩,
    ⟨(some 83), none, (.bin .add (.t 82) (.k (.lit (.int .i64 1))))⟩,
    ⟨(some 84), none, (.sls 1 (.t 78) (some (.t 79)) (some (.t 83)))⟩,
    ⟨(some 14), none, (.mv (.t 84))⟩]) (.seq 
  (.reg false [] [⟨(some 85), none, (.mv (.t 12))⟩,
    ⟨(some 86), none, (.mv (.t 13))⟩,
    ⟨(some 87), none, (.mv (.t 14))⟩,
    ⟨(some 88), none, (.mv (.t 9))⟩,
    ⟨(some 89), none, (.call 152 [(.t 87), (.t 88)])⟩,
    ⟨(some 90), none, (.iad 1 (.t 85) (.t 86))⟩,
    ⟨none, none, (.st 1 (.t 90) (.t 89))⟩]) (.seq 
  (.reg false [] [⟨(some 91), none, (.mv (.t 14))⟩,
    ⟨(some 92), none, (.mv (.t 9))⟩,
    ⟨(some 93), none, (.mv (.t 12))⟩,
    ⟨(some 94), none, (.mv (.t 13))⟩,
    ⟨(some 95), none, (.iad 1 (.t 93) (.t 94))⟩,
    ⟨(some 96), none, (.ld false 1 (.t 95))⟩,
    ⟨(some 97), none, (.call 153 [(.t 91), (.t 92), (.t 96)])⟩]) (.cond (.t 97) (.seq 
  (.reg false [] [⟨(some 98), none, (.mv (.t 12))⟩,
    ⟨(some 99), none, (.mv (.t 13))⟩,
    ⟨(some 100), none, (.iad 1 (.t 98) (.t 99))⟩,
    ⟨(some 101), none, (.ld false 1 (.t 100))⟩,
    ⟨(some 102), none, (.bin .sub (.t 101) (.k (.lit (.int .u64 1))))⟩,
    ⟨(some 103), none, (.iad 1 (.t 98) (.t 99))⟩,
    ⟨none, none, (.st 1 (.t 103) (.t 102))⟩]) 
  (.reg false [] [⟨(some 104), none, (.mv (.t 14))⟩,
    ⟨(some 105), none, (.mv (.t 9))⟩,
    ⟨(some 106), none, (.call 154 [(.t 104), (.t 105)])⟩])) .skip))))) 
  (.reg false [] [⟨(some 76), none, (.mv (.t 13))⟩,
    ⟨(some 77), none, (.bin .sub (.t 76) (.k (.lit (.int .i64 1))))⟩,
    ⟨(some 13), none, (.mv (.t 77))⟩])))))) (.seq 
  (.reg true [[], [0], [], [], [2, 3], [4, 1], [], [5, 6, 5], [1, 7, 0, 1], [7, 8, 0, 1, 2, 3, 4, 5, 6, 7, 8]] [⟨(some 107), none, (.mv (.t 12))⟩,
    ⟨(some 108), none, (.call 106 [(.t 107)])⟩,
    ⟨(some 109), none, (.mv (.t 10))⟩,
    ⟨(some 110), none, (.mv (.t 11))⟩,
    ⟨(some 111), none, (.sls 1 (.t 109) none (some (.t 110)))⟩,
    ⟨(some 112), none, (.call 106 [(.t 111)])⟩,
    ⟨(some 113), none, (.mv (.t 8))⟩,
    ⟨(some 114), none, (.call 155 [(.t 112), (.t 113)])⟩,
    ⟨(some 4), none, (.mv (.t 108))⟩,
    ⟨(some 5), none, (.mv (.t 114))⟩]) .ret)))))))))))
theorem cf102 : compF Tryz.prog 102 = some ⟨115, ac102, [(.tmp 4), (.tmp 5)]⟩ := by kernel_rfl
def ac100 : AC := (.seq 
  (.reg false [] [⟨(some 4), none, (.mv (.k (.lit (.slice none 0 0))))⟩]) (.seq 
  (.reg false [] [⟨(some 9), none, (.mv (.t 0))⟩,
    ⟨(some 10), none, (.call 106 [(.t 9)])⟩,
    ⟨(some 11), none, (.mv (.t 1))⟩,
    ⟨(some 12), none, (.call 106 [(.t 11)])⟩,
    ⟨(some 0), none, (.mv (.t 10))⟩,
    ⟨(some 1), none, (.mv (.t 12))⟩]) (.seq (.block 0 (.seq 
  (.reg false [] [⟨(some 14), none, (.mv (.t 0))⟩,
    ⟨(some 15), none, (.len (.t 14))⟩,
    ⟨(some 16), none, (.bin .eql (.t 15) (.k (.lit (.int .i64 0))))⟩,
    ⟨(some 13), none, (.mv (.t 16))⟩]) (.cond (.t 13) (.seq 
  (.reg false [] [⟨(some 17), none, (.mv (.t 1))⟩,
    ⟨(some 18), none, (.app 1 8 (.k (.lit (.slice none 0 0))) (.t 17))⟩,
    ⟨(some 4), none, (.mv (.t 18))⟩]) .ret) (.seq 
  (.reg false [] [⟨(some 20), none, (.mv (.t 1))⟩,
    ⟨(some 21), none, (.len (.t 20))⟩,
    ⟨(some 22), none, (.bin .eql (.t 21) (.k (.lit (.int .i64 0))))⟩,
    ⟨(some 19), none, (.mv (.t 22))⟩]) (.cond (.t 19) (.seq 
  (.reg false [] [⟨(some 23), none, (.mv (.t 0))⟩,
    ⟨(some 24), none, (.app 1 8 (.k (.lit (.slice none 0 0))) (.t 23))⟩,
    ⟨(some 4), none, (.mv (.t 24))⟩]) .ret) .skip))))) (.seq (.block 1 (.loop (.seq (.seq 
  (.reg false [] [⟨(some 25), none, (.mv (.t 1))⟩,
    ⟨(some 26), none, (.len (.t 25))⟩,
    ⟨(some 27), none, (.bin .gtr (.t 26) (.k (.lit (.int .i64 1))))⟩,
    ⟨(some 28), none, (.mv (.t 27))⟩,
    ⟨(some 29), (some (28, false)), (.mv (.t 1))⟩,
    ⟨(some 30), (some (28, false)), (.len (.t 29))⟩,
    ⟨(some 31), (some (28, false)), (.bin .eql (.t 30) (.k (.lit (.int .i64 1))))⟩,
    ⟨(some 32), (some (28, false)), (.mv (.t 31))⟩,
    ⟨(some 33), (some (32, true)), (.mv (.t 0))⟩,
    ⟨(some 34), (some (32, true)), (.len (.t 33))⟩,
    ⟨(some 35), (some (32, true)), (.bin .gtr (.t 34) (.k (.lit (.int .i64 1))))⟩,
    ⟨(some 36), (some (28, false)), (.pick (.t 32) (.t 35) (.k (.lit (.bool false))))⟩,
    ⟨(some 37), none, (.pick (.t 28) (.k (.lit (.bool true))) (.t 36))⟩]) (.cond (.t 37) .skip (.exit 1))) (.block 2 (.seq 
  (.reg false [] [⟨(some 39), none, (.mv (.t 0))⟩,
    ⟨(some 40), none, (.mv (.t 1))⟩,
    ⟨(some 41), none, (.call 102 [(.t 39), (.t 40)])⟩,
    ⟨(some 38), none, (.mv (.t 41))⟩,
    ⟨(some 42), none, (.ext (.t 38) 0)⟩,
    ⟨(some 43), none, (.ext (.t 38) 1)⟩,
    ⟨(some 5), none, (.mv (.t 42))⟩,
    ⟨(some 6), none, (.mv (.t 43))⟩]) 
  (.reg false [] [⟨(some 44), none, (.mv (.t 1))⟩,
    ⟨(some 45), none, (.mv (.t 6))⟩,
    ⟨(some 0), none, (.mv (.t 44))⟩,
    ⟨(some 1), none, (.mv (.t 45))⟩])))))) (.seq (.seq 
  (.reg false [] [⟨(some 46), none, (.mv (.t 1))⟩,
    ⟨(some 47), none, (.len (.t 46))⟩,
    ⟨(some 48), none, (.bin .eql (.t 47) (.k (.lit (.int .i64 0))))⟩]) (.cond (.t 48) (.seq 
  (.reg false [] [⟨(some 49), none, (.mv (.t 0))⟩,
    ⟨(some 50), none, (.app 1 8 (.k (.lit (.slice none 0 0))) (.t 49))⟩,
    ⟨(some 4), none, (.mv (.t 50))⟩]) .ret) .skip)) (.seq 
  (.reg true [[], [0], [1], [], [3], [4], [2, 0, 1, 2], [5, 6, 0, 1, 2, 3, 4, 5, 6]] [⟨(some 51), none, (.mv (.t 0))⟩,
    ⟨(some 52), none, (.iad 1 (.t 51) (.k (.lit (.int .i64 0))))⟩,
    ⟨(some 53), none, (.ld false 1 (.t 52))⟩,
    ⟨(some 54), none, (.mv (.t 1))⟩,
    ⟨(some 55), none, (.iad 1 (.t 54) (.k (.lit (.int .i64 0))))⟩,
    ⟨(some 56), none, (.ld false 1 (.t 55))⟩,
    ⟨(some 7), none, (.mv (.t 53))⟩,
    ⟨(some 8), none, (.mv (.t 56))⟩]) (.seq (.block 3 (.loop (.seq (.seq 
  (.reg false [] [⟨(some 57), none, (.mv (.t 8))⟩,
    ⟨(some 58), none, (.bin .gtr (.t 57) (.k (.lit (.int .u64 0))))⟩]) (.cond (.t 58) .skip (.exit 3))) (.block 4 
  (.reg true [[], [], [], [1, 2], [0, 0, 1], [3, 4, 0, 1, 2, 3, 4]] [⟨(some 59), none, (.mv (.t 8))⟩,
    ⟨(some 60), none, (.mv (.t 7))⟩,
    ⟨(some 61), none, (.mv (.t 8))⟩,
    ⟨(some 62), none, (.bin .rem (.t 60) (.t 61))⟩,
    ⟨(some 7), none, (.mv (.t 59))⟩,
    ⟨(some 8), none, (.mv (.t 62))⟩]))))) (.seq 
  (.reg false [] [⟨(some 63), none, (.mv (.t 7))⟩,
    ⟨(some 64), none, (.call 82 [(.t 63)])⟩,
    ⟨(some 4), none, (.mv (.t 64))⟩]) .ret))))))))
theorem cf100 : compF Tryz.prog 100 = some ⟨65, ac100, [(.tmp 4)]⟩ := by kernel_rfl
def ac104 : AC := (.seq 
  (.reg false [] [⟨(some 4), none, (.mv (.k (.lit (.int .u64 0))))⟩,
    ⟨(some 5), none, (.mv (.k (.lit (.int .u64 0))))⟩]) (.seq 
  (.reg false [] [⟨(some 14), none, (.mv (.t 0))⟩,
    ⟨(some 15), none, (.bin .and (.t 14) (.k (.lit (.int .u64 4294967295))))⟩,
    ⟨(some 6), none, (.mv (.t 15))⟩]) (.seq 
  (.reg false [] [⟨(some 16), none, (.mv (.t 0))⟩,
    ⟨(some 17), none, (.bin .shr (.t 16) (.k (.lit (.int .u64 32))))⟩,
    ⟨(some 7), none, (.mv (.t 17))⟩]) (.seq 
  (.reg false [] [⟨(some 18), none, (.mv (.t 1))⟩,
    ⟨(some 19), none, (.bin .and (.t 18) (.k (.lit (.int .u64 4294967295))))⟩,
    ⟨(some 8), none, (.mv (.t 19))⟩]) (.seq 
  (.reg false [] [⟨(some 20), none, (.mv (.t 1))⟩,
    ⟨(some 21), none, (.bin .shr (.t 20) (.k (.lit (.int .u64 32))))⟩,
    ⟨(some 9), none, (.mv (.t 21))⟩]) (.seq 
  (.reg false [] [⟨(some 22), none, (.mv (.t 6))⟩,
    ⟨(some 23), none, (.mv (.t 8))⟩,
    ⟨(some 24), none, (.bin .mul (.t 22) (.t 23))⟩,
    ⟨(some 10), none, (.mv (.t 24))⟩]) (.seq 
  (.reg false [] [⟨(some 25), none, (.mv (.t 7))⟩,
    ⟨(some 26), none, (.mv (.t 8))⟩,
    ⟨(some 27), none, (.bin .mul (.t 25) (.t 26))⟩,
    ⟨(some 28), none, (.mv (.t 10))⟩,
    ⟨(some 29), none, (.bin .shr (.t 28) (.k (.lit (.int .u64 32))))⟩,
    ⟨(some 30), none, (.bin .add (.t 27) (.t 29))⟩,
    ⟨(some 11), none, (.mv (.t 30))⟩]) (.seq 
  (.reg false [] [⟨(some 31), none, (.mv (.t 11))⟩,
    ⟨(some 32), none, (.bin .and (.t 31) (.k (.lit (.int .u64 4294967295))))⟩,
    ⟨(some 12), none, (.mv (.t 32))⟩]) (.seq 
  (.reg false [] [⟨(some 33), none, (.mv (.t 11))⟩,
    ⟨(some 34), none, (.bin .shr (.t 33) (.k (.lit (.int .u64 32))))⟩,
    ⟨(some 13), none, (.mv (.t 34))⟩]) (.seq 
  (.reg false [] [⟨(some 35), none, (.mv (.t 12))⟩,
    ⟨(some 36), none, (.mv (.t 6))⟩,
    ⟨(some 37), none, (.mv (.t 9))⟩,
    ⟨(some 38), none, (.bin .mul (.t 36) (.t 37))⟩,
    ⟨(some 39), none, (.bin .add (.t 35) (.t 38))⟩,
    ⟨(some 12), none, (.mv (.t 39))⟩]) (.seq 
  (.reg false [] [⟨(some 40), none, (.mv (.t 7))⟩,
    ⟨(some 41), none, (.mv (.t 9))⟩,
    ⟨(some 42), none, (.bin .mul (.t 40) (.t 41))⟩,
    ⟨(some 43), none, (.mv (.t 13))⟩,
    ⟨(some 44), none, (.bin .add (.t 42) (.t 43))⟩,
    ⟨(some 45), none, (.mv (.t 12))⟩,
    ⟨(some 46), none, (.bin .shr (.t 45) (.k (.lit (.int .u64 32))))⟩,
    ⟨(some 47), none, (.bin .add (.t 44) (.t 46))⟩,
    ⟨(some 4), none, (.mv (.t 47))⟩]) (.seq 
  (.reg false [] [⟨(some 48), none, (.mv (.t 0))⟩,
    ⟨(some 49), none, (.mv (.t 1))⟩,
    ⟨(some 50), none, (.bin .mul (.t 48) (.t 49))⟩,
    ⟨(some 5), none, (.mv (.t 50))⟩]) .ret))))))))))))
theorem cf104 : compF Tryz.prog 104 = some ⟨51, ac104, [(.tmp 4), (.tmp 5)]⟩ := by kernel_rfl
def ac171 : AC := (.seq 
  (.reg false [] [⟨(some 6), none, (.mv (.k (.lit (.int .u64 0))))⟩,
    ⟨(some 7), none, (.mv (.k (.lit (.int .u64 0))))⟩]) (.seq (.seq 
  (.reg false [] [⟨(some 19), none, (.mv (.t 2))⟩,
    ⟨(some 20), none, (.bin .eql (.t 19) (.k (.lit (.int .u64 0))))⟩]) (.cond (.t 20) .no .skip)) (.seq (.seq 
  (.reg false [] [⟨(some 22), none, (.mv (.t 2))⟩,
    ⟨(some 23), none, (.mv (.t 0))⟩,
    ⟨(some 24), none, (.bin .leq (.t 22) (.t 23))⟩]) (.cond (.t 24) .no .skip)) (.seq (.seq 
  (.reg false [] [⟨(some 26), none, (.mv (.t 0))⟩,
    ⟨(some 27), none, (.bin .eql (.t 26) (.k (.lit (.int .u64 0))))⟩]) (.cond (.t 27) (.seq 
  (.reg true [[], [], [0, 1], [], [], [3, 4], [2, 0, 1, 2], [5, 6, 0, 1, 2, 3, 4, 5, 6]] [⟨(some 28), none, (.mv (.t 1))⟩,
    ⟨(some 29), none, (.mv (.t 2))⟩,
    ⟨(some 30), none, (.bin .quo (.t 28) (.t 29))⟩,
    ⟨(some 31), none, (.mv (.t 1))⟩,
    ⟨(some 32), none, (.mv (.t 2))⟩,
    ⟨(some 33), none, (.bin .rem (.t 31) (.t 32))⟩,
    ⟨(some 6), none, (.mv (.t 30))⟩,
    ⟨(some 7), none, (.mv (.t 33))⟩]) .ret) .skip)) (.seq 
  (.reg false [] [⟨(some 34), none, (.mv (.t 2))⟩,
    ⟨(some 35), none, (.call 175 [(.t 34)])⟩,
    ⟨(some 36), none, (.cv .u64 (.t 35))⟩,
    ⟨(some 8), none, (.mv (.t 36))⟩]) (.seq 
  (.reg false [] [⟨(some 37), none, (.mv (.t 2))⟩,
    ⟨(some 38), none, (.mv (.t 8))⟩,
    ⟨(some 39), none, (.bin .shl (.t 37) (.t 38))⟩,
    ⟨(some 2), none, (.mv (.t 39))⟩]) (.seq 
  (.reg false [] [⟨(some 40), none, (.mv (.t 2))⟩,
    ⟨(some 41), none, (.bin .shr (.t 40) (.k (.lit (.int .u64 32))))⟩,
    ⟨(some 9), none, (.mv (.t 41))⟩]) (.seq 
  (.reg false [] [⟨(some 42), none, (.mv (.t 2))⟩,
    ⟨(some 43), none, (.bin .and (.t 42) (.k (.lit (.int .u64 4294967295))))⟩,
    ⟨(some 10), none, (.mv (.t 43))⟩]) (.seq 
  (.reg false [] [⟨(some 44), none, (.mv (.t 0))⟩,
    ⟨(some 45), none, (.mv (.t 8))⟩,
    ⟨(some 46), none, (.bin .shl (.t 44) (.t 45))⟩,
    ⟨(some 47), none, (.mv (.t 1))⟩,
    ⟨(some 48), none, (.mv (.t 8))⟩,
    ⟨(some 49), none, (.bin .sub (.k (.lit (.int .u64 64))) (.t 48))⟩,
    ⟨(some 50), none, (.bin .shr (.t 47) (.t 49))⟩,
    ⟨(some 51), none, (.bin .or (.t 46) (.t 50))⟩,
    ⟨(some 11), none, (.mv (.t 51))⟩]) (.seq 
  (.reg false [] [⟨(some 52), none, (.mv (.t 1))⟩,
    ⟨(some 53), none, (.mv (.t 8))⟩,
    ⟨(some 54), none, (.bin .shl (.t 52) (.t 53))⟩,
    ⟨(some 12), none, (.mv (.t 54))⟩]) (.seq 
  (.reg false [] [⟨(some 55), none, (.mv (.t 12))⟩,
    ⟨(some 56), none, (.bin .shr (.t 55) (.k (.lit (.int .u64 32))))⟩,
    ⟨(some 13), none, (.mv (.t 56))⟩]) (.seq 
  (.reg false [] [⟨(some 57), none, (.mv (.t 12))⟩,
    ⟨(some 58), none, (.bin .and (.t 57) (.k (.lit (.int .u64 4294967295))))⟩,
    ⟨(some 14), none, (.mv (.t 58))⟩]) (.seq 
  (.reg false [] [⟨(some 59), none, (.mv (.t 11))⟩,
    ⟨(some 60), none, (.mv (.t 9))⟩,
    ⟨(some 61), none, (.bin .quo (.t 59) (.t 60))⟩,
    ⟨(some 15), none, (.mv (.t 61))⟩]) (.seq 
  (.reg false [] [⟨(some 62), none, (.mv (.t 11))⟩,
    ⟨(some 63), none, (.mv (.t 15))⟩,
    ⟨(some 64), none, (.mv (.t 9))⟩,
    ⟨(some 65), none, (.bin .mul (.t 63) (.t 64))⟩,
    ⟨(some 66), none, (.bin .sub (.t 62) (.t 65))⟩,
    ⟨(some 16), none, (.mv (.t 66))⟩]) (.seq (.block 0 (.loop (.seq (.seq 
  (.reg false [] [⟨(some 67), none, (.mv (.t 15))⟩,
    ⟨(some 68), none, (.bin .geq (.t 67) (.k (.lit (.int .u64 4294967296))))⟩,
    ⟨(some 69), none, (.mv (.t 68))⟩,
    ⟨(some 70), (some (69, false)), (.mv (.t 15))⟩,
    ⟨(some 71), (some (69, false)), (.mv (.t 10))⟩,
    ⟨(some 72), (some (69, false)), (.bin .mul (.t 70) (.t 71))⟩,
    ⟨(some 73), (some (69, false)), (.mv (.t 16))⟩,
    ⟨(some 74), (some (69, false)), (.bin .mul (.k (.lit (.int .u64 4294967296))) (.t 73))⟩,
    ⟨(some 75), (some (69, false)), (.mv (.t 13))⟩,
    ⟨(some 76), (some (69, false)), (.bin .add (.t 74) (.t 75))⟩,
    ⟨(some 77), (some (69, false)), (.bin .gtr (.t 72) (.t 76))⟩,
    ⟨(some 78), none, (.pick (.t 69) (.k (.lit (.bool true))) (.t 77))⟩]) (.cond (.t 78) .skip (.exit 0))) (.block 1 (.seq 
  (.reg false [] [⟨(some 79), none, (.mv (.t 15))⟩,
    ⟨(some 80), none, (.bin .sub (.t 79) (.k (.lit (.int .u64 1))))⟩,
    ⟨(some 15), none, (.mv (.t 80))⟩]) (.seq 
  (.reg false [] [⟨(some 81), none, (.mv (.t 16))⟩,
    ⟨(some 82), none, (.mv (.t 9))⟩,
    ⟨(some 83), none, (.bin .add (.t 81) (.t 82))⟩,
    ⟨(some 16), none, (.mv (.t 83))⟩]) (.seq 
  (.reg false [] [⟨(some 84), none, (.mv (.t 16))⟩,
    ⟨(some 85), none, (.bin .geq (.t 84) (.k (.lit (.int .u64 4294967296))))⟩]) (.cond (.t 85) (.exit 0) .skip)))))))) (.seq 
  (.reg false [] [⟨(some 86), none, (.mv (.t 11))⟩,
    ⟨(some 87), none, (.bin .mul (.t 86) (.k (.lit (.int .u64 4294967296))))⟩,
    ⟨(some 88), none, (.mv (.t 13))⟩,
    ⟨(some 89), none, (.bin .add (.t 87) (.t 88))⟩,
    ⟨(some 90), none, (.mv (.t 15))⟩,
    ⟨(some 91), none, (.mv (.t 2))⟩,
    ⟨(some 92), none, (.bin .mul (.t 90) (.t 91))⟩,
    ⟨(some 93), none, (.bin .sub (.t 89) (.t 92))⟩,
    ⟨(some 17), none, (.mv (.t 93))⟩]) (.seq 
  (.reg false [] [⟨(some 94), none, (.mv (.t 17))⟩,
    ⟨(some 95), none, (.mv (.t 9))⟩,
    ⟨(some 96), none, (.bin .quo (.t 94) (.t 95))⟩,
    ⟨(some 18), none, (.mv (.t 96))⟩]) (.seq 
  (.reg false [] [⟨(some 97), none, (.mv (.t 17))⟩,
    ⟨(some 98), none, (.mv (.t 18))⟩,
    ⟨(some 99), none, (.mv (.t 9))⟩,
    ⟨(some 100), none, (.bin .mul (.t 98) (.t 99))⟩,
    ⟨(some 101), none, (.bin .sub (.t 97) (.t 100))⟩,
    ⟨(some 16), none, (.mv (.t 101))⟩]) (.seq (.block 2 (.loop (.seq (.seq 
  (.reg false [] [⟨(some 102), none, (.mv (.t 18))⟩,
    ⟨(some 103), none, (.bin .geq (.t 102) (.k (.lit (.int .u64 4294967296))))⟩,
    ⟨(some 104), none, (.mv (.t 103))⟩,
    ⟨(some 105), (some (104, false)), (.mv (.t 18))⟩,
    ⟨(some 106), (some (104, false)), (.mv (.t 10))⟩,
    ⟨(some 107), (some (104, false)), (.bin .mul (.t 105) (.t 106))⟩,
    ⟨(some 108), (some (104, false)), (.mv (.t 16))⟩,
    ⟨(some 109), (some (104, false)), (.bin .mul (.k (.lit (.int .u64 4294967296))) (.t 108))⟩,
    ⟨(some 110), (some (104, false)), (.mv (.t 14))⟩,
    ⟨(some 111), (some (104, false)), (.bin .add (.t 109) (.t 110))⟩,
    ⟨(some 112), (some (104, false)), (.bin .gtr (.t 107) (.t 111))⟩,
    ⟨(some 113), none, (.pick (.t 104) (.k (.lit (.bool true))) (.t 112))⟩]) (.cond (.t 113) .skip (.exit 2))) (.block 3 (.seq 
  (.reg false [] [⟨(some 114), none, (.mv (.t 18))⟩,
    ⟨(some 115), none, (.bin .sub (.t 114) (.k (.lit (.int .u64 1))))⟩,
    ⟨(some 18), none, (.mv (.t 115))⟩]) (.seq 
  (.reg false [] [⟨(some 116), none, (.mv (.t 16))⟩,
    ⟨(some 117), none, (.mv (.t 9))⟩,
    ⟨(some 118), none, (.bin .add (.t 116) (.t 117))⟩,
    ⟨(some 16), none, (.mv (.t 118))⟩]) (.seq 
  (.reg false [] [⟨(some 119), none, (.mv (.t 16))⟩,
    ⟨(some 120), none, (.bin .geq (.t 119) (.k (.lit (.int .u64 4294967296))))⟩]) (.cond (.t 120) (.exit 2) .skip)))))))) (.seq 
  (.reg false [] [⟨(some 121), none, (.mv (.t 15))⟩,
    ⟨(some 122), none, (.bin .mul (.t 121) (.k (.lit (.int .u64 4294967296))))⟩,
    ⟨(some 123), none, (.mv (.t 18))⟩,
    ⟨(some 124), none, (.bin .add (.t 122) (.t 123))⟩,
    ⟨(some 125), none, (.mv (.t 17))⟩,
    ⟨(some 126), none, (.bin .mul (.t 125) (.k (.lit (.int .u64 4294967296))))⟩,
    ⟨(some 127), none, (.mv (.t 14))⟩,
    ⟨(some 128), none, (.bin .add (.t 126) (.t 127))⟩,
    ⟨(some 129), none, (.mv (.t 18))⟩,
    ⟨(some 130), none, (.mv (.t 2))⟩,
    ⟨(some 131), none, (.bin .mul (.t 129) (.t 130))⟩,
    ⟨(some 132), none, (.bin .sub (.t 128) (.t 131))⟩,
    ⟨(some 133), none, (.mv (.t 8))⟩,
    ⟨(some 134), none, (.bin .shr (.t 132) (.t 133))⟩,
    ⟨(some 6), none, (.mv (.t 124))⟩,
    ⟨(some 7), none, (.mv (.t 134))⟩]) .ret))))))))))))))))))))
theorem cf171 : compF Tryz.prog 171 = some ⟨135, ac171, [(.tmp 6), (.tmp 7)]⟩ := by kernel_rfl
end Iso

/- Numbers as rows of digits to the base 2^64. Nothing of a program. -/
namespace Iso
open Go
def B64 : Nat := 18446744073709551616
def val : List Nat → Nat
  | [] => 0
  | d :: r => d + B64 * val r
def Dig (ds : List Nat) : Prop := ∀ d ∈ ds, d < B64
theorem val_append (a b : List Nat) : val (a ++ b) = val a + B64 ^ a.length * val b := by
  induction a with
  | nil => simp [val]
  | cons d r ih =>
    simp only [List.cons_append, val, ih, List.length_cons, Nat.pow_succ]
    rw [Nat.mul_add, Nat.mul_comm (B64 ^ r.length) B64, Nat.mul_assoc]; omega
theorem Dig.append {a b : List Nat} (h : Dig a) (k : Dig b) : Dig (a ++ b) := fun d hd => (List.mem_append.1 hd).elim (h d) (k d)
theorem Dig.left {a b : List Nat} (h : Dig (a ++ b)) : Dig a := fun d hd => h d (List.mem_append_left _ hd)
theorem Dig.right {a b : List Nat} (h : Dig (a ++ b)) : Dig b := fun d hd => h d (List.mem_append_right _ hd)
theorem Dig.take {a : List Nat} (h : Dig a) (n : Nat) : Dig (a.take n) := fun d hd => h d (List.mem_of_mem_take hd)
theorem Dig.drop {a : List Nat} (h : Dig a) (n : Nat) : Dig (a.drop n) := fun d hd => h d (List.mem_of_mem_drop hd)
theorem Dig.nil : Dig [] := fun _ h => by cases h
theorem Dig.cons {d : Nat} {r : List Nat} (h : d < B64) (k : Dig r) : Dig (d :: r) := fun e he => by
  rcases List.mem_cons.1 he with rfl | he
  · exact h
  · exact k e he
theorem val_lt {ds : List Nat} (h : Dig ds) : val ds < B64 ^ ds.length := by
  induction ds with
  | nil => simp [val]
  | cons d r ih =>
    have h1 := h d (List.mem_cons_self ..)
    have h2 := ih fun e he => h e (List.mem_cons_of_mem _ he)
    simp only [val, List.length_cons, Nat.pow_succ]
    have h3 : B64 * (val r + 1) ≤ B64 * B64 ^ r.length := Nat.mul_le_mul_left _ h2
    rw [Nat.mul_comm (B64 ^ r.length)]
    rw [Nat.mul_add] at h3
    omega
/-- Without the noughts at the end. -/
def trim : List Nat → List Nat
  | [] => []
  | d :: r => match trim r with
    | [] => if d = 0 then [] else [d]
    | l => d :: l
theorem trim_zero (ds : List Nat) : trim (ds ++ [0]) = trim ds := by
  induction ds with
  | nil => rfl
  | cons d r ih => simp only [List.cons_append, trim, ih]
theorem trim_last (ds : List Nat) {d : Nat} (h : d ≠ 0) : trim (ds ++ [d]) = ds ++ [d] := by
  induction ds with
  | nil => simp [trim, h]
  | cons e r ih =>
    simp only [List.cons_append, trim, ih]
    cases r <;> rfl
theorem trim_cases (ds : List Nat) : trim ds = [] ∨ ∃ fs d, trim ds = fs ++ [d] ∧ d ≠ 0 := by
  induction ds with
  | nil => exact .inl rfl
  | cons e r ih =>
    simp only [trim]
    rcases ih with h | ⟨fs, d, h, hd⟩
    · rw [h]
      by_cases he : e = 0
      · simp [he]
      · exact .inr ⟨[], e, by simp [he], he⟩
    · rw [h]
      refine .inr ⟨e :: fs, d, ?_, hd⟩
      cases fs <;> rfl
theorem trim_trim (ds : List Nat) : trim (trim ds) = trim ds := by
  rcases trim_cases ds with h | ⟨fs, d, h, hd⟩
  · rw [h]; rfl
  · rw [h, trim_last _ hd]
theorem val_trim (ds : List Nat) : val (trim ds) = val ds := by
  induction ds with
  | nil => rfl
  | cons d r ih =>
    simp only [trim, val]
    cases h : trim r with
    | nil =>
      rw [h] at ih
      simp only [val] at ih
      by_cases hd : d = 0
      · simp [hd, val, ← ih]
      · simp [hd, val, ← ih]
    | cons e l => rw [h] at ih; simp only [val] at ih ⊢; rw [← ih]
theorem Dig.trim {ds : List Nat} (h : Dig ds) : Dig (trim ds) := by
  induction ds with
  | nil => exact h
  | cons d r ih =>
    have h1 := h d (List.mem_cons_self ..)
    have h2 := ih fun e he => h e (List.mem_cons_of_mem _ he)
    simp only [Iso.trim]
    cases ht : Iso.trim r with
    | nil =>
      by_cases hd : d = 0
      · simp [hd, Dig]
      · simp only [hd, if_false]; exact Dig.cons h1 Dig.nil
    | cons e l => rw [ht] at h2; exact Dig.cons h1 h2
theorem trim_length (ds : List Nat) : (trim ds).length ≤ ds.length := by
  induction ds with
  | nil => simp [trim]
  | cons d r ih =>
    simp only [trim]
    cases h : trim r with
    | nil => by_cases hd : d = 0 <;> simp [hd]
    | cons e l => rw [h] at ih; simpa using ih
/-- Trimmed: as great as its length says. -/
theorem pow_le_val {ds : List Nat} (h : trim ds = ds) (hne : ds ≠ []) : B64 ^ (ds.length - 1) ≤ val ds := by
  rcases trim_cases ds with h1 | ⟨fs, d, h1, hd⟩
  · rw [h] at h1; exact absurd h1 hne
  · rw [h] at h1
    rw [h1, val_append]
    simp only [val, List.length_append, List.length_cons, List.length_nil, Nat.zero_add, Nat.add_sub_cancel, Nat.mul_zero, Nat.add_zero]
    have : B64 ^ fs.length * 1 ≤ B64 ^ fs.length * d := Nat.mul_le_mul_left _ (Nat.pos_of_ne_zero hd)
    omega
theorem val_eq_zero {ds : List Nat} (h : trim ds = ds) : val ds = 0 ↔ ds = [] := by
  constructor
  · intro h0
    rcases trim_cases ds with h1 | ⟨fs, d, h1, hd⟩
    · rw [h] at h1; exact h1
    · have hne : ds ≠ [] := by rw [h] at h1; rw [h1]; simp
      have := pow_le_val h hne
      have h2 : 0 < B64 ^ (ds.length - 1) := Nat.pow_pos (by decide)
      omega
  · rintro rfl; rfl
def cmpI (a b : Nat) : Int := if a < b then -1 else if b < a then 1 else 0
theorem lt_of_len {a b : List Nat} (ha : Dig a) (hb : trim b = b) (h : a.length < b.length) : val a < val b := by
  have h1 := val_lt ha
  have h2 := pow_le_val hb (by intro h0; rw [h0] at h; simp at h)
  have h3 : B64 ^ a.length ≤ B64 ^ (b.length - 1) := Nat.pow_le_pow_right (by decide) (by omega)
  omega
theorem split_at {a : List Nat} {i : Nat} (h : i < a.length) : a = a.take i ++ a[i] :: a.drop (i + 1) := by
  rw [List.getElem_cons_drop, List.take_append_drop]
/-- The digits above being alike, the first that differ decide. -/
theorem lt_of_digit {a b : List Nat} {i : Nat} (ha : Dig a) (h1 : i < a.length) (h2 : i < b.length) (h : a.drop (i + 1) = b.drop (i + 1)) (hlt : a[i] < b[i]) : val a < val b := by
  rw [split_at h1, split_at h2, val_append, val_append, h]
  have l1 : (a.take i).length = i := by simp; omega
  have l2 : (b.take i).length = i := by simp; omega
  have h3 := val_lt (ha.take i)
  rw [l1] at h3
  simp only [val, l1, l2]
  have h4 : B64 ^ i * (a[i] + B64 * val (b.drop (i + 1)) + 1) ≤ B64 ^ i * (b[i] + B64 * val (b.drop (i + 1))) := Nat.mul_le_mul_left _ (by omega)
  rw [Nat.mul_add, Nat.mul_one] at h4
  omega
/-! ### As values of the layer -/
def digV (ds : List Nat) : List V := ds.map fun (d : Nat) => V.lit (.int .u64 (d : Int))
def IsSl (ds : List Nat) (v : V) : Prop := v = .vs (digV ds) ds.length ∨ (ds = [] ∧ ∃ a, v = .lit (.slice a 0 0))
theorem digV_length (ds : List Nat) : (digV ds).length = ds.length := by simp [digV]
theorem IsSl.vs {ds : List Nat} {v : V} (h : IsSl ds v) (hne : ds ≠ []) : v = .vs (digV ds) ds.length := h.resolve_right fun h => hne h.1
section
variable {A : Env} {L : Loc} {H : AH} {d : Option Nat} {ev : Opd → T} {Lg : Nat → Option (List V)}
theorem len_sl {x : Opd} {ds : List Nat} {v : V} (hx : ev x = .v v) (h : IsSl ds v) : ∀ H, aopE [] d (.len x) ev Lg H = some ⟨True, .v (.lit (.int .i64 ds.length)), {}⟩ := fun H => by
  rcases h with rfl | ⟨rfl, a, rfl⟩ <;> simp only [aopE, hx] <;> rfl
theorem ld_vp {x : Opd} {cs : List V} {u : V} {sz : Nat} (hx : ev x = .v (.vp cs)) (h : cs.head? = some u) : ∀ H, aopE [] d (.ld false sz x) ev Lg H = some ⟨True, .v u, {}⟩ := fun H => by
  simp only [aopE, hx, rd, Bool.false_eq_true, if_false, h]; rfl
theorem iad_dig {x i : Opd} {ds : List Nat} {n j : Nat} {k : IntKind} (e : Nat) (r : List Nat) (hx : ev x = .v (.vs (digV ds) n)) (hi : ev i = .v (.lit (.int k (j : Int)))) (h : ds.drop j = e :: r) :
    ∀ H, aopE [] d (.iad 1 x i) ev Lg H = some ⟨0 ≤ (j : Int) ∧ (j : Int) < n, .v (.vp (digV (e :: r))), {}⟩ := fun H => by
  simp only [aopE, hx, hi]
  rw [show List.drop ((j : Int).toNat * 1) (digV ds) = digV (ds.drop j) by simp [digV], h]
theorem sls_to {x i : Opd} {ds : List Nat} {j : Nat} {k : IntKind} (hx : ev x = .v (.vs (digV ds) ds.length)) (hi : ev i = .v (.lit (.int k (j : Int)))) :
    ∀ H, aopE [] d (.sls 1 x none (some i)) ev Lg H = some ⟨(0 ≤ (j : Int) ∧ (j : Int) ≤ ds.length) ∧ True, .v (.vs (digV (ds.take j)) j), {}⟩ := fun H => by
  simp only [aopE, hx, slLen, bdE, hi, slV, digV_length]
  simp [digV]
end
end Iso

/- Magnitudes: slices of digits; dropping the noughts on the right. -/
namespace Iso
open Go Go.Proofs
/-- 'mag.right': without the noughts at its end. -/
theorem fn_right (ds : List Nat) (v : V) (hv : IsSl ds v) (hl : ds.length < 2 ^ 41) (H : AH) : ∃ v', IsSl (trim ds) v' ∧ FN Tryz.prog 106 [v] H v' H := by
  suffices h : ∃ v' H', FN Tryz.prog 106 [v] H v' H' ∧ (IsSl (trim ds) v' ∧ H' = H) by
    obtain ⟨v', H', h1, h2, rfl⟩ := h; exact ⟨v', h2, h1⟩
  refine fn_of cf106 (by simp) ?_
  show AWp _ _ _ ac106 _ _
  unfold ac106
  refine awp_seq_sw ?_
  repeat first | refine swV (fun _ => rfl) ?_ | refine sw_l (fun _ => rfl) trivial ?_ | refine sw_ln (fun _ => rfl) ⟨rfl, leB rfl⟩ ?_ | refine sw_vg rfl (fun _ => rfl) trivial ?_ | refine sw_sk rfl rfl ?_
  refine SW.nil ?_
  refine awp_seq (awp_block ?_)
  refine awp_le (t := ⟨[(0, .v v)], [], H⟩) (le_sub (sub_cons rfl (sub_nil _))) ?_
  refine awp_loop (γ := { p : List Nat × V // IsSl p.1 p.2 ∧ trim p.1 = trim ds ∧ p.1.length < 2 ^ 41 }) (fun g => ⟨[(0, .v g.1.2)], [], H⟩) (fun g => g.1.1.length) ⟨(ds, v), hv, rfl, hl⟩ (Le.refl _) ?_
  rintro ⟨⟨es, u⟩, hu, ht, hlen⟩
  dsimp only at hu ht hlen ⊢
  refine awp_seq_seq_sw ?_
  refine swV (fun _ => rfl) ?_
  refine sw_v (len_sl rfl hu) trivial ?_
  repeat first | refine swV (fun _ => rfl) ?_ | refine sw_l (fun _ => rfl) trivial ?_ | refine sw_ln (fun _ => rfl) ⟨rfl, leB rfl⟩ ?_ | refine sw_vg rfl (fun _ => rfl) trivial ?_ | refine sw_sk rfl rfl ?_
  rcases List.eq_nil_or_concat es with rfl | ⟨fs, e, rfl⟩
  · repeat first | refine swV (fun _ => rfl) ?_ | refine sw_l (fun _ => rfl) trivial ?_ | refine sw_ln (fun _ => rfl) ⟨rfl, leB rfl⟩ ?_ | refine sw_vg rfl (fun _ => rfl) trivial ?_ | refine sw_sk rfl rfl ?_
    refine SW.nil ?_
    refine awp_cond rfl (fun h => by cases h) fun _ => ?_
    refine awp_exit ?_
    show AWp _ _ _ _ _ _
    refine awp_seq_sw ?_
    repeat first | refine swV (fun _ => rfl) ?_ | refine sw_l (fun _ => rfl) trivial ?_ | refine sw_ln (fun _ => rfl) ⟨rfl, leB rfl⟩ ?_ | refine sw_vg rfl (fun _ => rfl) trivial ?_ | refine sw_sk rfl rfl ?_
    refine SW.nil ?_
    refine awp_ret ?_
    exact ⟨.inr rfl, _, rfl, by rw [← ht]; exact hu, rfl⟩
  · rw [List.concat_eq_append] at *
    obtain rfl := hu.vs (by simp)
    have hlen' : fs.length + 1 < 2 ^ 41 := by simpa using hlen
    rw [show decide (((fs ++ [e]).length : Int) > 0) = true from by simp <;> omega]
    repeat first | refine swV (fun _ => rfl) ?_ | refine sw_l (fun _ => rfl) trivial ?_ | refine sw_ln (fun _ => rfl) ⟨rfl, leB rfl⟩ ?_ | refine sw_vg rfl (fun _ => rfl) trivial ?_ | refine sw_sk rfl rfl ?_
    rw [show IntKind.i64.wrap (((fs ++ [e]).length : Int) - 1) = (fs.length : Int) from by rw [wrap_i64] <;> simp <;> omega]
    refine sw_vg rfl (iad_dig e [] rfl rfl (by simp)) ⟨by omega, by simp <;> omega⟩ ?_
    repeat first | refine swV (fun _ => rfl) ?_ | refine sw_l (fun _ => rfl) trivial ?_ | refine sw_ln (fun _ => rfl) ⟨rfl, leB rfl⟩ ?_ | refine sw_vg rfl (fun _ => rfl) trivial ?_ | refine sw_sk rfl rfl ?_
    refine SW.nil ?_
    refine awp_cond rfl (fun h => ?_) fun h => ?_
    · have he : e = 0 := by simpa using h
      refine awp_skip ?_
      refine awp_block (awp_sw ?_)
      repeat first | refine swV (fun _ => rfl) ?_ | refine sw_l (fun _ => rfl) trivial ?_ | refine sw_ln (fun _ => rfl) ⟨rfl, leB rfl⟩ ?_ | refine sw_vg rfl (fun _ => rfl) trivial ?_ | refine sw_sk rfl rfl ?_
      rw [show IntKind.i64.wrap (((fs ++ [e]).length : Int) - 1) = (fs.length : Int) from by rw [wrap_i64] <;> simp <;> omega]
      refine sw_v (sls_to rfl rfl) ⟨⟨by omega, by simp <;> omega⟩, trivial⟩ ?_
      repeat first | refine swV (fun _ => rfl) ?_ | refine sw_l (fun _ => rfl) trivial ?_ | refine sw_ln (fun _ => rfl) ⟨rfl, leB rfl⟩ ?_ | refine sw_vg rfl (fun _ => rfl) trivial ?_ | refine sw_sk rfl rfl ?_
      refine SW.nil ?_
      refine ⟨⟨(fs, .vs (digV fs) fs.length), .inl rfl, ?_, by simp <;> omega⟩, by simp, le_sub (sub_cons ?_ (sub_nil _))⟩
      · subst he; rw [← ht, trim_zero]
      · simp [Env.get]
    · have he : e ≠ 0 := by simpa using h
      refine awp_exit ?_
      show AWp _ _ _ _ _ _
      refine awp_seq_sw ?_
      repeat first | refine swV (fun _ => rfl) ?_ | refine sw_l (fun _ => rfl) trivial ?_ | refine sw_ln (fun _ => rfl) ⟨rfl, leB rfl⟩ ?_ | refine sw_vg rfl (fun _ => rfl) trivial ?_ | refine sw_sk rfl rfl ?_
      refine SW.nil ?_
      refine awp_ret ?_
      exact ⟨.inr rfl, _, rfl, by rw [← ht, trim_last _ he]; exact .inl rfl, rfl⟩
end Iso

/- Comparing magnitudes. -/
namespace Iso
open Go Go.Proofs
theorem hmix : (Tryz.prog).follows .mixedOrders = true := by kernel_rfl
theorem cmpI_lt {a b : Nat} (h : a < b) : cmpI a b = -1 := by simp [cmpI, h]
theorem cmpI_gt {a b : Nat} (h : b < a) : cmpI a b = 1 := by simp [cmpI, h]; omega
theorem cmpI_eq (a : Nat) : cmpI a a = 0 := by simp [cmpI]
/-- 'mag.Cmp'. -/
theorem fn_cmp (xs ys : List Nat) (u v : V) (hu : IsSl xs u) (hv : IsSl ys v) (dx : Dig xs) (dy : Dig ys) (lx : xs.length < 2 ^ 40) (ly : ys.length < 2 ^ 40) (H : AH) :
    FN Tryz.prog 107 [u, v] H (.lit (.int .i64 (cmpI (val xs) (val ys)))) H := by
  suffices h : ∃ v' H', FN Tryz.prog 107 [u, v] H v' H' ∧ (v' = .lit (.int .i64 (cmpI (val xs) (val ys))) ∧ H' = H) by
    obtain ⟨v', H', h1, rfl, rfl⟩ := h; exact h1
  obtain ⟨u', hu', fu⟩ := fn_right xs u hu (by omega) H
  obtain ⟨v', hv', fv⟩ := fn_right ys v hv (by omega) H
  rw [← val_trim xs, ← val_trim ys]
  have dx := dx.trim
  have dy := dy.trim
  have lx := Nat.lt_of_le_of_lt (trim_length xs) lx
  have ly := Nat.lt_of_le_of_lt (trim_length ys) ly
  have tx := trim_trim xs
  have ty := trim_trim ys
  generalize trim xs = ps at *
  generalize trim ys = qs at *
  refine fn_of cf107 (by simp) ?_
  show AWp _ _ _ ac107 _ _
  unfold ac107
  refine awp_seq_sw ?_
  repeat first | refine swV (fun _ => rfl) ?_ | refine sw_l (fun _ => rfl) trivial ?_ | refine sw_ln (fun _ => rfl) ⟨rfl, leB rfl⟩ ?_ | refine sw_vg rfl (fun _ => rfl) trivial ?_ | refine sw_sk rfl rfl ?_
  refine SW.nil ?_
  refine awp_seq_sw ?_
  repeat first | refine swV (fun _ => rfl) ?_ | refine sw_l (fun _ => rfl) trivial ?_ | refine sw_ln (fun _ => rfl) ⟨rfl, leB rfl⟩ ?_ | refine sw_vg rfl (fun _ => rfl) trivial ?_ | refine sw_sk rfl rfl ?_
  refine sw_call rfl fu ?_
  repeat first | refine swV (fun _ => rfl) ?_ | refine sw_l (fun _ => rfl) trivial ?_ | refine sw_ln (fun _ => rfl) ⟨rfl, leB rfl⟩ ?_ | refine sw_vg rfl (fun _ => rfl) trivial ?_ | refine sw_sk rfl rfl ?_
  refine sw_call rfl fv ?_
  repeat first | refine swV (fun _ => rfl) ?_ | refine sw_l (fun _ => rfl) trivial ?_ | refine sw_ln (fun _ => rfl) ⟨rfl, leB rfl⟩ ?_ | refine sw_vg rfl (fun _ => rfl) trivial ?_ | refine sw_sk rfl rfl ?_
  refine SW.nil ?_
  refine awp_seq_seq_sw ?_
  refine swV (fun _ => rfl) ?_
  refine sw_v (len_sl rfl hu') trivial ?_
  refine swV (fun _ => rfl) ?_
  refine sw_v (len_sl rfl hv') trivial ?_
  repeat first | refine swV (fun _ => rfl) ?_ | refine sw_l (fun _ => rfl) trivial ?_ | refine sw_ln (fun _ => rfl) ⟨rfl, leB rfl⟩ ?_ | refine sw_vg rfl (fun _ => rfl) trivial ?_ | refine sw_sk rfl rfl ?_
  refine SW.nil ?_
  refine awp_cond rfl (fun h => ?_) fun h => ?_
  · have hne : ps.length ≠ qs.length := by simp at h; omega
    refine awp_seq_seq_sw ?_
    refine swV (fun _ => rfl) ?_
    refine sw_v (len_sl rfl hu') trivial ?_
    refine swV (fun _ => rfl) ?_
    refine sw_v (len_sl rfl hv') trivial ?_
    repeat first | refine swV (fun _ => rfl) ?_ | refine sw_l (fun _ => rfl) trivial ?_ | refine sw_ln (fun _ => rfl) ⟨rfl, leB rfl⟩ ?_ | refine sw_vg rfl (fun _ => rfl) trivial ?_ | refine sw_sk rfl rfl ?_
    refine SW.nil ?_
    refine awp_cond rfl (fun h => ?_) fun h => ?_
    · have hlt : ps.length < qs.length := by simpa using h
      refine awp_seq_sw ?_
      repeat first | refine swV (fun _ => rfl) ?_ | refine sw_l (fun _ => rfl) trivial ?_ | refine sw_ln (fun _ => rfl) ⟨rfl, leB rfl⟩ ?_ | refine sw_vg rfl (fun _ => rfl) trivial ?_ | refine sw_sk rfl rfl ?_
      refine SW.nil (awp_ret ?_)
      exact ⟨.inr rfl, _, rfl, by rw [cmpI_lt (lt_of_len dx ty hlt)]; rfl, rfl⟩
    · have hge : ¬ ps.length < qs.length := by simpa using h
      refine awp_skip ?_
      refine awp_seq_sw ?_
      repeat first | refine swV (fun _ => rfl) ?_ | refine sw_l (fun _ => rfl) trivial ?_ | refine sw_ln (fun _ => rfl) ⟨rfl, leB rfl⟩ ?_ | refine sw_vg rfl (fun _ => rfl) trivial ?_ | refine sw_sk rfl rfl ?_
      refine SW.nil (awp_ret ?_)
      exact ⟨.inr rfl, _, rfl, by rw [cmpI_gt (lt_of_len dy tx (by omega))]; rfl, rfl⟩
  · have hl : ps.length = qs.length := by simp at h; omega
    refine awp_skip ?_
    refine awp_seq_seq_sw ?_
    refine swV (fun _ => rfl) ?_
    refine sw_v (len_sl rfl hu') trivial ?_
    repeat first | refine swV (fun _ => rfl) ?_ | refine sw_l (fun _ => rfl) trivial ?_ | refine sw_ln (fun _ => rfl) ⟨rfl, leB rfl⟩ ?_ | refine sw_vg rfl (fun _ => rfl) trivial ?_ | refine sw_sk rfl rfl ?_
    refine SW.nil ?_
    rw [wrap_i64 (x := (ps.length : Int) - 1) (by omega) (by omega)]
    refine awp_block ?_
    refine awp_loop (γ := { i : Nat // i ≤ ps.length ∧ ps.drop i = qs.drop i }) (fun i => ⟨[(5, .v (.lit (.int .i64 ((i.1 : Int) - 1)))), (0, .v u'), (1, .v v')], [], H⟩) (fun i => i.1)
      ⟨ps.length, Nat.le_refl _, by rw [List.drop_length, hl, List.drop_length]⟩ (le_sub (sub_cons rfl (sub_cons rfl (sub_cons rfl (sub_nil _))))) ?_
    rintro ⟨i, hi, hd⟩
    dsimp only
    refine awp_seq_seq_sw ?_
    repeat first | refine swV (fun _ => rfl) ?_ | refine sw_l (fun _ => rfl) trivial ?_ | refine sw_ln (fun _ => rfl) ⟨rfl, leB rfl⟩ ?_ | refine sw_vg rfl (fun _ => rfl) trivial ?_ | refine sw_sk rfl rfl ?_
    refine SW.nil ?_
    refine awp_cond rfl (fun h => ?_) fun h => ?_
    · have hpos : 0 < i := by simp at h; omega
      obtain ⟨j, rfl⟩ : ∃ j, i = j + 1 := ⟨i - 1, by omega⟩
      rw [show (((j + 1 : Nat) : Int) - 1) = (j : Int) by omega]
      refine awp_skip ?_
      have ha : ps.drop j = ps[j] :: ps.drop (j + 1) := (List.getElem_cons_drop (by omega)).symm
      have hb : qs.drop j = qs[j] :: qs.drop (j + 1) := (List.getElem_cons_drop (by omega)).symm
      obtain rfl := hu'.vs (by rintro rfl; simp at hi)
      obtain rfl := hv'.vs (by rintro rfl; simp at hl; simp [hl] at hi)
      refine awp_seq (awp_block ?_)
      refine awp_seq_rw hmix ?_
      repeat first | refine rw_v' (fun _ => rfl) trivial ?_ | refine rw_l' (fun _ => rfl) trivial ?_ | refine rw_ln' (fun _ => rfl) ⟨rfl, leB rfl⟩ ?_ | refine rw_vg' rfl (fun _ => rfl) trivial ?_ | refine rw_sk' rfl rfl ?_
      refine rw_v' (iad_dig _ _ rfl rfl ha) ⟨by omega, by omega⟩ ?_
      repeat first | refine rw_v' (fun _ => rfl) trivial ?_ | refine rw_l' (fun _ => rfl) trivial ?_ | refine rw_ln' (fun _ => rfl) ⟨rfl, leB rfl⟩ ?_ | refine rw_vg' rfl (fun _ => rfl) trivial ?_ | refine rw_sk' rfl rfl ?_
      refine rw_v' (iad_dig _ _ rfl rfl hb) ⟨by omega, by omega⟩ ?_
      repeat first | refine rw_v' (fun _ => rfl) trivial ?_ | refine rw_l' (fun _ => rfl) trivial ?_ | refine rw_ln' (fun _ => rfl) ⟨rfl, leB rfl⟩ ?_ | refine rw_vg' rfl (fun _ => rfl) trivial ?_ | refine rw_sk' rfl rfl ?_
      refine RW.nil ⟨rfl, ?_⟩
      refine awp_cond rfl (fun h => ?_) fun h => ?_
      · have hne : ps[j] ≠ qs[j] := by simp at h; omega
        refine awp_seq_seq_rw hmix ?_
        repeat first | refine rw_v' (fun _ => rfl) trivial ?_ | refine rw_l' (fun _ => rfl) trivial ?_ | refine rw_ln' (fun _ => rfl) ⟨rfl, leB rfl⟩ ?_ | refine rw_vg' rfl (fun _ => rfl) trivial ?_ | refine rw_sk' rfl rfl ?_
        refine rw_v' (iad_dig _ _ rfl rfl ha) ⟨by omega, by omega⟩ ?_
        repeat first | refine rw_v' (fun _ => rfl) trivial ?_ | refine rw_l' (fun _ => rfl) trivial ?_ | refine rw_ln' (fun _ => rfl) ⟨rfl, leB rfl⟩ ?_ | refine rw_vg' rfl (fun _ => rfl) trivial ?_ | refine rw_sk' rfl rfl ?_
        refine rw_v' (iad_dig _ _ rfl rfl hb) ⟨by omega, by omega⟩ ?_
        repeat first | refine rw_v' (fun _ => rfl) trivial ?_ | refine rw_l' (fun _ => rfl) trivial ?_ | refine rw_ln' (fun _ => rfl) ⟨rfl, leB rfl⟩ ?_ | refine rw_vg' rfl (fun _ => rfl) trivial ?_ | refine rw_sk' rfl rfl ?_
        refine RW.nil ⟨rfl, ?_⟩
        refine awp_cond rfl (fun h => ?_) fun h => ?_
        · have hlt : ps[j] < qs[j] := by simpa using h
          refine awp_seq_sw ?_
          repeat first | refine swV (fun _ => rfl) ?_ | refine sw_l (fun _ => rfl) trivial ?_ | refine sw_ln (fun _ => rfl) ⟨rfl, leB rfl⟩ ?_ | refine sw_vg rfl (fun _ => rfl) trivial ?_ | refine sw_sk rfl rfl ?_
          refine SW.nil (awp_ret ?_)
          exact ⟨.inr rfl, _, rfl, by rw [cmpI_lt (lt_of_digit dx (by omega) (by omega) hd hlt)]; rfl, rfl⟩
        · have hge : ¬ ps[j] < qs[j] := by simpa using h
          refine awp_skip ?_
          refine awp_seq_sw ?_
          repeat first | refine swV (fun _ => rfl) ?_ | refine sw_l (fun _ => rfl) trivial ?_ | refine sw_ln (fun _ => rfl) ⟨rfl, leB rfl⟩ ?_ | refine sw_vg rfl (fun _ => rfl) trivial ?_ | refine sw_sk rfl rfl ?_
          refine SW.nil (awp_ret ?_)
          exact ⟨.inr rfl, _, rfl, by rw [cmpI_gt (lt_of_digit dy (by omega) (by omega) hd.symm (by omega))]; rfl, rfl⟩
      · have heq : ps[j] = qs[j] := by simp at h; omega
        refine awp_skip ?_
        show AWp _ _ _ _ _ _
        refine awp_sw ?_
        repeat first | refine swV (fun _ => rfl) ?_ | refine sw_l (fun _ => rfl) trivial ?_ | refine sw_ln (fun _ => rfl) ⟨rfl, leB rfl⟩ ?_ | refine sw_vg rfl (fun _ => rfl) trivial ?_ | refine sw_sk rfl rfl ?_
        refine SW.nil ?_
        refine ⟨⟨j, by omega, by rw [ha, hb, heq, hd]⟩, by simp, le_sub (sub_cons ?_ (sub_cons rfl (sub_cons rfl (sub_nil _))))⟩
        rw [wrap_i64 (by omega) (by omega)]; rfl
    · have h0 : i = 0 := by simp at h; omega
      subst h0
      refine awp_exit ?_
      show AWp _ _ _ _ _ _
      refine awp_seq_sw ?_
      repeat first | refine swV (fun _ => rfl) ?_ | refine sw_l (fun _ => rfl) trivial ?_ | refine sw_ln (fun _ => rfl) ⟨rfl, leB rfl⟩ ?_ | refine sw_vg rfl (fun _ => rfl) trivial ?_ | refine sw_sk rfl rfl ?_
      refine SW.nil (awp_ret ?_)
      exact ⟨.inr rfl, _, rfl, by
        have : ps = qs := by simpa using hd
        rw [this, cmpI_eq]; rfl, rfl⟩
end Iso

/- Rows of digits under construction: a named block that is written. Nothing of a program. -/
namespace Iso
open Go
theorem AH.ext {H K : AH} (h1 : H.next = K.next) (h2 : ∀ i, H.get i = K.get i) : H = K := by
  cases H; cases K; simp only at h1; subst h1; congr; funext i; exact h2 i
theorem AH.push_get (H : AH) (k : Blk) : (H.push k).get H.next = some k := by simp [AH.push]
theorem AH.push_set (H : AH) (k k' : Blk) : (H.push k).set H.next k' = H.push k' :=
  AH.ext rfl fun i => by simp only [AH.set, AH.push]; split <;> rfl
theorem AH.push_lt {H : AH} {k : Blk} {b : Nat} (h : b < H.next) : (H.push k).get b = H.get b := by
  simp only [AH.push]; rw [if_neg (by omega)]
theorem AH.push_ne {H : AH} {k : Blk} {b : Nat} (h : b ≠ H.next) : (H.push k).get b = H.get b := by
  simp only [AH.push]; rw [if_neg h]
def zeros (n : Nat) : List Nat := List.replicate n 0
theorem rep_zeros (n : Nat) : rep [V.lit (.int .u64 0)] n = digV (zeros n) := by
  induction n with
  | zero => rfl
  | succ n ih => simp only [rep, ih, zeros, List.replicate_succ, digV, List.map_cons, List.singleton_append]; rfl
theorem zeros_length (n : Nat) : (zeros n).length = n := by simp [zeros]
theorem zeros_succ (n : Nat) : zeros (n + 1) = 0 :: zeros n := by simp [zeros, List.replicate_succ]
theorem dig_zeros (n : Nat) : Dig (zeros n) := fun d hd => by simp [zeros] at hd; rw [hd.2]; decide
theorem val_zeros (n : Nat) : val (zeros n) = 0 := by
  induction n with
  | zero => rfl
  | succ n ih => simp [zeros_succ, val, ih]
theorem splice_dig (ds : List Nat) (j e : Nat) (h : j < ds.length) : splice (digV ds) j [V.lit (.int .u64 (e : Int))] = digV (ds.set j e) := by
  simp only [splice, digV, List.length_cons, List.length_nil, Nat.zero_add]
  rw [List.set_eq_take_append_cons_drop, if_pos h]
  simp
section
variable {ev : Opd → T} {Lg : Nat → Option (List V)} {H : AH} {G : List Nat} {d : Option Nat} {x a i : Opd} {b n j : Nat}
theorem mks_dig {l c : Opd} {k : Nat} {by_ : Nat} (h1 : ev l = .v (.lit (.int .i64 (k : Int)))) (h2 : ev c = .v (.lit (.int .i64 (k : Int)))) :
    aopE G d (.mks 1 by_ [.lit (.int .u64 0)] l c) ev Lg H = some ⟨0 ≤ (k : Int) ∧ (k : Int) ≤ k ∧ by_ * (k : Int) ≤ 2 ^ 47 ∧ (k : Int) ≤ 2 ^ 47, .v (.hs H.next 0 k 1), { heap := some (H.push (.cells (digV (zeros k)))) }⟩ := by
  simp only [aopE, h1, h2, Int.toNat_natCast, rep_zeros]
theorem iad_hs {k : IntKind} {B : Blk} (hx : ev x = .v (.hs b 0 n 1)) (hi : ev i = .v (.lit (.int k (j : Int)))) (hg : H.get b = some B) :
    aopE G d (.iad 1 x i) ev Lg H = some ⟨0 ≤ (j : Int) ∧ (j : Int) < n ∧ 1 = 1, .v (.ptr b j), {}⟩ := by
  simp only [aopE, hx, hi, hg, Int.toNat_natCast, Nat.mul_one, Nat.zero_add]
theorem st_dig {e : Nat} {ds : List Nat} (ha : ev a = .v (.ptr b j)) (hx : ev x = .v (.lit (.int .u64 (e : Int)))) (hg : H.get b = some (.cells (digV ds))) (hj : j < ds.length) :
    aopE G d (.st 1 a x) ev Lg H = some ⟨1 = 1 ∧ j + 1 ≤ (digV ds).length, .v .any, { heap := some (H.set b (.cells (digV (ds.set j e)))) }⟩ := by
  simp only [aopE, hx, ha, hg, V.cells?, V.one, flat, if_true, List.length_cons, List.length_nil, splice_dig ds j e hj]
theorem ld_dig {ds : List Nat} {e : Nat} (hx : ev x = .v (.ptr b j)) (hg : H.get b = some (.cells (digV ds))) (hj : ds[j]? = some e) :
    aopE G d (.ld false 1 x) ev Lg H = some ⟨True, .v (.lit (.int .u64 (e : Int))), {}⟩ := by
  simp only [aopE, hx, hg, rd, Bool.false_eq_true, if_false, digV, List.head?_drop, List.getElem?_map, hj, Option.map_some, outV]
theorem len_hs {B : Blk} (hx : ev x = .v (.hs b 0 n 1)) (hg : H.get b = some B) : aopE G d (.len x) ev Lg H = some ⟨True, .v (.lit (.int .i64 n)), {}⟩ := by
  simp only [aopE, hx, hg]
theorem adc_nat {y c : Opd} {p q r : Nat} (hx : ev x = .v (.lit (.int .u64 (p : Int)))) (hy : ev y = .v (.lit (.int .u64 (q : Int)))) (hc : ev c = .v (.lit (.int .u64 (r : Int)))) :
    ∀ H, aopE [] d (.adc x y c) ev Lg H = some ⟨0 ≤ (p : Int) ∧ 0 ≤ (q : Int) ∧ 0 ≤ (r : Int) ∧ (r : Int) ≤ 1, .v (.tup [.lit (.int .u64 (((p + q + r) % B64 : Nat) : Int)), .lit (.int .u64 (((p + q + r) / B64 : Nat) : Int))]), {}⟩ := fun H => by
  simp only [aopE, hx, hy, hc, B64]
  rfl
theorem sbb_nat {y c : Opd} {p q r : Nat} (hx : ev x = .v (.lit (.int .u64 (p : Int)))) (hy : ev y = .v (.lit (.int .u64 (q : Int)))) (hc : ev c = .v (.lit (.int .u64 (r : Int)))) (hp : p < B64) (hq : q < B64) (hr : r ≤ 1) :
    ∀ H, aopE [] d (.sbb x y c) ev Lg H = some ⟨0 ≤ (p : Int) ∧ 0 ≤ (q : Int) ∧ 0 ≤ (r : Int) ∧ (r : Int) ≤ 1 ∧ (p : Int) < 18446744073709551616 ∧ (q : Int) < 18446744073709551616,
      .v (.tup [.lit (.int .u64 (((p + B64 - q - r) % B64 : Nat) : Int)), .lit (.int .u64 ((if p < q + r then 1 else 0 : Nat) : Int))]), {}⟩ := fun H => by
  simp only [aopE, hx, hy, hc]
  simp only [B64] at *
  have h1 : ((p : Int) - q - r) % 18446744073709551616 = (((p + 18446744073709551616 - q - r) % 18446744073709551616 : Nat) : Int) := by omega
  have h2 : (if (p : Int) < q + r then (1 : Int) else 0) = ((if p < q + r then 1 else 0 : Nat) : Int) := by
    by_cases h : p < q + r
    · rw [if_pos h, if_pos (by omega)]; rfl
    · rw [if_neg h, if_neg (by omega)]; rfl
  rw [h1, h2]
end
theorem take_succ {a : List Nat} {i : Nat} (h : i < a.length) : a.take (i + 1) = a.take i ++ [a[i]] := by
  rw [List.take_add_one, List.getElem?_eq_getElem h]; rfl
theorem set_mid {r : List Nat} (z : List Nat) (o e : Nat) : (r ++ o :: z).set r.length e = (r ++ [e]) ++ z := by
  rw [List.set_append_right _ _ (Nat.le_refl _)]; simp
theorem set_at {r : List Nat} {i : Nat} (h : r.length = i) (z : List Nat) (o e : Nat) : (r ++ o :: z).set i e = (r ++ [e]) ++ z := by
  subst h; exact set_mid z o e
/-- One digit more, with its carry. -/
theorem val_snoc (r : List Nat) (e : Nat) : val (r ++ [e]) = val r + B64 ^ r.length * e := by rw [val_append]; simp [val]
end Iso

/- Adding magnitudes. -/
namespace Iso
open Go Go.Proofs
theorem digs_under (ds : List Nat) (n : Nat) : Vs.under n (digV ds) := by
  induction ds with
  | nil => trivial
  | cons d r ih => exact ⟨trivial, ih⟩
theorem IsSl.under {ds : List Nat} {v : V} (h : IsSl ds v) (n : Nat) : v.under n := by
  rcases h with rfl | ⟨_, _, rfl⟩
  · exact digs_under ds n
  · trivial
/-- A magnitude: its digits, without noughts at the end. -/
def IsMag (n : Nat) (v : V) : Prop := ∃ ds, IsSl ds v ∧ Dig ds ∧ trim ds = ds ∧ val ds = n
theorem take_getD {b : List Nat} {i : Nat} : val (b.take (i + 1)) = val (b.take i) + B64 ^ i * b.getD i 0 := by
  rcases Nat.lt_or_ge i b.length with h | h
  · rw [take_succ h, val_snoc]
    have : (b.take i).length = i := by simp; omega
    rw [this, List.getD_eq_getElem?_getD, List.getElem?_eq_getElem h]; rfl
  · rw [List.take_of_length_le (by omega), List.take_of_length_le h, List.getD_eq_getElem?_getD, List.getElem?_eq_none h]; simp
theorem adc_step {r : List Nat} {c p q s t i : Nat} (hr : r.length = i) (h : val r + B64 ^ i * c = s + t) :
    val (r ++ [(p + q + c) % B64]) + B64 ^ (i + 1) * ((p + q + c) / B64) = (s + B64 ^ i * p) + (t + B64 ^ i * q) := by
  rw [val_snoc, hr, Nat.pow_succ, Nat.mul_assoc, Nat.add_assoc, ← Nat.mul_add, Nat.mod_add_div]
  have : B64 ^ i * (p + q + c) = B64 ^ i * p + B64 ^ i * q + B64 ^ i * c := by rw [Nat.mul_add, Nat.mul_add]
  omega
/-- 'mag.Add'. -/
theorem fn_add (xs ys : List Nat) (u v : V) (hu : IsSl xs u) (hv : IsSl ys v) (dx : Dig xs) (dy : Dig ys) (lx : xs.length < 2 ^ 40) (ly : ys.length < 2 ^ 40) (H : AH) :
    ∃ w, IsMag (val xs + val ys) w ∧ FN Tryz.prog 101 [u, v] H w H := by
  suffices h : ∃ w H', FN Tryz.prog 101 [u, v] H w H' ∧ (IsMag (val xs + val ys) w ∧ ∀ b, b < H.next → H'.get b = H.get b) by
    obtain ⟨w, H', h1, h2, h3⟩ := h
    obtain ⟨ds, hd, _⟩ := id h2
    exact ⟨w, h2, h1.quiet h3 (hd.under _)⟩
  refine fn_of cf101 (by simp) ?_
  show AWp _ _ _ ac101 _ _
  unfold ac101
  refine awp_seq_sw ?_
  repeat first | refine swV (fun _ => rfl) ?_ | refine sw_l (fun _ => rfl) trivial ?_ | refine sw_ln (fun _ => rfl) ⟨rfl, leB rfl⟩ ?_ | refine sw_vg rfl (fun _ => rfl) trivial ?_ | refine sw_sk rfl rfl ?_
  refine SW.nil ?_
  refine awp_seq_seq_sw ?_
  refine swV (fun _ => rfl) ?_
  refine sw_v (len_sl rfl hu) trivial ?_
  refine swV (fun _ => rfl) ?_
  refine sw_v (len_sl rfl hv) trivial ?_
  repeat first | refine swV (fun _ => rfl) ?_ | refine sw_l (fun _ => rfl) trivial ?_ | refine sw_ln (fun _ => rfl) ⟨rfl, leB rfl⟩ ?_ | refine sw_vg rfl (fun _ => rfl) trivial ?_ | refine sw_sk rfl rfl ?_
  refine SW.nil ?_
  refine awp_join (γ := { p : List Nat × List Nat × V × V // IsSl p.1 p.2.2.1 ∧ IsSl p.2.1 p.2.2.2 ∧ Dig p.1 ∧ Dig p.2.1 ∧ p.2.1.length ≤ p.1.length ∧ p.1.length < 2 ^ 40 ∧ val p.1 + val p.2.1 = val xs + val ys })
    (fun p => ⟨[(0, .v p.1.2.2.1), (1, .v p.1.2.2.2)], [], H⟩) ?_ ?_
  · refine awp_cond rfl (fun h => ?_) fun h => ?_
    · have hlt : xs.length < ys.length := by simpa using h
      refine awp_sw ?_
      repeat first | refine swV (fun _ => rfl) ?_ | refine sw_l (fun _ => rfl) trivial ?_ | refine sw_ln (fun _ => rfl) ⟨rfl, leB rfl⟩ ?_ | refine sw_vg rfl (fun _ => rfl) trivial ?_ | refine sw_sk rfl rfl ?_
      refine SW.nil ?_
      exact ⟨⟨(ys, xs, v, u), hv, hu, dy, dx, by dsimp only; omega, ly, Nat.add_comm _ _⟩, le_sub (sub_cons rfl (sub_cons rfl (sub_nil _)))⟩
    · have hge : ¬ xs.length < ys.length := by simpa using h
      refine awp_skip ?_
      exact ⟨⟨(xs, ys, u, v), hu, hv, dx, dy, by dsimp only; omega, lx, rfl⟩, le_sub (sub_cons rfl (sub_cons rfl (sub_nil _)))⟩
  rintro ⟨⟨ps, qs, u, v⟩, hu, hv, dx, dy, hle, lx, hval⟩
  dsimp only at hu hv dx dy hle lx hval ⊢
  rw [← hval]
  clear hval
  refine awp_seq_sw ?_
  refine swV (fun _ => rfl) ?_
  refine sw_v (len_sl rfl hu) trivial ?_
  refine swV (fun _ => rfl) ?_
  rw [wrap_i64 (x := (ps.length : Int) + 1) (by omega) (by omega), show (ps.length : Int) + 1 = ((ps.length + 1 : Nat) : Int) by omega]
  refine sw_hh [] (mks_dig rfl rfl) ⟨by omega, by omega, by omega, by omega⟩ ?_
  repeat first | refine swV (fun _ => rfl) ?_ | refine sw_l (fun _ => rfl) trivial ?_ | refine sw_ln (fun _ => rfl) ⟨rfl, leB rfl⟩ ?_ | refine sw_vg rfl (fun _ => rfl) trivial ?_ | refine sw_sk rfl rfl ?_
  refine SW.nil ?_
  refine awp_seq_sw ?_
  repeat first | refine swV (fun _ => rfl) ?_ | refine sw_l (fun _ => rfl) trivial ?_ | refine sw_ln (fun _ => rfl) ⟨rfl, leB rfl⟩ ?_ | refine sw_vg rfl (fun _ => rfl) trivial ?_ | refine sw_sk rfl rfl ?_
  refine SW.nil ?_
  refine awp_seq_seq_sw ?_
  refine swV (fun _ => rfl) ?_
  refine sw_v (len_sl rfl hu) trivial ?_
  repeat first | refine swV (fun _ => rfl) ?_ | refine sw_l (fun _ => rfl) trivial ?_ | refine sw_ln (fun _ => rfl) ⟨rfl, leB rfl⟩ ?_ | refine sw_vg rfl (fun _ => rfl) trivial ?_ | refine sw_sk rfl rfl ?_
  refine SW.nil ?_
  refine awp_block ?_
  refine awp_loop (γ := { p : Nat × List Nat × Nat // p.1 ≤ ps.length ∧ p.2.1.length = p.1 ∧ Dig p.2.1 ∧ p.2.2 ≤ 1 ∧ val p.2.1 + B64 ^ p.1 * p.2.2 = val (ps.take p.1) + val (qs.take p.1) })
    (fun p => ⟨[(0, .v u), (1, .v v), (5, .v (.hs H.next 0 (ps.length + 1) 1)), (6, .v (.lit (.int .u64 (p.1.2.2 : Int)))), (21, .v u), (22, .v (.lit (.int .i64 ps.length))), (23, .v (.lit (.int .i64 (p.1.1 : Int))))], [],
      H.push (.cells (digV (p.1.2.1 ++ zeros (ps.length + 1 - p.1.1))))⟩) (fun p => ps.length - p.1.1)
    ⟨(0, [], 0), Nat.zero_le _, rfl, Dig.nil, Nat.zero_le _, by simp [val]⟩ (le_sub (sub_cons rfl (sub_cons rfl (sub_cons rfl (sub_cons rfl (sub_cons rfl (sub_cons rfl (sub_cons rfl (sub_nil _))))))))) ?_
  rintro ⟨⟨i, r, c⟩, hi, hr, dr, hc, hinv⟩
  dsimp only at hi hr dr hc hinv ⊢
  refine awp_seq_sw ?_
  repeat first | refine swV (fun _ => rfl) ?_ | refine sw_l (fun _ => rfl) trivial ?_ | refine sw_ln (fun _ => rfl) ⟨rfl, leB rfl⟩ ?_ | refine sw_vg rfl (fun _ => rfl) trivial ?_ | refine sw_sk rfl rfl ?_
  refine SW.nil ?_
  refine awp_seq (awp_cond rfl (fun h => ?_) fun h => ?_)
  · have hlt : i < ps.length := by simpa using h
    refine awp_skip ?_
    have ha : ps.drop i = ps[i] :: ps.drop (i + 1) := (List.getElem_cons_drop hlt).symm
    obtain rfl := hu.vs (by rintro rfl; simp at hlt)
    refine awp_seq (awp_block ?_)
    refine awp_seq_sw ?_
    repeat first | refine swV (fun _ => rfl) ?_ | refine sw_l (fun _ => rfl) trivial ?_ | refine sw_ln (fun _ => rfl) ⟨rfl, leB rfl⟩ ?_ | refine sw_vg rfl (fun _ => rfl) trivial ?_ | refine sw_sk rfl rfl ?_
    refine sw_v (iad_dig _ _ rfl rfl ha) ⟨by omega, by omega⟩ ?_
    repeat first | refine swV (fun _ => rfl) ?_ | refine sw_l (fun _ => rfl) trivial ?_ | refine sw_ln (fun _ => rfl) ⟨rfl, leB rfl⟩ ?_ | refine sw_vg rfl (fun _ => rfl) trivial ?_ | refine sw_sk rfl rfl ?_
    refine SW.nil ?_
    refine awp_seq_sw ?_
    repeat first | refine swV (fun _ => rfl) ?_ | refine sw_l (fun _ => rfl) trivial ?_ | refine sw_ln (fun _ => rfl) ⟨rfl, leB rfl⟩ ?_ | refine sw_vg rfl (fun _ => rfl) trivial ?_ | refine sw_sk rfl rfl ?_
    refine SW.nil ?_
    refine awp_seq_seq_sw ?_
    refine swV (fun _ => rfl) ?_
    refine swV (fun _ => rfl) ?_
    refine sw_v (len_sl rfl hv) trivial ?_
    repeat first | refine swV (fun _ => rfl) ?_ | refine sw_l (fun _ => rfl) trivial ?_ | refine sw_ln (fun _ => rfl) ⟨rfl, leB rfl⟩ ?_ | refine sw_vg rfl (fun _ => rfl) trivial ?_ | refine sw_sk rfl rfl ?_
    refine SW.nil ?_
    refine awp_join (γ := Unit) (fun _ => ⟨[(0, .v (.vs (digV ps) ps.length)), (1, .v v), (5, .v (.hs H.next 0 (ps.length + 1) 1)), (6, .v (.lit (.int .u64 (c : Int)))), (21, .v (.vs (digV ps) ps.length)), (22, .v (.lit (.int .i64 ps.length))), (23, .v (.lit (.int .i64 (i : Int)))),
        (7, .v (.lit (.int .i64 (i : Int)))), (8, .v (.lit (.int .u64 (ps[i] : Nat)))), (9, .v (.lit (.int .u64 ((qs.getD i 0 : Nat) : Int))))], [],
      H.push (.cells (digV (r ++ zeros (ps.length + 1 - i))))⟩) ?_ ?_
    · refine awp_cond rfl (fun h => ?_) fun h => ?_
      · have hq : i < qs.length := by simpa using h
        have hb : qs.drop i = qs[i] :: qs.drop (i + 1) := (List.getElem_cons_drop hq).symm
        obtain rfl := hv.vs (by rintro rfl; simp at hq)
        refine awp_sw ?_
        repeat first | refine swV (fun _ => rfl) ?_ | refine sw_l (fun _ => rfl) trivial ?_ | refine sw_ln (fun _ => rfl) ⟨rfl, leB rfl⟩ ?_ | refine sw_vg rfl (fun _ => rfl) trivial ?_ | refine sw_sk rfl rfl ?_
        refine sw_v (iad_dig _ _ rfl rfl hb) ⟨by omega, by omega⟩ ?_
        repeat first | refine swV (fun _ => rfl) ?_ | refine sw_l (fun _ => rfl) trivial ?_ | refine sw_ln (fun _ => rfl) ⟨rfl, leB rfl⟩ ?_ | refine sw_vg rfl (fun _ => rfl) trivial ?_ | refine sw_sk rfl rfl ?_
        refine SW.nil ⟨(), ?_⟩
        rw [show qs.getD i 0 = qs[i] by simp [List.getD_eq_getElem?_getD, hq]]
        exact le_sub (sub_cons rfl (sub_cons rfl (sub_cons rfl (sub_cons rfl (sub_cons rfl (sub_cons rfl (sub_cons rfl (sub_cons rfl (sub_cons rfl (sub_cons rfl (sub_nil _)))))))))))
      · have hq : ¬ i < qs.length := by simpa using h
        refine awp_skip ⟨(), ?_⟩
        rw [show qs.getD i 0 = 0 by simp [List.getD_eq_getElem?_getD, List.getElem?_eq_none (Nat.le_of_not_lt hq)]]
        exact le_sub (sub_cons rfl (sub_cons rfl (sub_cons rfl (sub_cons rfl (sub_cons rfl (sub_cons rfl (sub_cons rfl (sub_cons rfl (sub_cons rfl (sub_cons rfl (sub_nil _)))))))))))
    intro _
    refine awp_sw ?_
    repeat first | refine swV (fun _ => rfl) ?_ | refine sw_l (fun _ => rfl) trivial ?_ | refine sw_ln (fun _ => rfl) ⟨rfl, leB rfl⟩ ?_ | refine sw_vg rfl (fun _ => rfl) trivial ?_ | refine sw_sk rfl rfl ?_
    refine sw_v (adc_nat rfl rfl rfl) ⟨by omega, by omega, by omega, by omega⟩ ?_
    repeat first | refine swV (fun _ => rfl) ?_ | refine sw_l (fun _ => rfl) trivial ?_ | refine sw_ln (fun _ => rfl) ⟨rfl, leB rfl⟩ ?_ | refine sw_vg rfl (fun _ => rfl) trivial ?_ | refine sw_sk rfl rfl ?_
    refine sw_hv [] (iad_hs rfl rfl (AH.push_get _ _)) ⟨by omega, by omega, rfl⟩ ?_
    refine sw_hhn [] (st_dig rfl rfl (AH.push_get _ _) (by simp [zeros_length, hr]; omega)) ⟨rfl, by simp [digV_length, zeros_length, hr]; omega⟩ ?_
    repeat first | refine swV (fun _ => rfl) ?_ | refine sw_l (fun _ => rfl) trivial ?_ | refine sw_ln (fun _ => rfl) ⟨rfl, leB rfl⟩ ?_ | refine sw_vg rfl (fun _ => rfl) trivial ?_ | refine sw_sk rfl rfl ?_
    refine SW.nil ?_
    show AWp _ _ _ _ _ _
    refine awp_sw ?_
    repeat first | refine swV (fun _ => rfl) ?_ | refine sw_l (fun _ => rfl) trivial ?_ | refine sw_ln (fun _ => rfl) ⟨rfl, leB rfl⟩ ?_ | refine sw_vg rfl (fun _ => rfl) trivial ?_ | refine sw_sk rfl rfl ?_
    refine SW.nil ?_
    have hz : zeros (ps.length + 1 - i) = 0 :: zeros (ps.length + 1 - (i + 1)) := by
      rw [show ps.length + 1 - i = (ps.length + 1 - (i + 1)) + 1 by omega, zeros_succ]
    rw [AH.push_set, hz, show (r ++ 0 :: zeros (ps.length + 1 - (i + 1))).set i ((ps[i] + qs.getD i 0 + c) % B64) = (r ++ [(ps[i] + qs.getD i 0 + c) % B64]) ++ zeros (ps.length + 1 - (i + 1)) from set_at hr _ _ _]
    have hp := dx ps[i] (List.getElem_mem hlt)
    have hq : qs.getD i 0 < B64 := by
      rw [List.getD_eq_getElem?_getD]
      rcases Nat.lt_or_ge i qs.length with h | h
      · rw [List.getElem?_eq_getElem h]; exact dy _ (List.getElem_mem h)
      · rw [List.getElem?_eq_none h]; decide
    refine ⟨⟨(i + 1, r ++ [(ps[i] + qs.getD i 0 + c) % B64], (ps[i] + qs.getD i 0 + c) / B64), by dsimp only; omega, by simp [hr], dr.append (Dig.cons (Nat.mod_lt _ (by decide)) Dig.nil), ?_, ?_⟩, by dsimp only; omega, ?_⟩
    · dsimp only
      have : ps[i] + qs.getD i 0 + c < 2 * B64 := by omega
      exact Nat.le_of_lt_succ (Nat.div_lt_of_lt_mul (by omega))
    · dsimp only
      rw [take_getD, take_getD, show ps.getD i 0 = ps[i] by simp [List.getD_eq_getElem?_getD, hlt]]
      exact adc_step hr hinv
    · refine le_sub (sub_cons rfl (sub_cons rfl (sub_cons rfl (sub_cons rfl (sub_cons rfl (sub_cons rfl (sub_cons ?_ (sub_nil _)))))))) 
      show T.v (.lit (.int .i64 (IntKind.i64.wrap ((i : Int) + 1)))) = _
      rw [wrap_i64 (by omega) (by omega)]; rfl
  · have hin : i = ps.length := by simp at h; omega
    subst hin
    refine awp_exit ?_
    show AWp _ _ _ _ _ _
    refine awp_seq_sw ?_
    refine swV (fun _ => rfl) ?_
    refine swV (fun _ => rfl) ?_
    refine sw_v (len_sl rfl hu) trivial ?_
    repeat first | refine swV (fun _ => rfl) ?_ | refine sw_l (fun _ => rfl) trivial ?_ | refine sw_ln (fun _ => rfl) ⟨rfl, leB rfl⟩ ?_ | refine sw_vg rfl (fun _ => rfl) trivial ?_ | refine sw_sk rfl rfl ?_
    refine sw_hv [] (iad_hs rfl rfl (AH.push_get _ _)) ⟨by omega, by omega, rfl⟩ ?_
    refine sw_hhn [] (st_dig rfl rfl (AH.push_get _ _) (by simp [zeros_length, hr])) ⟨rfl, by simp [digV_length, zeros_length, hr]⟩ ?_
    refine SW.nil ?_
    rw [AH.push_set, show zeros (ps.length + 1 - ps.length) = [0] by rw [show ps.length + 1 - ps.length = 0 + 1 by omega]; rfl, show (r ++ [0] : List Nat).set ps.length c = r ++ [c] from (set_at hr [] 0 c).trans (List.append_nil _)]
    refine awp_le (le_sub (sub_cons (t := 5) rfl (sub_nil _))) ?_
    refine awp_le (le_frz1 (AH.push_get _ _) (by simp [digV_length, hr])) ?_
    obtain ⟨w, hw, fw⟩ := fn_right (r ++ [c]) (.vs (digV (r ++ [c])) (ps.length + 1)) (.inl (by simp [hr])) (by simp [hr]; omega) ((H.push (.cells (digV (r ++ [c])))).del H.next)
    refine awp_seq_sw ?_
    repeat first | refine swV (fun _ => rfl) ?_ | refine sw_l (fun _ => rfl) trivial ?_ | refine sw_ln (fun _ => rfl) ⟨rfl, leB rfl⟩ ?_ | refine sw_vg rfl (fun _ => rfl) trivial ?_ | refine sw_sk rfl rfl ?_
    refine sw_call rfl fw ?_
    repeat first | refine swV (fun _ => rfl) ?_ | refine sw_l (fun _ => rfl) trivial ?_ | refine sw_ln (fun _ => rfl) ⟨rfl, leB rfl⟩ ?_ | refine sw_vg rfl (fun _ => rfl) trivial ?_ | refine sw_sk rfl rfl ?_
    refine SW.nil (awp_ret ?_)
    refine ⟨.inr rfl, _, rfl, ⟨trim (r ++ [c]), hw, (dr.append (Dig.cons (by simp only [B64]; omega) Dig.nil)).trim, trim_trim _, ?_⟩, ?_⟩
    · rw [val_trim, val_snoc, hr]
      simp only [List.take_length] at hinv
      rw [hinv, List.take_of_length_le hle]
    · intro b hb
      dsimp only
      rw [AH.get_del, if_neg (by omega), AH.push_lt hb]
end Iso

/- Subtracting magnitudes. -/
namespace Iso
open Go Go.Proofs
theorem sbb_eq {p q c : Nat} (hp : p < B64) (hq : q < B64) (hc : c ≤ 1) : (p + B64 - q - c) % B64 + (q + c) = p + B64 * (if p < q + c then 1 else 0) := by
  simp only [B64] at *
  split <;> omega
theorem sbb_step {r : List Nat} {c p q s t i : Nat} (hp : p < B64) (hq : q < B64) (hc : c ≤ 1) (hr : r.length = i) (h : val r + t = s + B64 ^ i * c) :
    val (r ++ [(p + B64 - q - c) % B64]) + (t + B64 ^ i * q) = (s + B64 ^ i * p) + B64 ^ (i + 1) * (if p < q + c then 1 else 0) := by
  rw [val_snoc, hr, Nat.pow_succ, Nat.mul_assoc]
  have h1 : B64 ^ i * ((p + B64 - q - c) % B64) + (B64 ^ i * q + B64 ^ i * c) = B64 ^ i * p + B64 ^ i * (B64 * (if p < q + c then 1 else 0)) := by
    rw [← Nat.mul_add, ← Nat.mul_add, ← Nat.mul_add, sbb_eq hp hq hc]
  omega
/-- 'mag.Sub': nought where there is not enough. -/
theorem fn_sub (xs ys : List Nat) (u v : V) (hu : IsSl xs u) (hv : IsSl ys v) (dx : Dig xs) (dy : Dig ys) (lx : xs.length < 2 ^ 40) (ly : ys.length < 2 ^ 40) (H : AH) :
    ∃ w, IsMag (val xs - val ys) w ∧ FN Tryz.prog 108 [u, v] H w H := by
  suffices h : ∃ w H', FN Tryz.prog 108 [u, v] H w H' ∧ (IsMag (val xs - val ys) w ∧ ∀ b, b < H.next → H'.get b = H.get b) by
    obtain ⟨w, H', h1, h2, h3⟩ := h
    obtain ⟨ds, hd, _⟩ := id h2
    exact ⟨w, h2, h1.quiet h3 (hd.under _)⟩
  obtain ⟨u', hu', fu⟩ := fn_right xs u hu (by omega) H
  obtain ⟨v', hv', fv⟩ := fn_right ys v hv (by omega) H
  rw [← val_trim xs, ← val_trim ys]
  have dx := dx.trim
  have dy := dy.trim
  have lx := Nat.lt_of_le_of_lt (trim_length xs) lx
  have ly := Nat.lt_of_le_of_lt (trim_length ys) ly
  have tx := trim_trim xs
  have ty := trim_trim ys
  generalize trim xs = ps at *
  generalize trim ys = qs at *
  have fc := fn_cmp ps qs u' v' hu' hv' dx dy lx ly H
  refine fn_of cf108 (by simp) ?_
  show AWp _ _ _ ac108 _ _
  unfold ac108
  refine awp_seq_sw ?_
  repeat first | refine swV (fun _ => rfl) ?_ | refine sw_l (fun _ => rfl) trivial ?_ | refine sw_ln (fun _ => rfl) ⟨rfl, leB rfl⟩ ?_ | refine sw_vg rfl (fun _ => rfl) trivial ?_ | refine sw_sk rfl rfl ?_
  refine SW.nil ?_
  refine awp_seq_sw ?_
  repeat first | refine swV (fun _ => rfl) ?_ | refine sw_l (fun _ => rfl) trivial ?_ | refine sw_ln (fun _ => rfl) ⟨rfl, leB rfl⟩ ?_ | refine sw_vg rfl (fun _ => rfl) trivial ?_ | refine sw_sk rfl rfl ?_
  refine sw_call rfl fu ?_
  repeat first | refine swV (fun _ => rfl) ?_ | refine sw_l (fun _ => rfl) trivial ?_ | refine sw_ln (fun _ => rfl) ⟨rfl, leB rfl⟩ ?_ | refine sw_vg rfl (fun _ => rfl) trivial ?_ | refine sw_sk rfl rfl ?_
  refine sw_call rfl fv ?_
  repeat first | refine swV (fun _ => rfl) ?_ | refine sw_l (fun _ => rfl) trivial ?_ | refine sw_ln (fun _ => rfl) ⟨rfl, leB rfl⟩ ?_ | refine sw_vg rfl (fun _ => rfl) trivial ?_ | refine sw_sk rfl rfl ?_
  refine SW.nil ?_
  refine awp_seq_seq_sw ?_
  repeat first | refine swV (fun _ => rfl) ?_ | refine sw_l (fun _ => rfl) trivial ?_ | refine sw_ln (fun _ => rfl) ⟨rfl, leB rfl⟩ ?_ | refine sw_vg rfl (fun _ => rfl) trivial ?_ | refine sw_sk rfl rfl ?_
  refine sw_call rfl fc ?_
  repeat first | refine swV (fun _ => rfl) ?_ | refine sw_l (fun _ => rfl) trivial ?_ | refine sw_ln (fun _ => rfl) ⟨rfl, leB rfl⟩ ?_ | refine sw_vg rfl (fun _ => rfl) trivial ?_ | refine sw_sk rfl rfl ?_
  refine SW.nil ?_
  refine awp_cond rfl (fun h => ?_) fun h => ?_
  · have hle : val ps ≤ val qs := by
      rcases Nat.lt_or_ge (val qs) (val ps) with hh | hh
      · rw [cmpI_gt hh] at h; simp at h
      · exact hh
    refine awp_seq_sw ?_
    repeat first | refine swV (fun _ => rfl) ?_ | refine sw_l (fun _ => rfl) trivial ?_ | refine sw_ln (fun _ => rfl) ⟨rfl, leB rfl⟩ ?_ | refine sw_vg rfl (fun _ => rfl) trivial ?_ | refine sw_sk rfl rfl ?_
    refine SW.nil (awp_ret ?_)
    exact ⟨.inr rfl, _, rfl, ⟨[], .inr ⟨rfl, none, rfl⟩, Dig.nil, rfl, by simp only [val]; omega⟩, fun _ _ => rfl⟩
  have hgt : val qs < val ps := by
    rcases Nat.lt_or_ge (val qs) (val ps) with hh | hh
    · exact hh
    · rcases Nat.lt_or_ge (val ps) (val qs) with h3 | h3
      · rw [cmpI_lt h3] at h; simp at h
      · rw [show val qs = val ps by omega, cmpI_eq] at h; simp at h
  have hle : qs.length ≤ ps.length := by
    rcases Nat.lt_or_ge ps.length qs.length with hh | hh
    · have := lt_of_len dx ty hh; omega
    · exact hh
  clear h fc fu fv hu hv
  refine awp_skip ?_
  refine awp_seq_sw ?_
  refine swV (fun _ => rfl) ?_
  refine sw_v (len_sl rfl hu') trivial ?_
  refine sw_hh [] (mks_dig rfl rfl) ⟨by omega, by omega, by omega, by omega⟩ ?_
  repeat first | refine swV (fun _ => rfl) ?_ | refine sw_l (fun _ => rfl) trivial ?_ | refine sw_ln (fun _ => rfl) ⟨rfl, leB rfl⟩ ?_ | refine sw_vg rfl (fun _ => rfl) trivial ?_ | refine sw_sk rfl rfl ?_
  refine SW.nil ?_
  refine awp_seq_sw ?_
  repeat first | refine swV (fun _ => rfl) ?_ | refine sw_l (fun _ => rfl) trivial ?_ | refine sw_ln (fun _ => rfl) ⟨rfl, leB rfl⟩ ?_ | refine sw_vg rfl (fun _ => rfl) trivial ?_ | refine sw_sk rfl rfl ?_
  refine SW.nil ?_
  refine awp_seq_seq_sw ?_
  refine swV (fun _ => rfl) ?_
  refine sw_v (len_sl rfl hu') trivial ?_
  repeat first | refine swV (fun _ => rfl) ?_ | refine sw_l (fun _ => rfl) trivial ?_ | refine sw_ln (fun _ => rfl) ⟨rfl, leB rfl⟩ ?_ | refine sw_vg rfl (fun _ => rfl) trivial ?_ | refine sw_sk rfl rfl ?_
  refine SW.nil ?_
  refine awp_block ?_
  refine awp_loop (γ := { p : Nat × List Nat × Nat // p.1 ≤ ps.length ∧ p.2.1.length = p.1 ∧ Dig p.2.1 ∧ p.2.2 ≤ 1 ∧ val p.2.1 + val (qs.take p.1) = val (ps.take p.1) + B64 ^ p.1 * p.2.2 })
    (fun p => ⟨[(0, .v u'), (1, .v v'), (5, .v (.hs H.next 0 ps.length 1)), (6, .v (.lit (.int .u64 (p.1.2.2 : Int)))), (21, .v u'), (22, .v (.lit (.int .i64 ps.length))), (23, .v (.lit (.int .i64 (p.1.1 : Int))))], [],
      H.push (.cells (digV (p.1.2.1 ++ zeros (ps.length - p.1.1))))⟩) (fun p => ps.length - p.1.1)
    ⟨(0, [], 0), Nat.zero_le _, rfl, Dig.nil, Nat.zero_le _, by simp [val]⟩ (le_sub (sub_cons rfl (sub_cons rfl (sub_cons rfl (sub_cons rfl (sub_cons rfl (sub_cons rfl (sub_cons rfl (sub_nil _))))))))) ?_
  rintro ⟨⟨i, r, c⟩, hi, hr, dr, hc, hinv⟩
  dsimp only at hi hr dr hc hinv ⊢
  refine awp_seq_sw ?_
  repeat first | refine swV (fun _ => rfl) ?_ | refine sw_l (fun _ => rfl) trivial ?_ | refine sw_ln (fun _ => rfl) ⟨rfl, leB rfl⟩ ?_ | refine sw_vg rfl (fun _ => rfl) trivial ?_ | refine sw_sk rfl rfl ?_
  refine SW.nil ?_
  refine awp_seq (awp_cond rfl (fun h => ?_) fun h => ?_)
  · have hlt : i < ps.length := by simpa using h
    refine awp_skip ?_
    have ha : ps.drop i = ps[i] :: ps.drop (i + 1) := (List.getElem_cons_drop hlt).symm
    obtain rfl := hu'.vs (by rintro rfl; simp at hlt)
    refine awp_seq (awp_block ?_)
    refine awp_seq_sw ?_
    repeat first | refine swV (fun _ => rfl) ?_ | refine sw_l (fun _ => rfl) trivial ?_ | refine sw_ln (fun _ => rfl) ⟨rfl, leB rfl⟩ ?_ | refine sw_vg rfl (fun _ => rfl) trivial ?_ | refine sw_sk rfl rfl ?_
    refine sw_v (iad_dig _ _ rfl rfl ha) ⟨by omega, by omega⟩ ?_
    repeat first | refine swV (fun _ => rfl) ?_ | refine sw_l (fun _ => rfl) trivial ?_ | refine sw_ln (fun _ => rfl) ⟨rfl, leB rfl⟩ ?_ | refine sw_vg rfl (fun _ => rfl) trivial ?_ | refine sw_sk rfl rfl ?_
    refine SW.nil ?_
    refine awp_seq_sw ?_
    repeat first | refine swV (fun _ => rfl) ?_ | refine sw_l (fun _ => rfl) trivial ?_ | refine sw_ln (fun _ => rfl) ⟨rfl, leB rfl⟩ ?_ | refine sw_vg rfl (fun _ => rfl) trivial ?_ | refine sw_sk rfl rfl ?_
    refine SW.nil ?_
    refine awp_seq_seq_sw ?_
    refine swV (fun _ => rfl) ?_
    refine swV (fun _ => rfl) ?_
    refine sw_v (len_sl rfl hv') trivial ?_
    repeat first | refine swV (fun _ => rfl) ?_ | refine sw_l (fun _ => rfl) trivial ?_ | refine sw_ln (fun _ => rfl) ⟨rfl, leB rfl⟩ ?_ | refine sw_vg rfl (fun _ => rfl) trivial ?_ | refine sw_sk rfl rfl ?_
    refine SW.nil ?_
    refine awp_join (γ := Unit) (fun _ => ⟨[(0, .v (.vs (digV ps) ps.length)), (1, .v v'), (5, .v (.hs H.next 0 ps.length 1)), (6, .v (.lit (.int .u64 (c : Int)))), (21, .v (.vs (digV ps) ps.length)), (22, .v (.lit (.int .i64 ps.length))), (23, .v (.lit (.int .i64 (i : Int)))),
        (7, .v (.lit (.int .i64 (i : Int)))), (8, .v (.lit (.int .u64 (ps[i] : Nat)))), (9, .v (.lit (.int .u64 ((qs.getD i 0 : Nat) : Int))))], [],
      H.push (.cells (digV (r ++ zeros (ps.length - i))))⟩) ?_ ?_
    · refine awp_cond rfl (fun h => ?_) fun h => ?_
      · have hq : i < qs.length := by simpa using h
        have hb : qs.drop i = qs[i] :: qs.drop (i + 1) := (List.getElem_cons_drop hq).symm
        obtain rfl := hv'.vs (by rintro rfl; simp at hq)
        refine awp_sw ?_
        repeat first | refine swV (fun _ => rfl) ?_ | refine sw_l (fun _ => rfl) trivial ?_ | refine sw_ln (fun _ => rfl) ⟨rfl, leB rfl⟩ ?_ | refine sw_vg rfl (fun _ => rfl) trivial ?_ | refine sw_sk rfl rfl ?_
        refine sw_v (iad_dig _ _ rfl rfl hb) ⟨by omega, by omega⟩ ?_
        repeat first | refine swV (fun _ => rfl) ?_ | refine sw_l (fun _ => rfl) trivial ?_ | refine sw_ln (fun _ => rfl) ⟨rfl, leB rfl⟩ ?_ | refine sw_vg rfl (fun _ => rfl) trivial ?_ | refine sw_sk rfl rfl ?_
        refine SW.nil ⟨(), ?_⟩
        rw [show qs.getD i 0 = qs[i] by simp [List.getD_eq_getElem?_getD, hq]]
        exact le_sub (sub_cons rfl (sub_cons rfl (sub_cons rfl (sub_cons rfl (sub_cons rfl (sub_cons rfl (sub_cons rfl (sub_cons rfl (sub_cons rfl (sub_cons rfl (sub_nil _)))))))))))
      · have hq : ¬ i < qs.length := by simpa using h
        refine awp_skip ⟨(), ?_⟩
        rw [show qs.getD i 0 = 0 by simp [List.getD_eq_getElem?_getD, List.getElem?_eq_none (Nat.le_of_not_lt hq)]]
        exact le_sub (sub_cons rfl (sub_cons rfl (sub_cons rfl (sub_cons rfl (sub_cons rfl (sub_cons rfl (sub_cons rfl (sub_cons rfl (sub_cons rfl (sub_cons rfl (sub_nil _)))))))))))
    intro _
    have hp := dx ps[i] (List.getElem_mem hlt)
    have hq : qs.getD i 0 < B64 := by
      rw [List.getD_eq_getElem?_getD]
      rcases Nat.lt_or_ge i qs.length with h | h
      · rw [List.getElem?_eq_getElem h]; exact dy _ (List.getElem_mem h)
      · rw [List.getElem?_eq_none h]; decide
    refine awp_sw ?_
    repeat first | refine swV (fun _ => rfl) ?_ | refine sw_l (fun _ => rfl) trivial ?_ | refine sw_ln (fun _ => rfl) ⟨rfl, leB rfl⟩ ?_ | refine sw_vg rfl (fun _ => rfl) trivial ?_ | refine sw_sk rfl rfl ?_
    refine sw_v (sbb_nat rfl rfl rfl hp hq hc) ⟨by omega, by omega, by omega, by omega, by simp only [B64] at hp; omega, by simp only [B64] at hq; omega⟩ ?_
    repeat first | refine swV (fun _ => rfl) ?_ | refine sw_l (fun _ => rfl) trivial ?_ | refine sw_ln (fun _ => rfl) ⟨rfl, leB rfl⟩ ?_ | refine sw_vg rfl (fun _ => rfl) trivial ?_ | refine sw_sk rfl rfl ?_
    refine sw_hv [] (iad_hs rfl rfl (AH.push_get _ _)) ⟨by omega, by omega, rfl⟩ ?_
    refine sw_hhn [] (st_dig rfl rfl (AH.push_get _ _) (by simp [zeros_length, hr]; omega)) ⟨rfl, by simp [digV_length, zeros_length, hr]; omega⟩ ?_
    repeat first | refine swV (fun _ => rfl) ?_ | refine sw_l (fun _ => rfl) trivial ?_ | refine sw_ln (fun _ => rfl) ⟨rfl, leB rfl⟩ ?_ | refine sw_vg rfl (fun _ => rfl) trivial ?_ | refine sw_sk rfl rfl ?_
    refine SW.nil ?_
    show AWp _ _ _ _ _ _
    refine awp_sw ?_
    repeat first | refine swV (fun _ => rfl) ?_ | refine sw_l (fun _ => rfl) trivial ?_ | refine sw_ln (fun _ => rfl) ⟨rfl, leB rfl⟩ ?_ | refine sw_vg rfl (fun _ => rfl) trivial ?_ | refine sw_sk rfl rfl ?_
    refine SW.nil ?_
    have hz : zeros (ps.length - i) = 0 :: zeros (ps.length - (i + 1)) := by
      rw [show ps.length - i = (ps.length - (i + 1)) + 1 by omega, zeros_succ]
    rw [AH.push_set, hz, set_at hr]
    refine ⟨⟨(i + 1, r ++ [(ps[i] + B64 - qs.getD i 0 - c) % B64], if ps[i] < qs.getD i 0 + c then 1 else 0), by dsimp only; omega, by simp [hr], dr.append (Dig.cons (Nat.mod_lt _ (by decide)) Dig.nil), ?_, ?_⟩, by dsimp only; omega, ?_⟩
    · dsimp only
      split <;> omega
    · dsimp only
      rw [take_getD, take_getD, show ps.getD i 0 = ps[i] by simp [List.getD_eq_getElem?_getD, hlt]]
      exact sbb_step hp hq hc hr hinv
    · refine le_sub (sub_cons rfl (sub_cons rfl (sub_cons rfl (sub_cons rfl (sub_cons rfl (sub_cons rfl (sub_cons ?_ (sub_nil _)))))))) 
      show T.v (.lit (.int .i64 (IntKind.i64.wrap ((i : Int) + 1)))) = _
      rw [wrap_i64 (by omega) (by omega)]; rfl
  · have hin : i = ps.length := by simp at h; omega
    subst hin
    refine awp_exit ?_
    show AWp _ _ _ _ _ _
    refine awp_le (le_sub (sub_cons (t := 5) rfl (sub_nil _))) ?_
    rw [Nat.sub_self, show r ++ zeros 0 = r from List.append_nil r]
    refine awp_le (le_frz1 (AH.push_get _ _) (by simp [digV_length, hr])) ?_
    obtain ⟨w, hw, fw⟩ := fn_right r (.vs (digV r) ps.length) (.inl (by simp [hr])) (by omega) ((H.push (.cells (digV r))).del H.next)
    refine awp_seq_sw ?_
    repeat first | refine swV (fun _ => rfl) ?_ | refine sw_l (fun _ => rfl) trivial ?_ | refine sw_ln (fun _ => rfl) ⟨rfl, leB rfl⟩ ?_ | refine sw_vg rfl (fun _ => rfl) trivial ?_ | refine sw_sk rfl rfl ?_
    refine sw_call rfl fw ?_
    repeat first | refine swV (fun _ => rfl) ?_ | refine sw_l (fun _ => rfl) trivial ?_ | refine sw_ln (fun _ => rfl) ⟨rfl, leB rfl⟩ ?_ | refine sw_vg rfl (fun _ => rfl) trivial ?_ | refine sw_sk rfl rfl ?_
    refine SW.nil (awp_ret ?_)
    refine ⟨.inr rfl, _, rfl, ⟨trim r, hw, dr.trim, trim_trim _, ?_⟩, ?_⟩
    · rw [val_trim]
      rw [List.take_length, List.take_of_length_le hle] at hinv
      have h1 := val_lt dr
      rw [hr] at h1
      have : c = 0 := by
        rcases Nat.eq_zero_or_pos c with h | h
        · exact h
        · have : c = 1 := by omega
          subst this; omega
      subst this
      omega
    · intro b hb
      dsimp only
      rw [AH.get_del, if_neg (by omega), AH.push_lt hb]
end Iso

/- Arithmetic on words, as steps: with natural numbers. Nothing of a program. -/
namespace Iso
open Go
section
variable {ev : Opd → T} {Lg : Nat → Option (List V)} {d : Option Nat} {x y : Opd} {p q : Nat}
theorem u64_add (hx : ev x = .v (.lit (.int .u64 (p : Int)))) (hy : ev y = .v (.lit (.int .u64 (q : Int)))) (h : p + q < B64) :
    ∀ H, aopE [] d (.bin .add x y) ev Lg H = some ⟨True, .v (.lit (.int .u64 ((p + q : Nat) : Int))), {}⟩ := fun H => by
  have : IntKind.u64.wrap ((p : Int) + (q : Int)) = ((p + q : Nat) : Int) := by rw [wrap_u64 (by omega) (by simp only [B64] at h; omega)]; omega
  rw [← this]; simp only [aopE, hx, hy]; rfl
theorem u64_sub (hx : ev x = .v (.lit (.int .u64 (p : Int)))) (hy : ev y = .v (.lit (.int .u64 (q : Int)))) (h : q ≤ p) (hp : p < B64) :
    ∀ H, aopE [] d (.bin .sub x y) ev Lg H = some ⟨True, .v (.lit (.int .u64 ((p - q : Nat) : Int))), {}⟩ := fun H => by
  have : IntKind.u64.wrap ((p : Int) - (q : Int)) = ((p - q : Nat) : Int) := by rw [wrap_u64 (by omega) (by simp only [B64] at hp; omega)]; omega
  rw [← this]; simp only [aopE, hx, hy]; rfl
theorem u64_mul (hx : ev x = .v (.lit (.int .u64 (p : Int)))) (hy : ev y = .v (.lit (.int .u64 (q : Int)))) (h : p * q < B64) :
    ∀ H, aopE [] d (.bin .mul x y) ev Lg H = some ⟨True, .v (.lit (.int .u64 ((p * q : Nat) : Int))), {}⟩ := fun H => by
  have : IntKind.u64.wrap ((p : Int) * (q : Int)) = ((p * q : Nat) : Int) := by
    rw [← Int.natCast_mul, wrap_u64 (by omega) (by simp only [B64] at h; omega)]
  rw [← this]; simp only [aopE, hx, hy]; rfl
theorem u64_mulw (hx : ev x = .v (.lit (.int .u64 (p : Int)))) (hy : ev y = .v (.lit (.int .u64 (q : Int)))) :
    ∀ H, aopE [] d (.bin .mul x y) ev Lg H = some ⟨True, .v (.lit (.int .u64 ((p * q % B64 : Nat) : Int))), {}⟩ := fun H => by
  have : IntKind.u64.wrap ((p : Int) * (q : Int)) = ((p * q % B64 : Nat) : Int) := by
    rw [IntKind.wrap_u64, ← Int.natCast_mul]; rfl
  rw [← this]; simp only [aopE, hx, hy]; rfl
theorem u64_shr {k : IntKind} (n : Nat) (hx : ev x = .v (.lit (.int .u64 (p : Int)))) (hy : ev y = .v (.lit (.int k (n : Int)))) (hn : n ≤ 64) :
    ∀ H, aopE [] d (.bin .shr x y) ev Lg H = some ⟨0 ≤ (n : Int), .v (.lit (.int .u64 ((p / 2 ^ n : Nat) : Int))), {}⟩ := fun H => by
  have : (p : Int).fdiv (2 ^ (min (n : Int).toNat IntKind.u64.bits)) = ((p / 2 ^ n : Nat) : Int) := by
    rw [Int.toNat_natCast, show min n IntKind.u64.bits = n from Nat.min_eq_left hn]
    rw [show (2 : Int) ^ n = ((2 ^ n : Nat) : Int) by simp]
    exact Int.ofNat_fdiv p (2 ^ n) |>.symm
  rw [← this]; simp only [aopE, hx, hy]; rfl
theorem u64_shr32 {k : IntKind} (hx : ev x = .v (.lit (.int .u64 (p : Int)))) (hy : ev y = .v (.lit (.int k (32 : Int)))) :
    ∀ H, aopE [] d (.bin .shr x y) ev Lg H = some ⟨0 ≤ (32 : Int), .v (.lit (.int .u64 ((p / 4294967296 : Nat) : Int))), {}⟩ := u64_shr 32 hx hy (by decide)
theorem u64_low32 (hx : ev x = .v (.lit (.int .u64 (p : Int)))) (hy : ev y = .v (.lit (.int .u64 4294967295))) (hp : p < B64) :
    ∀ H, aopE [] d (.bin .and x y) ev Lg H = some ⟨True, .v (.lit (.int .u64 ((p % 4294967296 : Nat) : Int))), {}⟩ := fun H => by
  have : IntKind.u64.wrap ((BitVec.ofInt IntKind.u64.bits (p : Int) &&& BitVec.ofInt IntKind.u64.bits 4294967295).toNat : Int) = ((p % 4294967296 : Nat) : Int) := by
    have h1 : (BitVec.ofInt 64 (p : Int)).toNat = p := by
      rw [BitVec.ofInt_natCast, BitVec.toNat_ofNat]; exact Nat.mod_eq_of_lt hp
    show IntKind.u64.wrap ((BitVec.ofInt 64 (p : Int) &&& BitVec.ofInt 64 4294967295).toNat : Int) = _
    rw [BitVec.toNat_and, h1, show (BitVec.ofInt 64 4294967295).toNat = 2 ^ 32 - 1 from rfl, Nat.and_two_pow_sub_one_eq_mod]
    rw [wrap_u64 (by omega) (by omega)]
  rw [← this]; simp only [aopE, hx, hy]; rfl
theorem i64_add (hx : ev x = .v (.lit (.int .i64 (p : Int)))) (hy : ev y = .v (.lit (.int .i64 (q : Int)))) (h : p + q < 9223372036854775808) :
    ∀ H, aopE [] d (.bin .add x y) ev Lg H = some ⟨True, .v (.lit (.int .i64 ((p + q : Nat) : Int))), {}⟩ := fun H => by
  have : IntKind.i64.wrap ((p : Int) + (q : Int)) = ((p + q : Nat) : Int) := by rw [wrap_i64 (by omega) (by omega)]; omega
  rw [← this]; simp only [aopE, hx, hy]; rfl
theorem i64_sub (hx : ev x = .v (.lit (.int .i64 (p : Int)))) (hy : ev y = .v (.lit (.int .i64 (q : Int)))) (h : q ≤ p) (hp : p < 9223372036854775808) :
    ∀ H, aopE [] d (.bin .sub x y) ev Lg H = some ⟨True, .v (.lit (.int .i64 ((p - q : Nat) : Int))), {}⟩ := fun H => by
  have : IntKind.i64.wrap ((p : Int) - (q : Int)) = ((p - q : Nat) : Int) := by rw [wrap_i64 (by omega) (by omega)]; omega
  rw [← this]; simp only [aopE, hx, hy]; rfl
theorem i64_inc (hx : ev x = .v (.lit (.int .i64 (p : Int)))) (hy : ev y = .v (.lit (.int .i64 1))) (h : p + 1 < 9223372036854775808) :
    ∀ H, aopE [] d (.bin .add x y) ev Lg H = some ⟨True, .v (.lit (.int .i64 ((p + 1 : Nat) : Int))), {}⟩ := i64_add (q := 1) hx hy h
end
theorem lt32 {a b : Nat} (ha : a < 4294967296) (hb : b < 4294967296) : a * b ≤ 18446744065119617025 := by
  have := Nat.mul_le_mul (Nat.le_of_lt_succ ha) (Nat.le_of_lt_succ hb)
  simpa using this
theorem mul64_hi (x y : Nat) (hx : x < B64) (hy : y < B64) :
    let t := x / 4294967296 * (y % 4294967296) + x % 4294967296 * (y % 4294967296) / 4294967296
    x / 4294967296 * (y / 4294967296) + t / 4294967296 + (t % 4294967296 + x % 4294967296 * (y / 4294967296)) / 4294967296 = x * y / B64 := by
  intro t
  have e : x * y = x / 4294967296 * (y / 4294967296) * 18446744073709551616 + (x / 4294967296 * (y % 4294967296) + x % 4294967296 * (y / 4294967296)) * 4294967296 + x % 4294967296 * (y % 4294967296) := by
    conv => lhs; rw [← Nat.div_add_mod x 4294967296, ← Nat.div_add_mod y 4294967296]
    generalize x / 4294967296 = a
    generalize x % 4294967296 = b
    generalize y / 4294967296 = c
    generalize y % 4294967296 = f
    grind
  rw [e]
  simp only [t, B64]
  generalize x / 4294967296 * (y / 4294967296) = a
  generalize x / 4294967296 * (y % 4294967296) = b
  generalize x % 4294967296 * (y / 4294967296) = c
  generalize x % 4294967296 * (y % 4294967296) = f
  omega
end Iso

/- Multiplying magnitudes. -/
namespace Iso
open Go Go.Proofs
/-- 'bits.Mul64'. -/
theorem fn_mul64 (x y : Nat) (hx : x < B64) (hy : y < B64) (H : AH) :
    FN Tryz.prog 104 [.lit (.int .u64 (x : Int)), .lit (.int .u64 (y : Int))] H (.tup [.lit (.int .u64 ((x * y / B64 : Nat) : Int)), .lit (.int .u64 ((x * y % B64 : Nat) : Int))]) H := by
  suffices h : ∃ v' H', FN Tryz.prog 104 [.lit (.int .u64 (x : Int)), .lit (.int .u64 (y : Int))] H v' H' ∧ (v' = .tup [.lit (.int .u64 ((x * y / B64 : Nat) : Int)), .lit (.int .u64 ((x * y % B64 : Nat) : Int))] ∧ H' = H) by
    obtain ⟨v', H', h1, rfl, rfl⟩ := h; exact h1
  have hx1 : x / 4294967296 < 4294967296 := by simp only [B64] at hx; omega
  have hy1 : y / 4294967296 < 4294967296 := by simp only [B64] at hy; omega
  have hx0 : x % 4294967296 < 4294967296 := Nat.mod_lt _ (by decide)
  have hy0 : y % 4294967296 < 4294967296 := Nat.mod_lt _ (by decide)
  have h00 := lt32 hx0 hy0
  have h10 := lt32 hx1 hy0
  have h01 := lt32 hx0 hy1
  have h11 := lt32 hx1 hy1
  have hhi := mul64_hi x y hx hy
  have hlt : x * y / B64 < B64 := Nat.div_lt_of_lt_mul (Nat.mul_lt_mul'' hx hy)
  dsimp only at hhi
  refine fn_of cf104 (by simp) ?_
  show AWp _ _ _ ac104 _ _
  unfold ac104
  refine awp_seq_sw ?_
  repeat first | refine swV (fun _ => rfl) ?_ | refine sw_l (fun _ => rfl) trivial ?_ | refine sw_ln (fun _ => rfl) ⟨rfl, leB rfl⟩ ?_ | refine sw_vg rfl (fun _ => rfl) trivial ?_ | refine sw_sk rfl rfl ?_
  refine SW.nil (awp_seq_sw ?_)
  refine swV (fun _ => rfl) ?_
  refine sw_v (u64_low32 rfl rfl hx) trivial ?_
  repeat first | refine swV (fun _ => rfl) ?_ | refine sw_l (fun _ => rfl) trivial ?_ | refine sw_ln (fun _ => rfl) ⟨rfl, leB rfl⟩ ?_ | refine sw_vg rfl (fun _ => rfl) trivial ?_ | refine sw_sk rfl rfl ?_
  refine SW.nil (awp_seq_sw ?_)
  refine swV (fun _ => rfl) ?_
  refine sw_v (u64_shr32 rfl rfl) (by decide) ?_
  repeat first | refine swV (fun _ => rfl) ?_ | refine sw_l (fun _ => rfl) trivial ?_ | refine sw_ln (fun _ => rfl) ⟨rfl, leB rfl⟩ ?_ | refine sw_vg rfl (fun _ => rfl) trivial ?_ | refine sw_sk rfl rfl ?_
  refine SW.nil (awp_seq_sw ?_)
  refine swV (fun _ => rfl) ?_
  refine sw_v (u64_low32 rfl rfl hy) trivial ?_
  repeat first | refine swV (fun _ => rfl) ?_ | refine sw_l (fun _ => rfl) trivial ?_ | refine sw_ln (fun _ => rfl) ⟨rfl, leB rfl⟩ ?_ | refine sw_vg rfl (fun _ => rfl) trivial ?_ | refine sw_sk rfl rfl ?_
  refine SW.nil (awp_seq_sw ?_)
  refine swV (fun _ => rfl) ?_
  refine sw_v (u64_shr32 rfl rfl) (by decide) ?_
  repeat first | refine swV (fun _ => rfl) ?_ | refine sw_l (fun _ => rfl) trivial ?_ | refine sw_ln (fun _ => rfl) ⟨rfl, leB rfl⟩ ?_ | refine sw_vg rfl (fun _ => rfl) trivial ?_ | refine sw_sk rfl rfl ?_
  refine SW.nil (awp_seq_sw ?_)
  refine swV (fun _ => rfl) ?_
  refine swV (fun _ => rfl) ?_
  refine sw_v (u64_mul rfl rfl (by simp only [B64]; omega)) trivial ?_
  repeat first | refine swV (fun _ => rfl) ?_ | refine sw_l (fun _ => rfl) trivial ?_ | refine sw_ln (fun _ => rfl) ⟨rfl, leB rfl⟩ ?_ | refine sw_vg rfl (fun _ => rfl) trivial ?_ | refine sw_sk rfl rfl ?_
  refine SW.nil (awp_seq_sw ?_)
  refine swV (fun _ => rfl) ?_
  refine swV (fun _ => rfl) ?_
  refine sw_v (u64_mul rfl rfl (by simp only [B64]; omega)) trivial ?_
  refine swV (fun _ => rfl) ?_
  refine sw_v (u64_shr32 rfl rfl) (by decide) ?_
  refine sw_v (u64_add rfl rfl (by simp only [B64]; omega)) trivial ?_
  repeat first | refine swV (fun _ => rfl) ?_ | refine sw_l (fun _ => rfl) trivial ?_ | refine sw_ln (fun _ => rfl) ⟨rfl, leB rfl⟩ ?_ | refine sw_vg rfl (fun _ => rfl) trivial ?_ | refine sw_sk rfl rfl ?_
  refine SW.nil (awp_seq_sw ?_)
  refine swV (fun _ => rfl) ?_
  refine sw_v (u64_low32 rfl rfl (by simp only [B64]; omega)) trivial ?_
  repeat first | refine swV (fun _ => rfl) ?_ | refine sw_l (fun _ => rfl) trivial ?_ | refine sw_ln (fun _ => rfl) ⟨rfl, leB rfl⟩ ?_ | refine sw_vg rfl (fun _ => rfl) trivial ?_ | refine sw_sk rfl rfl ?_
  refine SW.nil (awp_seq_sw ?_)
  refine swV (fun _ => rfl) ?_
  refine sw_v (u64_shr32 rfl rfl) (by decide) ?_
  repeat first | refine swV (fun _ => rfl) ?_ | refine sw_l (fun _ => rfl) trivial ?_ | refine sw_ln (fun _ => rfl) ⟨rfl, leB rfl⟩ ?_ | refine sw_vg rfl (fun _ => rfl) trivial ?_ | refine sw_sk rfl rfl ?_
  refine SW.nil (awp_seq_sw ?_)
  refine swV (fun _ => rfl) ?_
  refine swV (fun _ => rfl) ?_
  refine swV (fun _ => rfl) ?_
  refine sw_v (u64_mul rfl rfl (by simp only [B64]; omega)) trivial ?_
  refine sw_v (u64_add rfl rfl (by simp only [B64]; omega)) trivial ?_
  repeat first | refine swV (fun _ => rfl) ?_ | refine sw_l (fun _ => rfl) trivial ?_ | refine sw_ln (fun _ => rfl) ⟨rfl, leB rfl⟩ ?_ | refine sw_vg rfl (fun _ => rfl) trivial ?_ | refine sw_sk rfl rfl ?_
  refine SW.nil (awp_seq_sw ?_)
  refine swV (fun _ => rfl) ?_
  refine swV (fun _ => rfl) ?_
  refine sw_v (u64_mul rfl rfl (by simp only [B64]; omega)) trivial ?_
  refine swV (fun _ => rfl) ?_
  refine sw_v (u64_add rfl rfl (by simp only [B64]; omega)) trivial ?_
  refine swV (fun _ => rfl) ?_
  refine sw_v (u64_shr32 rfl rfl) (by decide) ?_
  refine sw_v (u64_add rfl rfl (by simp only [B64] at *; omega)) trivial ?_
  repeat first | refine swV (fun _ => rfl) ?_ | refine sw_l (fun _ => rfl) trivial ?_ | refine sw_ln (fun _ => rfl) ⟨rfl, leB rfl⟩ ?_ | refine sw_vg rfl (fun _ => rfl) trivial ?_ | refine sw_sk rfl rfl ?_
  refine SW.nil (awp_seq_sw ?_)
  refine swV (fun _ => rfl) ?_
  refine swV (fun _ => rfl) ?_
  refine sw_v (u64_mulw rfl rfl) trivial ?_
  repeat first | refine swV (fun _ => rfl) ?_ | refine sw_l (fun _ => rfl) trivial ?_ | refine sw_ln (fun _ => rfl) ⟨rfl, leB rfl⟩ ?_ | refine sw_vg rfl (fun _ => rfl) trivial ?_ | refine sw_sk rfl rfl ?_
  refine SW.nil (awp_ret ?_)
  refine ⟨.inr rfl, _, rfl, ?_, rfl⟩
  show V.tup [.lit (.int .u64 _), .lit (.int .u64 _)] = _
  rw [← hhi]
theorem mul_step {p q c s : Nat} (hp : p < B64) (hq : q < B64) (hc : c < B64) (hs : s < B64) :
    p * q / B64 + (p * q % B64 + c + 0) / B64 < B64 ∧
    p * q / B64 + (p * q % B64 + c + 0) / B64 + (s + (p * q % B64 + c + 0) % B64 + 0) / B64 < B64 ∧
    s + p * q + c = (s + (p * q % B64 + c + 0) % B64 + 0) % B64 + B64 * (p * q / B64 + (p * q % B64 + c + 0) / B64 + (s + (p * q % B64 + c + 0) % B64 + 0) / B64) := by
  have h := Nat.mul_le_mul (Nat.le_sub_one_of_lt hp) (Nat.le_sub_one_of_lt hq)
  simp only [B64] at *
  generalize p * q = m at *
  omega
/-- 'mag.Mul'. -/
theorem fn_mul (xs ys : List Nat) (u v : V) (hu : IsSl xs u) (hv : IsSl ys v) (dx : Dig xs) (dy : Dig ys) (lx : xs.length < 2 ^ 39) (ly : ys.length < 2 ^ 39) (H : AH) :
    ∃ w, IsMag (val xs * val ys) w ∧ FN Tryz.prog 63 [u, v] H w H := by
  suffices h : ∃ w H', FN Tryz.prog 63 [u, v] H w H' ∧ (IsMag (val xs * val ys) w ∧ ∀ b, b < H.next → H'.get b = H.get b) by
    obtain ⟨w, H', h1, h2, h3⟩ := h
    obtain ⟨ds, hd, _⟩ := id h2
    exact ⟨w, h2, h1.quiet h3 (hd.under _)⟩
  refine fn_of cf63 (by simp) ?_
  show AWp _ _ _ ac63 _ _
  unfold ac63
  refine awp_seq_sw ?_
  repeat first | refine swV (fun _ => rfl) ?_ | refine sw_l (fun _ => rfl) trivial ?_ | refine sw_ln (fun _ => rfl) ⟨rfl, leB rfl⟩ ?_ | refine sw_vg rfl (fun _ => rfl) trivial ?_ | refine sw_sk rfl rfl ?_
  refine SW.nil (awp_seq_sw ?_)
  refine swV (fun _ => rfl) ?_
  refine sw_v (len_sl rfl hu) trivial ?_
  refine swV (fun _ => rfl) ?_
  refine sw_v (len_sl rfl hv) trivial ?_
  refine sw_v (i64_add rfl rfl (by omega)) trivial ?_
  refine sw_hh [] (mks_dig rfl rfl) ⟨by omega, by omega, by omega, by omega⟩ ?_
  repeat first | refine swV (fun _ => rfl) ?_ | refine sw_l (fun _ => rfl) trivial ?_ | refine sw_ln (fun _ => rfl) ⟨rfl, leB rfl⟩ ?_ | refine sw_vg rfl (fun _ => rfl) trivial ?_ | refine sw_sk rfl rfl ?_
  refine SW.nil (awp_seq_seq_sw ?_)
  refine swV (fun _ => rfl) ?_
  refine sw_v (len_sl rfl hu) trivial ?_
  repeat first | refine swV (fun _ => rfl) ?_ | refine sw_l (fun _ => rfl) trivial ?_ | refine sw_ln (fun _ => rfl) ⟨rfl, leB rfl⟩ ?_ | refine sw_vg rfl (fun _ => rfl) trivial ?_ | refine sw_sk rfl rfl ?_
  refine SW.nil (awp_block ?_)
  refine awp_loop (γ := { p : Nat × List Nat // p.1 ≤ xs.length ∧ p.2.length = p.1 + ys.length ∧ Dig p.2 ∧ val p.2 = val (xs.take p.1) * val ys })
    (fun p => ⟨[(0, .v u), (1, .v v), (5, .v (.hs H.next 0 (xs.length + ys.length) 1)), (20, .v u), (21, .v (.lit (.int .i64 xs.length))), (22, .v (.lit (.int .i64 (p.1.1 : Int))))], [],
      H.push (.cells (digV (p.1.2 ++ zeros (xs.length - p.1.1))))⟩) (fun p => xs.length - p.1.1)
    ⟨(0, zeros ys.length), Nat.zero_le _, by simp [zeros_length], dig_zeros _, by simp [val, val_zeros]⟩ ?_ ?_
  · dsimp only
    rw [show zeros ys.length ++ zeros (xs.length - 0) = zeros (xs.length + ys.length) by simp [zeros, Nat.add_comm]]
    exact le_sub (sub_cons rfl (sub_cons rfl (sub_cons rfl (sub_cons rfl (sub_cons rfl (sub_cons rfl (sub_nil _)))))))
  rintro ⟨⟨i, r⟩, hi, hr, dr, hinv⟩
  dsimp only at hi hr dr hinv ⊢
  refine awp_seq_sw ?_
  repeat first | refine swV (fun _ => rfl) ?_ | refine sw_l (fun _ => rfl) trivial ?_ | refine sw_ln (fun _ => rfl) ⟨rfl, leB rfl⟩ ?_ | refine sw_vg rfl (fun _ => rfl) trivial ?_ | refine sw_sk rfl rfl ?_
  refine SW.nil (awp_seq (awp_cond rfl (fun h => ?_) fun h => ?_))
  · have hlt : i < xs.length := by simpa using h
    refine awp_skip ?_
    have ha : xs.drop i = xs[i] :: xs.drop (i + 1) := (List.getElem_cons_drop hlt).symm
    have hp := dx xs[i] (List.getElem_mem hlt)
    obtain rfl := hu.vs (by rintro rfl; simp at hlt)
    refine awp_seq (awp_block ?_)
    refine awp_seq_sw ?_
    repeat first | refine swV (fun _ => rfl) ?_ | refine sw_l (fun _ => rfl) trivial ?_ | refine sw_ln (fun _ => rfl) ⟨rfl, leB rfl⟩ ?_ | refine sw_vg rfl (fun _ => rfl) trivial ?_ | refine sw_sk rfl rfl ?_
    refine sw_v (iad_dig _ _ rfl rfl ha) ⟨by omega, by omega⟩ ?_
    repeat first | refine swV (fun _ => rfl) ?_ | refine sw_l (fun _ => rfl) trivial ?_ | refine sw_ln (fun _ => rfl) ⟨rfl, leB rfl⟩ ?_ | refine sw_vg rfl (fun _ => rfl) trivial ?_ | refine sw_sk rfl rfl ?_
    refine SW.nil (awp_seq_sw ?_)
    repeat first | refine swV (fun _ => rfl) ?_ | refine sw_l (fun _ => rfl) trivial ?_ | refine sw_ln (fun _ => rfl) ⟨rfl, leB rfl⟩ ?_ | refine sw_vg rfl (fun _ => rfl) trivial ?_ | refine sw_sk rfl rfl ?_
    refine SW.nil (awp_seq_seq_sw ?_)
    refine swV (fun _ => rfl) ?_
    refine sw_v (len_sl rfl hv) trivial ?_
    repeat first | refine swV (fun _ => rfl) ?_ | refine sw_l (fun _ => rfl) trivial ?_ | refine sw_ln (fun _ => rfl) ⟨rfl, leB rfl⟩ ?_ | refine sw_vg rfl (fun _ => rfl) trivial ?_ | refine sw_sk rfl rfl ?_
    refine SW.nil (awp_block ?_)
    refine awp_loop (γ := { p : Nat × List Nat × Nat // p.1 ≤ ys.length ∧ p.2.1.length = i + p.1 ∧ Dig p.2.1 ∧ p.2.2 < B64 ∧ val p.2.1 + B64 ^ (i + p.1) * (p.2.2 + val (r.drop (i + p.1))) = val r + B64 ^ i * (xs[i] * val (ys.take p.1)) })
      (fun p => ⟨[(0, .v (.vs (digV xs) xs.length)), (1, .v v), (5, .v (.hs H.next 0 (xs.length + ys.length) 1)), (20, .v (.vs (digV xs) xs.length)), (21, .v (.lit (.int .i64 xs.length))), (22, .v (.lit (.int .i64 (i : Int)))),
          (6, .v (.lit (.int .i64 (i : Int)))), (7, .v (.lit (.int .u64 ((xs[i] : Nat) : Int)))), (8, .v (.lit (.int .u64 (p.1.2.2 : Int)))), (27, .v v), (28, .v (.lit (.int .i64 ys.length))), (29, .v (.lit (.int .i64 (p.1.1 : Int))))], [],
        H.push (.cells (digV (p.1.2.1 ++ (r.drop (i + p.1.1) ++ zeros (xs.length - i)))))⟩) (fun p => ys.length - p.1.1)
      ⟨(0, r.take i, 0), Nat.zero_le _, by simp; omega, dr.take i, (by decide : 0 < B64), ?_⟩ ?_ ?_
    · dsimp only
      have := val_append (r.take i) (r.drop i)
      rw [List.take_append_drop] at this
      have hl : (r.take i).length = i := by simp; omega
      rw [hl] at this
      simp [val, this]
    · dsimp only
      rw [← List.append_assoc, show List.drop (i + 0) r = List.drop i r from rfl, List.take_append_drop]
      exact le_sub (sub_cons rfl (sub_cons rfl (sub_cons rfl (sub_cons rfl (sub_cons rfl (sub_cons rfl (sub_cons rfl (sub_cons rfl (sub_cons rfl (sub_cons rfl (sub_cons rfl (sub_cons rfl (sub_nil _)))))))))))))
    rintro ⟨⟨j, a, c⟩, hj, hal, da, hc, hin⟩
    dsimp only at hj hal da hc hin ⊢
    refine awp_seq_sw ?_
    repeat first | refine swV (fun _ => rfl) ?_ | refine sw_l (fun _ => rfl) trivial ?_ | refine sw_ln (fun _ => rfl) ⟨rfl, leB rfl⟩ ?_ | refine sw_vg rfl (fun _ => rfl) trivial ?_ | refine sw_sk rfl rfl ?_
    refine SW.nil (awp_seq (awp_cond rfl (fun h => ?_) fun h => ?_))
    · have hjl : j < ys.length := by simpa using h
      refine awp_skip ?_
      have hb : ys.drop j = ys[j] :: ys.drop (j + 1) := (List.getElem_cons_drop hjl).symm
      have hq := dy ys[j] (List.getElem_mem hjl)
      have hrj : i + j < r.length := by omega
      have hrd : r.drop (i + j) = r[i + j] :: r.drop (i + j + 1) := (List.getElem_cons_drop hrj).symm
      have hs := dr r[i + j] (List.getElem_mem hrj)
      obtain ⟨m1, m2, m3⟩ := mul_step hp hq hc hs
      obtain rfl := hv.vs (by rintro rfl; simp at hjl)
      refine awp_seq (awp_block ?_)
      refine awp_seq_sw ?_
      repeat first | refine swV (fun _ => rfl) ?_ | refine sw_l (fun _ => rfl) trivial ?_ | refine sw_ln (fun _ => rfl) ⟨rfl, leB rfl⟩ ?_ | refine sw_vg rfl (fun _ => rfl) trivial ?_ | refine sw_sk rfl rfl ?_
      refine sw_v (iad_dig _ _ rfl rfl hb) ⟨by omega, by omega⟩ ?_
      repeat first | refine swV (fun _ => rfl) ?_ | refine sw_l (fun _ => rfl) trivial ?_ | refine sw_ln (fun _ => rfl) ⟨rfl, leB rfl⟩ ?_ | refine sw_vg rfl (fun _ => rfl) trivial ?_ | refine sw_sk rfl rfl ?_
      refine SW.nil (awp_seq_sw ?_)
      repeat first | refine swV (fun _ => rfl) ?_ | refine sw_l (fun _ => rfl) trivial ?_ | refine sw_ln (fun _ => rfl) ⟨rfl, leB rfl⟩ ?_ | refine sw_vg rfl (fun _ => rfl) trivial ?_ | refine sw_sk rfl rfl ?_
      refine sw_call rfl (fn_mul64 _ _ hp hq _) ?_
      repeat first | refine swV (fun _ => rfl) ?_ | refine sw_l (fun _ => rfl) trivial ?_ | refine sw_ln (fun _ => rfl) ⟨rfl, leB rfl⟩ ?_ | refine sw_vg rfl (fun _ => rfl) trivial ?_ | refine sw_sk rfl rfl ?_
      refine SW.nil (awp_seq_sw ?_)
      repeat first | refine swV (fun _ => rfl) ?_ | refine sw_l (fun _ => rfl) trivial ?_ | refine sw_ln (fun _ => rfl) ⟨rfl, leB rfl⟩ ?_ | refine sw_vg rfl (fun _ => rfl) trivial ?_ | refine sw_sk rfl rfl ?_
      refine SW.nil (awp_seq_sw ?_)
      repeat first | refine swV (fun _ => rfl) ?_ | refine sw_l (fun _ => rfl) trivial ?_ | refine sw_ln (fun _ => rfl) ⟨rfl, leB rfl⟩ ?_ | refine sw_vg rfl (fun _ => rfl) trivial ?_ | refine sw_sk rfl rfl ?_
      refine sw_v (adc_nat (r := 0) rfl rfl rfl) ⟨by omega, by omega, by omega, by omega⟩ ?_
      repeat first | refine swV (fun _ => rfl) ?_ | refine sw_l (fun _ => rfl) trivial ?_ | refine sw_ln (fun _ => rfl) ⟨rfl, leB rfl⟩ ?_ | refine sw_vg rfl (fun _ => rfl) trivial ?_ | refine sw_sk rfl rfl ?_
      refine SW.nil (awp_seq_sw ?_)
      refine swV (fun _ => rfl) ?_
      refine swV (fun _ => rfl) ?_
      refine sw_v (u64_add rfl rfl m1) trivial ?_
      repeat first | refine swV (fun _ => rfl) ?_ | refine sw_l (fun _ => rfl) trivial ?_ | refine sw_ln (fun _ => rfl) ⟨rfl, leB rfl⟩ ?_ | refine sw_vg rfl (fun _ => rfl) trivial ?_ | refine sw_sk rfl rfl ?_
      refine SW.nil (awp_seq_sw ?_)
      refine swV (fun _ => rfl) ?_
      refine swV (fun _ => rfl) ?_
      refine swV (fun _ => rfl) ?_
      refine sw_v (i64_add rfl rfl (by omega)) trivial ?_
      refine swV (fun _ => rfl) ?_
      refine swV (fun _ => rfl) ?_
      refine swV (fun _ => rfl) ?_
      refine sw_v (i64_add rfl rfl (by omega)) trivial ?_
      refine sw_hv [] (iad_hs rfl rfl (AH.push_get _ _)) ⟨by omega, by omega, rfl⟩ ?_
      refine sw_hv [] (ld_dig (e := r[i + j]) rfl (AH.push_get _ _) (by rw [List.getElem?_append_right (by omega), hal, Nat.sub_self, hrd]; rfl)) trivial ?_
      refine swV (fun _ => rfl) ?_
      refine sw_v (adc_nat (r := 0) rfl rfl rfl) ⟨by omega, by omega, by omega, by omega⟩ ?_
      repeat first | refine swV (fun _ => rfl) ?_ | refine sw_l (fun _ => rfl) trivial ?_ | refine sw_ln (fun _ => rfl) ⟨rfl, leB rfl⟩ ?_ | refine sw_vg rfl (fun _ => rfl) trivial ?_ | refine sw_sk rfl rfl ?_
      refine sw_hv [] (iad_hs rfl rfl (AH.push_get _ _)) ⟨by omega, by omega, rfl⟩ ?_
      refine sw_hhn [] (st_dig rfl rfl (AH.push_get _ _) (by simp [zeros_length, hal, hr]; omega)) ⟨rfl, by simp [digV_length, zeros_length, hal, hr]; omega⟩ ?_
      repeat first | refine swV (fun _ => rfl) ?_ | refine sw_l (fun _ => rfl) trivial ?_ | refine sw_ln (fun _ => rfl) ⟨rfl, leB rfl⟩ ?_ | refine sw_vg rfl (fun _ => rfl) trivial ?_ | refine sw_sk rfl rfl ?_
      refine SW.nil ?_
      refine awp_sw ?_
      refine swV (fun _ => rfl) ?_
      refine swV (fun _ => rfl) ?_
      refine sw_v (u64_add rfl rfl m2) trivial ?_
      repeat first | refine swV (fun _ => rfl) ?_ | refine sw_l (fun _ => rfl) trivial ?_ | refine sw_ln (fun _ => rfl) ⟨rfl, leB rfl⟩ ?_ | refine sw_vg rfl (fun _ => rfl) trivial ?_ | refine sw_sk rfl rfl ?_
      refine SW.nil ?_
      show AWp _ _ _ _ _ _
      refine awp_sw ?_
      refine sw_v (i64_inc rfl rfl (by omega)) trivial ?_
      repeat first | refine swV (fun _ => rfl) ?_ | refine sw_l (fun _ => rfl) trivial ?_ | refine sw_ln (fun _ => rfl) ⟨rfl, leB rfl⟩ ?_ | refine sw_vg rfl (fun _ => rfl) trivial ?_ | refine sw_sk rfl rfl ?_
      refine SW.nil ?_
      rw [AH.push_set, hrd, List.cons_append, set_at hal]
      refine ⟨⟨(j + 1, a ++ [(r[i + j] + (xs[i] * ys[j] % B64 + c + 0) % B64 + 0) % B64], _), by dsimp only; omega, ?_, da.append (Dig.cons (Nat.mod_lt _ (by decide)) Dig.nil), m2, ?_⟩, by dsimp only; omega, ?_⟩
      · simp [hal]; omega
      · dsimp only
        rw [val_snoc, hal, take_getD, show ys.getD j 0 = ys[j] by simp [List.getD_eq_getElem?_getD, hjl], ← Nat.add_assoc i j 1, Nat.pow_succ, Nat.mul_assoc]
        rw [hrd] at hin
        simp only [val] at hin
        have e1 : B64 ^ i * (xs[i] * (val (ys.take j) + B64 ^ j * ys[j])) = B64 ^ i * (xs[i] * val (ys.take j)) + B64 ^ (i + j) * (xs[i] * ys[j]) := by
          rw [Nat.pow_add]; grind
        rw [e1]
        generalize hS : (r[i + j] + (xs[i] * ys[j] % B64 + c + 0) % B64 + 0) % B64 = S at *
        generalize hC : xs[i] * ys[j] / B64 + (xs[i] * ys[j] % B64 + c + 0) / B64 + (r[i + j] + (xs[i] * ys[j] % B64 + c + 0) % B64 + 0) / B64 = C at *
        have e2 : B64 ^ (i + j) * (r[i + j] + xs[i] * ys[j] + c) = B64 ^ (i + j) * (S + B64 * C) := by rw [m3]
        rw [Nat.mul_add, Nat.mul_add] at e2
        rw [Nat.mul_add, Nat.mul_add] at hin
        rw [Nat.mul_add B64 C, Nat.mul_add (B64 ^ (i + j)) (B64 * C)]
        rw [Nat.mul_add] at e2
        omega
      · refine le_sub (sub_cons rfl (sub_cons rfl (sub_cons rfl (sub_cons rfl (sub_cons rfl (sub_cons rfl (sub_cons rfl (sub_cons rfl (sub_cons rfl (sub_cons rfl (sub_cons rfl (sub_cons rfl (sub_nil _)))))))))))))
    · have hjm : j = ys.length := by simp at h; omega
      subst hjm
      refine awp_exit ?_
      show AWp _ _ _ _ _ _
      have hz : zeros (xs.length - i) = 0 :: zeros (xs.length - (i + 1)) := by
        rw [show xs.length - i = (xs.length - (i + 1)) + 1 by omega, zeros_succ]
      have hrn : r.drop (i + ys.length) = [] := List.drop_eq_nil_of_le (by omega)
      refine awp_sw ?_
      refine swV (fun _ => rfl) ?_
      refine swV (fun _ => rfl) ?_
      refine swV (fun _ => rfl) ?_
      refine sw_v (len_sl rfl hv) trivial ?_
      refine sw_v (i64_add rfl rfl (by omega)) trivial ?_
      refine swV (fun _ => rfl) ?_
      refine sw_hv [] (iad_hs rfl rfl (AH.push_get _ _)) ⟨by omega, by omega, rfl⟩ ?_
      refine sw_hhn [] (st_dig rfl rfl (AH.push_get _ _) (by simp [zeros_length, hal, hr]; omega)) ⟨rfl, by simp [digV_length, zeros_length, hal, hr]; omega⟩ ?_
      refine SW.nil ?_
      show AWp _ _ _ _ _ _
      refine awp_sw ?_
      refine sw_v (i64_inc rfl rfl (by omega)) trivial ?_
      repeat first | refine swV (fun _ => rfl) ?_ | refine sw_l (fun _ => rfl) trivial ?_ | refine sw_ln (fun _ => rfl) ⟨rfl, leB rfl⟩ ?_ | refine sw_vg rfl (fun _ => rfl) trivial ?_ | refine sw_sk rfl rfl ?_
      refine SW.nil ?_
      rw [AH.push_set, hrn, List.nil_append, hz, set_at hal]
      refine ⟨⟨(i + 1, a ++ [c]), by dsimp only; omega, by simp [hal]; omega, da.append (Dig.cons hc Dig.nil), ?_⟩, by dsimp only; omega, ?_⟩
      · dsimp only
        rw [val_snoc, hal, take_getD, show xs.getD i 0 = xs[i] by simp [List.getD_eq_getElem?_getD, hlt]]
        rw [hrn, List.take_length] at hin
        simp only [val, Nat.add_zero] at hin
        rw [hin, hinv]; grind
      · exact le_sub (sub_cons rfl (sub_cons rfl (sub_cons rfl (sub_cons rfl (sub_cons rfl (sub_cons rfl (sub_nil _)))))))
  · have hin : i = xs.length := by simp at h; omega
    subst hin
    refine awp_exit ?_
    show AWp _ _ _ _ _ _
    refine awp_le (le_sub (sub_cons (t := 5) rfl (sub_nil _))) ?_
    rw [Nat.sub_self, show r ++ zeros 0 = r from List.append_nil r]
    refine awp_le (le_frz1 (AH.push_get _ _) (by simp [digV_length, hr])) ?_
    obtain ⟨w, hw, fw⟩ := fn_right r (.vs (digV r) (xs.length + ys.length)) (.inl (by simp [hr])) (by omega) ((H.push (.cells (digV r))).del H.next)
    refine awp_seq_sw ?_
    repeat first | refine swV (fun _ => rfl) ?_ | refine sw_l (fun _ => rfl) trivial ?_ | refine sw_ln (fun _ => rfl) ⟨rfl, leB rfl⟩ ?_ | refine sw_vg rfl (fun _ => rfl) trivial ?_ | refine sw_sk rfl rfl ?_
    refine sw_call rfl fw ?_
    repeat first | refine swV (fun _ => rfl) ?_ | refine sw_l (fun _ => rfl) trivial ?_ | refine sw_ln (fun _ => rfl) ⟨rfl, leB rfl⟩ ?_ | refine sw_vg rfl (fun _ => rfl) trivial ?_ | refine sw_sk rfl rfl ?_
    refine SW.nil (awp_ret ?_)
    refine ⟨.inr rfl, _, rfl, ⟨trim r, hw, dr.trim, trim_trim _, ?_⟩, ?_⟩
    · rw [val_trim, hinv, List.take_length]
    · intro b hb
      dsimp only
      rw [AH.get_del, if_neg (by omega), AH.push_lt hb]
end Iso
