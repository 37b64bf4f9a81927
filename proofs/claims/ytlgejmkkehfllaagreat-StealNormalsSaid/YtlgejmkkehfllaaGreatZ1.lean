import Derived.WalkKit
import Derived.OrdersIn
import Derived.RangeFuncNested
import Derived.RangeFuncCalls
import Derived.OwnWalkIn
import Derived.RangeFuncLeaves
/- The abstract layer, first part: values, heaps, what they say of a world of the model. Nothing of a program. -/
namespace Iso
open Go

/-- Values as the abstract layer sees them: a slice (or a pointer into one) that nobody writes is carried with its cells. -/
inductive V where
  | any
  | lit (v : Value)
  | ptr (b off : Nat)
  | hs (b off len sz : Nat)
  | vs (cs : List V) (len : Nat)
  | vp (cs : List V)
  | mp (b : Nat)
  | fn (f : Nat) (caps : List V)
  | agg (cs : List V)
  | tup (cs : List V)
  | yl (b : Nat)

inductive T where
  | v (x : V)
  | lp (t off : Nat)

inductive Blk where
  | cells (cs : List V)
  | map (es : List (V × V))
  | loop (C : Code → Code → Prop) (st : LoopState) (pe : Option Code) (ps : List Nat) (vs : List V)

structure AH where
  next : Nat
  get : Nat → Option Blk

def AH.set (H : AH) (b : Nat) (k : Blk) : AH := { H with get := fun i => if i = b then some k else H.get i }
def AH.del (H : AH) (b : Nat) : AH := { H with get := fun i => if i = b then none else H.get i }
def AH.push (H : AH) (k : Blk) : AH := { next := H.next + 1, get := fun i => if i = H.next then some k else H.get i }

theorem AH.get_push (H : AH) (k : Blk) (i : Nat) : (H.push k).get i = if i = H.next then some k else H.get i := rfl
theorem AH.get_del (H : AH) (b i : Nat) : (H.del b).get i = if i = b then none else H.get i := rfl
theorem AH.get_set (H : AH) (b : Nat) (k : Blk) (i : Nat) : (H.set b k).get i = if i = b then some k else H.get i := rfl
theorem AH.get_mv (H : AH) (b : Nat) (k : Blk) (i : Nat) : ((H.del b).push k).get i = if i = H.next then some k else if i = b then none else H.get i := rfl
theorem AH.next_mv (H : AH) (b : Nat) (k : Blk) : ((H.del b).push k).next = H.next + 1 := rfl
theorem AH.next_push (H : AH) (k : Blk) : (H.push k).next = H.next + 1 := rfl
theorem AH.next_del (H : AH) (b : Nat) : (H.del b).next = H.next := rfl
theorem AH.next_set (H : AH) (b : Nat) (k : Blk) : (H.set b k).next = H.next := rfl

/-- How the names of an abstract heap lie in a world: their blocks; the blocks that somebody else may write. -/
structure Rn where
  φ : Nat → Option Nat
  next : Nat
  Y : Nat → Prop

def Rn.imm (ρ : Rn) (w : World) (B : Nat) : Prop := B < w.heap.size ∧ ¬ ρ.Y B ∧ ∀ b, ρ.φ b ≠ some B

mutual
def VR (ρ : Rn) (w : World) : V → Value → Prop
  | .any, _ => True
  | .lit v, x => x = v
  | .ptr b o, x => b < ρ.next ∧ ∃ B, x = .pointer (some ⟨B, o, none⟩) ∧ ∀ B', ρ.φ b = some B' → B' = B
  | .hs b o n sz, x => b < ρ.next ∧ ∃ B o' cap, x = .slice (some ⟨B, o', none⟩) n cap ∧ (o' = o ∨ (n = 0 ∧ cap = 0)) ∧ n ≤ cap ∧ (∃ C e, w.heap[B]? = some (.cells C e (0, 0)) ∧ o + cap * sz ≤ C.size) ∧ ∀ B', ρ.φ b = some B' → B' = B
  | .vs cs n, x => ∃ B o cap, x = .slice (some ⟨B, o, none⟩) n cap ∧ n ≤ cap ∧ ρ.imm w B ∧ VRrow ρ w B o cs
  | .vp cs, x => ∃ B o, x = .pointer (some ⟨B, o, none⟩) ∧ ρ.imm w B ∧ VRrow ρ w B o cs
  | .mp b, x => b < ρ.next ∧ ∃ B, x = .map (some B) ∧ ∀ B', ρ.φ b = some B' → B' = B
  | .fn f caps, x => ∃ xs, x = .func (.func f) #[] xs ∧ VRs ρ w caps xs.toList
  | .agg cs, x => ∃ xs, x = .agg xs ∧ VRs ρ w cs xs.toList
  | .tup cs, x => ∃ xs, x = .tuple xs ∧ VRs ρ w cs xs.toList
  | .yl b, x => b < ρ.next ∧ ∃ B, x = .func (.yield B) #[] #[] ∧ ∀ B', ρ.φ b = some B' → B' = B
def VRs (ρ : Rn) (w : World) : List V → List Value → Prop
  | [], xs => xs = []
  | v :: vs, xs => ∃ x r, xs = x :: r ∧ VR ρ w v x ∧ VRs ρ w vs r
def VRrow (ρ : Rn) (w : World) (B : Nat) : Nat → List V → Prop
  | _, [] => True
  | o, v :: vs => (∃ x, w.cell? ⟨B, o, none⟩ = some x ∧ VR ρ w v x) ∧ VRrow ρ w B (o + 1) vs
end

theorem VR.ptr_at {ρ : Rn} {w : World} {b o B : Nat} {x : Value} (h : VR ρ w (.ptr b o) x) (hB : ρ.φ b = some B) : x = .pointer (some ⟨B, o, none⟩) := by
  simp only [VR] at h
  obtain ⟨_, B', h1, h2⟩ := h
  rw [h2 B hB]; exact h1
theorem VR.hs_at {ρ : Rn} {w : World} {b o n sz B : Nat} {x : Value} (h : VR ρ w (.hs b o n sz) x) (hB : ρ.φ b = some B) :
    ∃ o' cap, x = .slice (some ⟨B, o', none⟩) n cap ∧ (o' = o ∨ (n = 0 ∧ cap = 0)) ∧ n ≤ cap ∧ ∃ C e, w.heap[B]? = some (.cells C e (0, 0)) ∧ o + cap * sz ≤ C.size := by
  simp only [VR] at h
  obtain ⟨_, B', o', cap, h1, h2, h3, h4, h5⟩ := h
  rw [h5 B hB]; exact ⟨o', cap, h1, h2, h3, h4⟩
theorem VR.mp_at {ρ : Rn} {w : World} {b B : Nat} {x : Value} (h : VR ρ w (.mp b) x) (hB : ρ.φ b = some B) : x = .map (some B) := by
  simp only [VR] at h
  obtain ⟨_, B', h1, h2⟩ := h
  rw [h2 B hB]; exact h1
theorem VR.yl_at {ρ : Rn} {w : World} {b B : Nat} {x : Value} (h : VR ρ w (.yl b) x) (hB : ρ.φ b = some B) : x = .func (.yield B) #[] #[] := by
  simp only [VR] at h
  obtain ⟨_, B', h1, h2⟩ := h
  rw [h2 B hB]; exact h1
theorem one_name {ρ : Rn} {b B : Nat} (hB : ρ.φ b = some B) : ∀ B', ρ.φ b = some B' → B' = B := fun B' h => by rw [hB] at h; cases h; rfl

theorem VR.hs_mk {ρ : Rn} {w : World} {b o n sz B : Nat} {x : Value} (h0 : b < ρ.next) (hB : ρ.φ b = some B)
    (h : ∃ o' cap, x = .slice (some ⟨B, o', none⟩) n cap ∧ (o' = o ∨ (n = 0 ∧ cap = 0)) ∧ n ≤ cap ∧ ∃ C e, w.heap[B]? = some (.cells C e (0, 0)) ∧ o + cap * sz ≤ C.size) : VR ρ w (.hs b o n sz) x := by
  obtain ⟨o', cap, h1, h2, h3, h4⟩ := h
  simp only [VR]
  exact ⟨h0, B, o', cap, h1, h2, h3, h4, one_name hB⟩

structure Keep (ρ : Rn) (w : World) (ρ' : Rn) (w' : World) : Prop where
  next : ρ.next ≤ ρ'.next
  names : ∀ b B, b < ρ.next → ρ'.φ b = some B → ρ.φ b = some B
  imm : ∀ B, ρ.imm w B → ρ'.imm w' B ∧ w'.heap[B]? = w.heap[B]?
  shape : ∀ (B : Nat) (C : Array Value) (e : TypeId), w.heap[B]? = some (Obj.cells C e (0, 0)) → ∃ C' : Array Value, w'.heap[B]? = some (Obj.cells C' e (0, 0)) ∧ C'.size = C.size

theorem Keep.refl (ρ : Rn) (w : World) : Keep ρ w ρ w := ⟨Nat.le_refl _, fun _ _ _ h => h, fun _ h => ⟨h, rfl⟩, fun _ C _ h => ⟨C, h, rfl⟩⟩

theorem cell_of_heap {w w' : World} {B : Nat} (h : w'.heap[B]? = w.heap[B]?) (o : Nat) : w'.cell? ⟨B, o, none⟩ = w.cell? ⟨B, o, none⟩ := by
  simp [World.cell?, h]

mutual
theorem VR.keep {ρ ρ' : Rn} {w w' : World} (k : Keep ρ w ρ' w') : ∀ (v : V) (x : Value), VR ρ w v x → VR ρ' w' v x
  | .any, _, _ => by simp [VR]
  | .lit v, x, h => by simpa [VR] using h
  | .ptr b o, x, h => by
    simp only [VR] at h ⊢
    obtain ⟨h0, B, h1, h2⟩ := h
    exact ⟨Nat.lt_of_lt_of_le h0 k.next, B, h1, fun B' hB => h2 B' (k.names b B' h0 hB)⟩
  | .hs b o n sz, x, h => by
    simp only [VR] at h ⊢
    obtain ⟨h0, B, o', cap, hx, ho, hn, ⟨C, e, hC, hs⟩, h2⟩ := h
    obtain ⟨C', hC', hsz⟩ := k.shape B C e hC
    exact ⟨Nat.lt_of_lt_of_le h0 k.next, B, o', cap, hx, ho, hn, ⟨C', e, hC', by rw [hsz]; exact hs⟩, fun B' hB => h2 B' (k.names b B' h0 hB)⟩
  | .vs cs n, x, h => by
    simp only [VR] at h ⊢
    obtain ⟨B, o, cap, hx, hn, hi, hr⟩ := h
    exact ⟨B, o, cap, hx, hn, (k.imm B hi).1, VRrow.keep k cs B o (k.imm B hi).2 hr⟩
  | .vp cs, x, h => by
    simp only [VR] at h ⊢
    obtain ⟨B, o, hx, hi, hr⟩ := h
    exact ⟨B, o, hx, (k.imm B hi).1, VRrow.keep k cs B o (k.imm B hi).2 hr⟩
  | .mp b, x, h => by
    simp only [VR] at h ⊢
    obtain ⟨h0, B, h1, h2⟩ := h
    exact ⟨Nat.lt_of_lt_of_le h0 k.next, B, h1, fun B' hB => h2 B' (k.names b B' h0 hB)⟩
  | .fn f caps, x, h => by
    simp only [VR] at h ⊢
    obtain ⟨xs, hx, hr⟩ := h
    exact ⟨xs, hx, VRs.keep k caps _ hr⟩
  | .agg cs, x, h => by
    simp only [VR] at h ⊢
    obtain ⟨xs, hx, hr⟩ := h
    exact ⟨xs, hx, VRs.keep k cs _ hr⟩
  | .tup cs, x, h => by
    simp only [VR] at h ⊢
    obtain ⟨xs, hx, hr⟩ := h
    exact ⟨xs, hx, VRs.keep k cs _ hr⟩
  | .yl b, x, h => by
    simp only [VR] at h ⊢
    obtain ⟨h0, B, h1, h2⟩ := h
    exact ⟨Nat.lt_of_lt_of_le h0 k.next, B, h1, fun B' hB => h2 B' (k.names b B' h0 hB)⟩
theorem VRs.keep {ρ ρ' : Rn} {w w' : World} (k : Keep ρ w ρ' w') : ∀ (vs : List V) (xs : List Value), VRs ρ w vs xs → VRs ρ' w' vs xs
  | [], xs, h => by simpa [VRs] using h
  | v :: vs, xs, h => by
    simp only [VRs] at h ⊢
    obtain ⟨x, r, hx, h1, h2⟩ := h
    exact ⟨x, r, hx, VR.keep k v x h1, VRs.keep k vs r h2⟩
theorem VRrow.keep {ρ ρ' : Rn} {w w' : World} (k : Keep ρ w ρ' w') : ∀ (vs : List V) (B o : Nat), w'.heap[B]? = w.heap[B]? → VRrow ρ w B o vs → VRrow ρ' w' B o vs
  | [], _, _, _, _ => by simp [VRrow]
  | v :: vs, B, o, hB, h => by
    simp only [VRrow] at h ⊢
    obtain ⟨⟨x, hx, h1⟩, h2⟩ := h
    exact ⟨⟨x, (cell_of_heap hB o).trans hx, VR.keep k v x h1⟩, VRrow.keep k vs B (o + 1) hB h2⟩
end

theorem VRs.length {ρ : Rn} {w : World} : ∀ {vs : List V} {xs : List Value}, VRs ρ w vs xs → xs.length = vs.length
  | [], _, h => by simp only [VRs] at h; simp [h]
  | _ :: _, _, h => by
    simp only [VRs] at h
    obtain ⟨x, r, rfl, _, h2⟩ := h
    simp [VRs.length h2]

theorem VRs.get {ρ : Rn} {w : World} : ∀ {vs : List V} {xs : List Value}, VRs ρ w vs xs → ∀ (i : Nat) (v : V), vs[i]? = some v → ∃ x, xs[i]? = some x ∧ VR ρ w v x
  | [], _, _, i, v, hv => by simp at hv
  | u :: vs, _, h, i, v, hv => by
    simp only [VRs] at h
    obtain ⟨x, r, rfl, h1, h2⟩ := h
    cases i with
    | zero => simp at hv; subst hv; exact ⟨x, by simp, h1⟩
    | succ i => simp at hv; obtain ⟨y, hy, hr⟩ := VRs.get h2 i v hv; exact ⟨y, by simpa using hy, hr⟩

theorem VRs.of_get {ρ : Rn} {w : World} : ∀ {vs : List V} {xs : List Value}, xs.length = vs.length → (∀ (i : Nat) (v : V), vs[i]? = some v → ∃ x, xs[i]? = some x ∧ VR ρ w v x) → VRs ρ w vs xs
  | [], xs, hl, _ => by simp only [VRs]; exact List.eq_nil_of_length_eq_zero (by simpa using hl)
  | u :: vs, [], hl, _ => by simp at hl
  | u :: vs, x :: xs, hl, h => by
    simp only [VRs]
    refine ⟨x, xs, rfl, ?_, VRs.of_get (by simpa using hl) fun i v hv => ?_⟩
    · obtain ⟨y, hy, hr⟩ := h 0 u (by simp); simp at hy; subst hy; exact hr
    · obtain ⟨y, hy, hr⟩ := h (i + 1) v (by simpa using hv); exact ⟨y, by simpa using hy, hr⟩

theorem VRs.append {ρ : Rn} {w : World} {vs us : List V} {xs ys : List Value} (h : VRs ρ w vs xs) (k : VRs ρ w us ys) : VRs ρ w (vs ++ us) (xs ++ ys) := by
  have hl := h.length
  have hl2 := k.length
  refine VRs.of_get (by simp [hl, hl2]) fun i v hv => ?_
  by_cases hi : i < vs.length
  · rw [List.getElem?_append_left hi] at hv
    obtain ⟨x, hx, hr⟩ := h.get i v hv
    exact ⟨x, by rw [List.getElem?_append_left (by omega)]; exact hx, hr⟩
  · rw [List.getElem?_append_right (by omega)] at hv
    obtain ⟨x, hx, hr⟩ := k.get _ v hv
    exact ⟨x, by rw [List.getElem?_append_right (by omega), hl]; exact hx, hr⟩

theorem VRs.drop {ρ : Rn} {w : World} {vs : List V} {xs : List Value} (h : VRs ρ w vs xs) (n : Nat) : VRs ρ w (vs.drop n) (xs.drop n) :=
  VRs.of_get (by simp [h.length]) fun i v hv => by
    rw [List.getElem?_drop] at hv ⊢
    exact h.get _ v hv

theorem VRs.take {ρ : Rn} {w : World} {vs : List V} {xs : List Value} (h : VRs ρ w vs xs) (n : Nat) : VRs ρ w (vs.take n) (xs.take n) :=
  VRs.of_get (by simp [h.length]) fun i v hv => by
    rw [List.getElem?_take] at hv ⊢
    split at hv
    · rename_i hi; rw [if_pos hi]; exact h.get _ v hv
    · simp at hv

theorem VRrow.get {ρ : Rn} {w : World} {B : Nat} : ∀ {vs : List V} {o : Nat}, VRrow ρ w B o vs → ∀ (i : Nat) (v : V), vs[i]? = some v → ∃ x, w.cell? ⟨B, o + i, none⟩ = some x ∧ VR ρ w v x
  | [], _, _, i, v, hv => by simp at hv
  | u :: vs, o, h, i, v, hv => by
    simp only [VRrow] at h
    obtain ⟨⟨x, hx, h1⟩, h2⟩ := h
    cases i with
    | zero => simp at hv; subst hv; exact ⟨x, hx, h1⟩
    | succ i =>
      simp at hv
      obtain ⟨y, hy, hr⟩ := VRrow.get h2 i v hv
      exact ⟨y, by rw [show o + (i + 1) = o + 1 + i by omega]; exact hy, hr⟩

theorem VRrow.of_get {ρ : Rn} {w : World} {B : Nat} : ∀ {vs : List V} {o : Nat}, (∀ (i : Nat) (v : V), vs[i]? = some v → ∃ x, w.cell? ⟨B, o + i, none⟩ = some x ∧ VR ρ w v x) → VRrow ρ w B o vs
  | [], _, _ => by simp [VRrow]
  | u :: vs, o, h => by
    simp only [VRrow]
    refine ⟨?_, VRrow.of_get fun i v hv => ?_⟩
    · obtain ⟨x, hx, hr⟩ := h 0 u (by simp); exact ⟨x, hx, hr⟩
    · obtain ⟨x, hx, hr⟩ := h (i + 1) v (by simpa using hv); exact ⟨x, by rw [show o + 1 + i = o + (i + 1) by omega]; exact hx, hr⟩

theorem VRrow.drop {ρ : Rn} {w : World} {B o : Nat} {vs : List V} (h : VRrow ρ w B o vs) (n : Nat) : VRrow ρ w B (o + n) (vs.drop n) :=
  VRrow.of_get fun i v hv => by
    rw [List.getElem?_drop] at hv
    rw [show o + n + i = o + (n + i) by omega]
    exact h.get _ v hv

theorem VRrow.take {ρ : Rn} {w : World} {B o : Nat} {vs : List V} (h : VRrow ρ w B o vs) (n : Nat) : VRrow ρ w B o (vs.take n) :=
  VRrow.of_get fun i v hv => by
    rw [List.getElem?_take] at hv
    split at hv
    · exact h.get _ v hv
    · simp at hv

/-- The cells that a row tells, as a list of values. -/
theorem VRrow.list {ρ : Rn} {w : World} {B : Nat} : ∀ {vs : List V} {o : Nat}, VRrow ρ w B o vs → ∃ xs, VRs ρ w vs xs ∧ ∀ j v, xs[j]? = some v → w.cell? ⟨B, o + j, none⟩ = some v
  | [], _, _ => ⟨[], by simp [VRs], fun j v hv => by simp at hv⟩
  | u :: vs, o, h => by
    simp only [VRrow] at h
    obtain ⟨⟨x, hx, h1⟩, h2⟩ := h
    obtain ⟨xs, hr, hc⟩ := VRrow.list h2
    refine ⟨x :: xs, by simp only [VRs]; exact ⟨x, xs, rfl, h1, hr⟩, fun j v hv => ?_⟩
    cases j with
    | zero => simp at hv; subst hv; exact hx
    | succ j => simp at hv; rw [show o + (j + 1) = o + 1 + j by omega]; exact hc j v hv

end Iso

/- The abstract layer, second part: instructions, how operations become instructions, what an instruction does to an abstract state. Nothing of a program. -/
namespace Iso
open Go

abbrev Env := List (Nat × T)
def Env.get : Env → Nat → T
  | [], _ => .v .any
  | (s, x) :: r, t => if s = t then x else Env.get r t
def Env.del : Env → Nat → Env
  | [], _ => []
  | (s, x) :: r, t => if s = t then Env.del r t else (s, x) :: Env.del r t
def Env.put (A : Env) (t : Nat) (x : T) : Env := (t, x) :: A
def Env.put? (A : Env) : Option Nat → T → Env
  | some t, x => A.put t x
  | none, _ => A
def T.kill (d : Nat) : T → T
  | .v x => .v x
  | .lp t o => if t = d then .v .any else .lp t o
def Env.kill (d : Nat) : Env → Env
  | [] => []
  | (s, x) :: r => (s, x.kill d) :: Env.kill d r

abbrev Loc := List (Nat × List V)
def Loc.get : Loc → Nat → Option (List V)
  | [], _ => none
  | (s, x) :: r, t => if s = t then some x else Loc.get r t
def Loc.del : Loc → Nat → Loc
  | [], _ => []
  | (s, x) :: r, t => if s = t then Loc.del r t else (s, x) :: Loc.del r t
def Loc.put (L : Loc) (t : Nat) (x : List V) : Loc := (t, x) :: L

inductive Opd where
  | t (n : Nat)
  | k (v : V)

def Opd.ev (A : Env) : Opd → T
  | .t n => A.get n
  | .k v => .v v

def T.val : T → Option V
  | .v x => some x
  | .lp _ _ => none

def evs (A : Env) : List Opd → Option (List V)
  | [] => some []
  | o :: r => match o.ev A with
    | .v x => match evs A r with | some l => some (x :: l) | none => none
    | .lp _ _ => none

inductive I where
  | mv (x : Opd)
  | pick (c a b : Opd)
  | new (z : List V)
  | box (x : Opd)
  | bld (z : List V) (ps : List (Nat × Nat × Opd))
  | bsl (n sz : Nat) (z : List V) (ps : List (Nat × Nat × Opd))
  | ld (ag : Bool) (sz : Nat) (x : Opd)
  | st (sz : Nat) (a x : Opd)
  | nck (x : Opd)
  | bin (op : BinOp) (x y : Opd)
  | eqc (neg : Bool) (ks : List Bool) (x y : Opd)
  | eqb (neg : Bool) (x y : Opd)
  | eqn (neg : Bool) (x y : Opd)
  | un (op : UnOp) (x : Opd)
  | cv (k : IntKind) (x : Opd)
  | mkf (f : Nat) (caps : List Opd)
  | mkm
  | mks (sz bytes : Nat) (z : List V) (l c : Opd)
  | sls (sz : Nat) (x : Opd) (lo hi : Option Opd)
  | sla (n sz : Nat) (x : Opd) (lo hi : Option Opd)
  | fad (off : Nat) (x : Opd)
  | iad (sz : Nat) (x i : Opd)
  | iaa (n sz : Nat) (x i : Opd)
  | ixa (n sz : Nat) (ag : Bool) (x i : Opd)
  | fld (off sz : Nat) (ag : Bool) (x : Opd)
  | ixs (bs : List Nat) (x : Opd)
  | lku (kk : Option (List Bool)) (z : V) (ok : Bool) (m k : Opd)
  | mup (kk : Option (List Bool)) (m k x : Opd)
  | ext (x : Opd) (i : Nat)
  | len (x : Opd)
  | lenm (x : Opd)
  | mnx (max : Bool) (xs : List Opd)
  | app (sz bytes : Nat) (x y : Opd)
  | cpy (sz : Nat) (x y : Opd)
  | dele (kk : Option (List Bool)) (m k : Opd)
  | adc (x y c : Opd)
  | sbb (x y c : Opd)
  | call (f : Nat) (args : List Opd)
  | callv (f : Opd) (args : List Opd)

structure CI where
  dst : Option Nat
  guard : Option (Nat × Bool)
  i : I

/-! ### Operations become instructions -/
def flat : Value → Bool
  | .bool _ | .int _ _ | .string _ | .pointer none | .slice _ 0 0 | .map none | .nilFunc | .nilIface => true
  | _ => false
def toVs : List Value → Option (List V)
  | [] => some []
  | x :: r => if flat x then (match toVs r with | some l => some (.lit x :: l) | none => none) else none
def toV : Value → Option V
  | .agg cs => (toVs cs.toList).map .agg
  | .func (.func f) fs cs => if fs.isEmpty && cs.isEmpty then some (.fn f []) else none
  | x => if flat x then some (.lit x) else none
def cOpd : Operand → Option Opd
  | .tmp t => some (.t t)
  | .const v => (toV v).map .k
  | .global _ => none
  | .func f => some (.k (.fn f []))
def cOpds : List Operand → Option (List Opd)
  | [] => some []
  | x :: r => do pure ((← cOpd x) :: (← cOpds r))
def cOpt : Option Operand → Option (Option Opd)
  | none => some none
  | some x => do pure (some (← cOpd x))
def sizeOf? (P : Program) (t : TypeId) : Option Nat := (P.info? t).map (·.size)
def isAgg? (P : Program) (t : TypeId) : Option Bool := (P.underlying t).map fun | .struct _ | .array _ _ => true | _ => false
def zero? (P : Program) (t : TypeId) : Option (List V) := do toVs (← (← P.info? t).zero).cells.toList
def zeroV? (P : Program) (t : TypeId) : Option V := do toV (← (← P.info? t).zero)
def cParts (place : Nat → Option (Nat × Nat)) : List (Nat × Operand) → Option (List (Nat × Nat × Opd))
  | [] => some []
  | (i, x) :: r => do
    let (off, sz) ← place i
    pure ((off, sz, ← cOpd x) :: (← cParts place r))
def rep (z : List V) : Nat → List V
  | 0 => []
  | n + 1 => z ++ rep z n
/-- A struct (an array) of whole numbers and bools alone, that is compared cell by cell. -/
def plainFields (P : Program) : Nat → List Field → Option (List Bool)
  | _, [] => some []
  | n, f :: r =>
    if f.name != "_" && f.offset == n then
      match P.underlying f.type with
      | some (.int _) => (plainFields P (n + 1) r).map (true :: ·)
      | some .bool => (plainFields P (n + 1) r).map (false :: ·)
      | _ => none
    else none
def plainStruct (P : Program) (t : TypeId) : Option (List Bool) :=
  if !P.stoodInHeld t && !P.eqGuardType P.depth t then
    match P.underlying t with
    | some (.struct fs) => plainFields P 0 fs.toList
    | _ => none
  else none
/-- A map's keys: whole numbers (none), or structs of whole numbers (true) and bools (false). -/
def keyKind (P : Program) (t : TypeId) : Option (Option (List Bool)) :=
  match P.underlying t with
  | some (.int _) => some none
  | some (.struct _) => (plainStruct P t).map some
  | _ => none

def places (P : Program) : List Field → Option (List (Nat × Nat))
  | [] => some []
  | f :: r => match sizeOf? P f.type with
    | some n => (places P r).map ((f.offset, n) :: ·)
    | none => none

def fnNamed (P : Program) (f : Nat) (s : String) : Bool :=
  match P.funcs[f]? with
  | some fn => fn.name == s && fn.body.isNone && !(fn.name == "runtime.NumGoroutine") && (Extern.findNext fn).isNone
  | none => false
def hasBody (P : Program) (f : Nat) : Bool :=
  match P.funcs[f]? with
  | some fn => fn.body.isSome && !(fn.name == "runtime.NumGoroutine")
  | none => false

def comp (P : Program) (o : Oper) : Option I :=
  match o.op with
  | .move x | .assign x => do pure (.mv (← cOpd x))
  | .pick c a b => do pure (.pick (← cOpd c) (← cOpd a) (← cOpd b))
  | .alloc e => do pure (.new (← zero? P e))
  | .box _ x => do pure (.box (← cOpd x))
  | .build t ps => do
    let z ← zero? P t
    match ← P.underlying t with
    | .struct fs => do
      let pl ← places P fs.toList
      pure (.bld z (← cParts (pl[·]?) ps.toList))
    | .array _ e => do
      let s ← sizeOf? P e
      pure (.bld z (← cParts (fun i => some (i * s, s)) ps.toList))
    | _ => none
  | .buildSlice t n ps => do
    let .slice e ← P.underlying t | none
    let s ← sizeOf? P e
    let z ← zero? P e
    if n * s > 2 ^ 24 ∨ n * s = 0 ∨ z.length ≠ s then none else
    pure (.bsl n s z (← cParts (fun i => some (i * s, s)) ps.toList))
  | .load t a => do pure (.ld (← isAgg? P t) (← sizeOf? P t) (← cOpd a))
  | .store t a x => do pure (.st (← sizeOf? P t) (← cOpd a) (← cOpd x))
  | .nilCheck x => do pure (.nck (← cOpd x))
  | .binOp op t x y _ => do
    let x ← cOpd x
    let y ← cOpd y
    match op, ← P.underlying t with
    | _, .int _ => pure (.bin op x y)
    | .eql, .bool => pure (.eqb false x y)
    | .neq, .bool => pure (.eqb true x y)
    | .eql, .pointer _ => pure (.eqn false x y)
    | .neq, .pointer _ => pure (.eqn true x y)
    | .eql, .struct _ => do pure (.eqc false (← plainStruct P t) x y)
    | .neq, .struct _ => do pure (.eqc true (← plainStruct P t) x y)
    | _, _ => none
  | .unOp op _ x => do pure (.un op (← cOpd x))
  | .convert s d x => do
    let .int _ ← P.underlying s | none
    let .int k ← P.underlying d | none
    pure (.cv k (← cOpd x))
  | .makeFunc (.func f) fs cs => if fs.isEmpty then do pure (.mkf f (← cOpds cs.toList)) else none
  | .makeMap t r => if r.isNone then (match P.underlying t with | some (.map _ _) => some .mkm | _ => none) else none
  | .makeSlice t l c => do
    let .slice e ← P.underlying t | none
    let i ← P.info? e
    let z ← zero? P e
    if z.length ≠ i.size ∨ i.size = 0 then none else
    pure (.mks i.size i.bytes z (← cOpd l) (← cOpd c))
  | .slice t x lo hi none => do
    let x ← cOpd x
    let lo ← cOpt lo
    let hi ← cOpt hi
    match ← P.underlying t with
    | .slice e => do pure (.sls (← sizeOf? P e) x lo hi)
    | .array n e => do pure (.sla n (← sizeOf? P e) x lo hi)
    | _ => none
  | .fieldAddr s x f => do
    let .struct fs ← P.underlying s | none
    let fd ← fs[f]?
    let sz ← sizeOf? P fd.type
    if sz = 0 then none else pure (.fad fd.offset (← cOpd x))
  | .indexAddr t x i => do
    let x ← cOpd x
    let i ← cOpd i
    match ← P.underlying t with
    | .slice e => do pure (.iad (← sizeOf? P e) x i)
    | .array n e => do pure (.iaa n (← sizeOf? P e) x i)
    | _ => none
  | .index t x i => do
    match ← P.underlying t with
    | .array n e => pure (.ixa n (← sizeOf? P e) (← isAgg? P e) (← cOpd x) (← cOpd i))
    | .string =>
      match x with
      | .const (.string s) => pure (.ixs (s.data.toList.map UInt8.toNat) (← cOpd i))
      | _ => none
    | _ => none
  | .field t x f => do
    let .struct fs ← P.underlying t | none
    let fd ← fs[f]?
    pure (.fld fd.offset (← sizeOf? P fd.type) (← isAgg? P fd.type) (← cOpd x))
  | .lookup t m k ok => do
    let .map kt e ← P.underlying t | none
    pure (.lku (← keyKind P kt) (← zeroV? P e) ok (← cOpd m) (← cOpd k))
  | .mapUpdate t m k x | .insert t m k x => do
    let .map kt _ ← P.underlying t | none
    pure (.mup (← keyKind P kt) (← cOpd m) (← cOpd k) (← cOpd x))
  | .extract x i => do pure (.ext (← cOpd x) i)
  | .call c =>
    match c.callee with
    | .value (.func f) => do
      let args ← cOpds c.args.toList
      if hasBody P f then pure (.call f args)
      else match args with
        | [x, y, z] => if fnNamed P f "math/bits.Add64" then pure (.adc x y z) else if fnNamed P f "math/bits.Sub64" then pure (.sbb x y z) else none
        | _ => none
    | .value f => do pure (.callv (← cOpd f) (← cOpds c.args.toList))
    | .builtin .len => do
      let t ← c.argTypes[0]?
      match ← P.underlying t, c.args.toList with
      | .slice _, [x] => do pure (.len (← cOpd x))
      | .map _ _, [x] => do pure (.lenm (← cOpd x))
      | _, _ => none
    | .builtin .min => do pure (.mnx false (← cOpds c.args.toList))
    | .builtin .max => do pure (.mnx true (← cOpds c.args.toList))
    | .builtin .append =>
      match c.argTypes.toList, c.args.toList with
      | [t, u], [x, y] => do
        let .slice e ← P.underlying t | none
        let i ← P.info? e
        let z ← zero? P e
        if z.length ≠ i.size ∨ i.size = 0 ∨ u ≠ t then none else
        pure (.app i.size i.bytes (← cOpd x) (← cOpd y))
      | _, _ => none
    | .builtin .copy => do
      let t ← c.argTypes[0]?
      let .slice e ← P.underlying t | none
      match c.args.toList with
      | [x, y] => do pure (.cpy (← sizeOf? P e) (← cOpd x) (← cOpd y))
      | _ => none
    | .builtin .delete => do
      let t ← c.argTypes[0]?
      let .map kt _ ← P.underlying t | none
      match c.args.toList with
      | [m, k] => do pure (.dele (← keyKind P kt) (← cOpd m) (← cOpd k))
      | _ => none
    | _ => none
  | _ => none

def isCallOp : Op → Bool
  | .call _ => true
  | _ => false
def callI : I → Bool
  | .call _ _ => true
  | .callv _ _ => true
  | _ => false
def comp1 (P : Program) (o : Oper) : Option I := match comp P o with
  | some i => if callI i && !isCallOp o.op then none else some i
  | none => none
def compCI (P : Program) (ops : Array Oper) (o : Oper) : Option CI := do
  let i ← comp1 P o
  match o.guard with
  | none => pure ⟨o.dst, none, i⟩
  | some (j, want) => do
    let oj ← ops[j]?
    let t ← oj.dst
    pure ⟨o.dst, some (t, want), i⟩
def compOps (P : Program) (ops : Array Oper) : List Oper → Option (List CI)
  | [] => some []
  | o :: r => do pure ((← compCI P ops o) :: (← compOps P ops r))

/-! ### What an instruction does -/
def V.one (H : AH) : V → Bool
  | .any => false
  | .lit v => flat v
  | .ptr _ _ => true
  | .hs _ _ _ _ => true
  | .vs _ _ => true
  | .vp _ => true
  | .mp _ => true
  | .fn _ _ => true
  | .agg _ => false
  | .tup _ => false
  | .yl _ => true
def V.ones (H : AH) : List V → Bool
  | [] => true
  | v :: r => v.one H && V.ones H r
/-- The cells that a value fills. -/
def V.cells? (H : AH) (x : V) : Option (List V) :=
  match x with
  | .agg cs => if V.ones H cs then some cs else none
  | v => if v.one H then some [v] else none
def splice (cs : List V) (o : Nat) (l : List V) : List V := cs.take o ++ l ++ cs.drop (o + l.length)
def rd (ag : Bool) (sz : Nat) (cs : List V) : Option V :=
  if ag then (if sz ≤ cs.length then some (.agg (cs.take sz)) else none) else cs.head?
def fillA (A : Env) (H : AH) : List (Nat × Nat × Opd) → List V → Option (List V)
  | [], cs => some cs
  | (off, sz, x) :: r, cs =>
    match x.ev A with
    | .v x => match x.cells? H with
      | some l => if l.length = sz ∧ off + sz ≤ cs.length then fillA A H r (splice cs off l) else none
      | none => none
    | .lp _ _ => none

def binI (op : BinOp) (k : IntKind) (a b : Int) : Option Value :=
  match op with
  | .add => some (.int k (k.wrap (a + b)))
  | .sub => some (.int k (k.wrap (a - b)))
  | .mul => some (.int k (k.wrap (a * b)))
  | .quo => if b = 0 then none else some (.int k (k.wrap (a.tdiv b)))
  | .rem => if b = 0 then none else some (.int k (a.tmod b))
  | .and => some (.int k (k.wrap (BitVec.ofInt k.bits a &&& BitVec.ofInt k.bits b).toNat))
  | .or => some (.int k (k.wrap (BitVec.ofInt k.bits a ||| BitVec.ofInt k.bits b).toNat))
  | .xor => some (.int k (k.wrap (BitVec.ofInt k.bits a ^^^ BitVec.ofInt k.bits b).toNat))
  | .andNot => some (.int k (k.wrap (BitVec.ofInt k.bits a &&& ~~~(BitVec.ofInt k.bits b)).toNat))
  | .eql => some (.bool (a == b))
  | .neq => some (.bool (a != b))
  | .lss => some (.bool (a < b))
  | .leq => some (.bool (a ≤ b))
  | .gtr => some (.bool (a > b))
  | .geq => some (.bool (a ≥ b))
  | _ => none
def shI (op : BinOp) (k : IntKind) (a b : Int) : Option Value :=
  if b < 0 then none else
  match op with
  | .shl => some (.int k (k.wrap (a * 2 ^ (min b.toNat k.bits))))
  | .shr => some (.int k (a.fdiv (2 ^ (min b.toNat k.bits))))
  | _ => none
def isSh : BinOp → Bool
  | .shl | .shr => true
  | _ => false
def binV (op : BinOp) : V → V → Option V
  | .lit (.int k a), .lit (.int k' b) => if isSh op then (shI op k a b).map .lit else if k = k' then (binI op k a b).map .lit else none
  | _, _ => none
def eqV : Bool → V → V → Option Bool
  | true, .lit (.int k a), .lit (.int k' b) => if k = k' then some (a == b) else none
  | false, .lit (.bool a), .lit (.bool b) => some (a == b)
  | _, _, _ => none
def eqVs : List Bool → List V → List V → Option Bool
  | [], [], [] => some true
  | k :: ks, x :: r, y :: s => match eqV k x y with
    | some true => eqVs ks r s
    | some false => match eqVs ks r s with | some _ => some false | none => none
    | none => none
  | _, _, _ => none
def eqA : Option (List Bool) → V → V → Option Bool
  | some ks, .agg xs, .agg ys => eqVs ks xs ys
  | none, x, y => eqV true x y
  | _, _, _ => none
/-- Against nil. -/
def eqN (H : AH) : V → V → Option Bool
  | .lit (.pointer none), .lit (.pointer none) => some true
  | .ptr _ _, .lit (.pointer none) => some false
  | .vp _, .lit (.pointer none) => some false
  | _, _ => none
def unV : UnOp → V → Option V
  | .neg, .lit (.int k n) => some (.lit (.int k (k.wrap (0 - n))))
  | .xor, .lit (.int k n) => some (.lit (.int k (k.wrap (BitVec.ofInt k.bits (if k.signed then -1 else k.max) ^^^ BitVec.ofInt k.bits n).toNat)))
  | .not, .lit (.bool b) => some (.lit (.bool !b))
  | _, _ => none
def intOfV : V → Option Int
  | .lit (.int _ n) => some n
  | _ => none
/-- A slice's length, and its cells as they are now. -/
def slLen : V → Option Nat
  | .lit (.slice _ 0 0) => some 0
  | .hs _ _ n _ => some n
  | .vs _ n => some n
  | _ => none
def slCells (H : AH) (sz : Nat) : V → Option (List V)
  | .lit (.slice _ 0 0) => some []
  | .hs b o n s => if s = sz then (match H.get b with | some (.cells cs) => if o + n * sz ≤ cs.length then some ((cs.drop o).take (n * sz)) else none | _ => none) else none
  | .vs cs n => if cs.length = n * sz then some cs else none
  | _ => none
def bound (A : Env) (dflt : Nat) (top : Nat) : Option Opd → Option Nat
  | none => some dflt
  | some x => match x.ev A with
    | .v (.lit (.int _ i)) => if 0 ≤ i ∧ i ≤ top then some i.toNat else none
    | _ => none
def slV (H : AH) (sz l h : Nat) : V → Option V
  | .lit (.slice none 0 0) => some (.lit (.slice none 0 0))
  | .hs b o _ s => if s = sz then some (.hs b (o + l * sz) (h - l) sz) else none
  | .vs cs n => if cs.length = n * sz then some (.vs ((cs.drop (l * sz)).take ((h - l) * sz)) (h - l)) else none
  | _ => none
/-- Where a key stands; none: some key can't be held against it. -/
def midx (kk : Option (List Bool)) (k : V) : List (V × V) → Option (Option Nat)
  | [] => some none
  | (q, _) :: r => match eqA kk k q with
    | some true => some (some 0)
    | some false => (midx kk k r).map (·.map (· + 1))
    | none => none
def mfind (kk : Option (List Bool)) (k : V) (es : List (V × V)) : Option (Option V) :=
  match midx kk k es with
  | some (some i) => some ((es[i]?).map (·.2))
  | some none => some none
  | none => none
def mput (kk : Option (List Bool)) (k x : V) (es : List (V × V)) : Option (List (V × V)) :=
  match midx kk k es with
  | some (some i) => some (es.set i (k, x))
  | some none => some (es ++ [(k, x)])
  | none => none
def mdel (kk : Option (List Bool)) (k : V) (es : List (V × V)) : Option (List (V × V)) :=
  match midx kk k es with
  | some (some i) => some (es.eraseIdx i)
  | some none => some es
  | none => none
def plainKey (kk : Option (List Bool)) (k : V) : Bool := (eqA kk k k).isSome
def mnV (mx : Bool) : V → List V → Option V
  | x, [] => some x
  | .lit (.int k a), .lit (.int _ b) :: r => mnV mx (.lit (.int k (if mx then (if b > a then b else a) else (if b < a then b else a)))) r
  | _, _ => none

/-- What is left of temporaries, local variables, heap: the value, and all three. -/
structure St where
  A : Env
  L : Loc
  H : AH

def vres (s : St) (x : Option V) : Option (T × St) := x.map fun v => (.v v, s)

def aop (G : List Nat) (d : Option Nat) (i : I) (s : St) : Option (T × St) :=
  match i with
  | .mv x => some (x.ev s.A, s)
  | .pick c a b => match c.ev s.A with
    | .v (.lit (.bool true)) => some (a.ev s.A, s)
    | .v (.lit (.bool false)) => some (b.ev s.A, s)
    | _ => none
  | .new z => match d with
    | none => none
    | some d => if G.contains d then some (.v (.ptr s.H.next 0), { s with H := s.H.push (.cells z) })
      else some (.lp d 0, { s with A := s.A.kill d, L := s.L.put d z })
  | .box x => match d, x.ev s.A with
    | some d, .v x => match x.cells? s.H with
      | some z => if G.contains d then some (.v (.ptr s.H.next 0), { s with H := s.H.push (.cells z) })
        else some (.lp d 0, { s with A := s.A.kill d, L := s.L.put d z })
      | none => none
    | _, _ => none
  | .bld z ps => vres s ((fillA s.A s.H ps z).map .agg)
  | .bsl n sz z ps => match fillA s.A s.H ps (rep z n) with
    | some cs => match d with
      | none => none
      | some d => if G.contains d then some (.v (.hs s.H.next 0 n sz), { s with H := s.H.push (.cells cs) }) else some (.v (.vs cs n), s)
    | none => none
  | .ld ag sz x => match x.ev s.A with
    | .lp t o => match s.L.get t with | some cs => vres s (rd ag sz (cs.drop o)) | none => none
    | .v (.ptr b o) => match s.H.get b with | some (.cells cs) => vres s (rd ag sz (cs.drop o)) | _ => none
    | .v (.vp cs) => vres s (rd ag sz cs)
    | _ => none
  | .st sz a x => match x.ev s.A with
    | .v x => match x.cells? s.H with
      | some l => if l.length = sz then (match a.ev s.A with
        | .lp t o => match s.L.get t with
          | some cs => if o + sz ≤ cs.length then some (.v .any, { s with L := s.L.put t (splice cs o l) }) else none
          | none => none
        | .v (.ptr b o) => match s.H.get b with
          | some (.cells cs) => if o + sz ≤ cs.length then some (.v .any, { s with H := s.H.set b (.cells (splice cs o l)) }) else none
          | _ => none
        | _ => none) else none
      | none => none
    | _ => none
  | .nck x => match x.ev s.A with
    | .lp t o => if (s.L.get t).isSome then some (.lp t o, s) else none
    | .v (.ptr b o) => some (.v (.ptr b o), s)
    | .v (.vp cs) => some (.v (.vp cs), s)
    | .v (.fn f cs) => some (.v (.fn f cs), s)
    | _ => none
  | .bin op x y => match x.ev s.A, y.ev s.A with
    | .v x, .v y => vres s (binV op x y)
    | _, _ => none
  | .eqc neg ks x y => match x.ev s.A, y.ev s.A with
    | .v (.agg xs), .v (.agg ys) => vres s ((eqVs ks xs ys).map fun b => .lit (.bool (if neg then !b else b)))
    | _, _ => none
  | .eqb neg x y => match x.ev s.A, y.ev s.A with
    | .v (.lit (.bool a)), .v (.lit (.bool b)) => some (.v (.lit (.bool (if neg then !(a == b) else a == b))), s)
    | _, _ => none
  | .eqn neg x y => match x.ev s.A, y.ev s.A with
    | .v x, .v y => vres s ((eqN s.H x y).map fun b => .lit (.bool (if neg then !b else b)))
    | _, _ => none
  | .un op x => match x.ev s.A with
    | .v x => vres s (unV op x)
    | _ => none
  | .cv k x => match x.ev s.A with
    | .v (.lit (.int _ n)) => some (.v (.lit (.int k (k.wrap n))), s)
    | _ => none
  | .mkf f caps => vres s ((evs s.A caps).map (.fn f))
  | .mkm => some (.v (.mp s.H.next), { s with H := s.H.push (.map []) })
  | .mks sz bytes z l c => match l.ev s.A, c.ev s.A with
    | .v (.lit (.int .i64 l)), .v (.lit (.int .i64 c)) =>
      if 0 ≤ l ∧ l ≤ c ∧ bytes * c ≤ 2 ^ 47 ∧ c ≤ 2 ^ 47 then some (.v (.hs s.H.next 0 l.toNat sz), { s with H := s.H.push (.cells (rep z c.toNat)) }) else none
    | _, _ => none
  | .sls sz x lo hi => match x.ev s.A with
    | .v x => match slLen x with
      | some n => match bound s.A n n hi with
        | some h => match bound s.A 0 h lo with
          | some l => vres s (slV s.H sz l h x)
          | none => none
        | none => none
      | none => none
    | _ => none
  | .sla n sz x lo hi => match bound s.A n n hi with
    | some h => match bound s.A 0 h lo with
      | some l => match x.ev s.A with
        | .lp t o => match s.L.get t with
          | some cs => if o + n * sz ≤ cs.length then some (.v (.vs ((cs.drop (o + l * sz)).take ((h - l) * sz)) (h - l)), { s with A := s.A.kill t, L := s.L.del t }) else none
          | none => none
        | .v (.ptr b o) => match s.H.get b with
          | some (.cells cs) => if o + n * sz ≤ cs.length then some (.v (.hs b (o + l * sz) (h - l) sz), s) else none
          | _ => none
        | .v (.vp cs) => if n * sz ≤ cs.length then some (.v (.vs ((cs.drop (l * sz)).take ((h - l) * sz)) (h - l)), s) else none
        | _ => none
      | none => none
    | none => none
  | .fad off x => match x.ev s.A with
    | .lp t o => if (s.L.get t).isSome then some (.lp t (o + off), s) else none
    | .v (.ptr b o) => some (.v (.ptr b (o + off)), s)
    | .v (.vp cs) => some (.v (.vp (cs.drop off)), s)
    | _ => none
  | .iad sz x i => match x.ev s.A, i.ev s.A with
    | .v (.hs b o n s'), .v (.lit (.int _ i)) => if 0 ≤ i ∧ i < n ∧ s' = sz then some (.v (.ptr b (o + i.toNat * sz)), s) else none
    | .v (.vs cs n), .v (.lit (.int _ i)) => if 0 ≤ i ∧ i < n then some (.v (.vp (cs.drop (i.toNat * sz))), s) else none
    | _, _ => none
  | .iaa n sz x i => match x.ev s.A, i.ev s.A with
    | .lp t o, .v (.lit (.int _ i)) => if 0 ≤ i ∧ i < n ∧ (s.L.get t).isSome then some (.lp t (o + i.toNat * sz), s) else none
    | .v (.ptr b o), .v (.lit (.int _ i)) => if 0 ≤ i ∧ i < n then some (.v (.ptr b (o + i.toNat * sz)), s) else none
    | .v (.vp cs), .v (.lit (.int _ i)) => if 0 ≤ i ∧ i < n then some (.v (.vp (cs.drop (i.toNat * sz))), s) else none
    | _, _ => none
  | .ixa n sz ag x i => match x.ev s.A, i.ev s.A with
    | .v (.agg cs), .v (.lit (.int _ i)) => if 0 ≤ i ∧ i < n then vres s (rd ag sz (cs.drop (i.toNat * sz))) else none
    | _, _ => none
  | .fld off sz ag x => match x.ev s.A with
    | .v (.agg cs) => vres s (rd ag sz (cs.drop off))
    | _ => none
  | .ixs bs i => match i.ev s.A with
    | .v (.lit (.int _ i)) => if 0 ≤ i then vres s ((bs[i.toNat]?).map fun (b : Nat) => V.lit (.int .u8 (b : Int))) else none
    | _ => none
  | .lku kk z ok m k => match m.ev s.A, k.ev s.A with
    | .v (.mp b), .v k => match s.H.get b with
      | some (.map es) => if plainKey kk k then vres s ((mfind kk k es).map fun r => if ok then .tup [r.getD z, .lit (.bool r.isSome)] else r.getD z) else none
      | _ => none
    | _, _ => none
  | .mup kk m k x => match m.ev s.A, k.ev s.A, x.ev s.A with
    | .v (.mp b), .v k, .v x => match s.H.get b with
      | some (.map es) => if plainKey kk k then (mput kk k x es).map fun es' => (.v .any, { s with H := s.H.set b (.map es') }) else none
      | _ => none
    | _, _, _ => none
  | .ext x i => match x.ev s.A with
    | .v (.tup xs) => vres s xs[i]?
    | _ => none
  | .len x => match x.ev s.A with
    | .v (.hs _ _ n _) => some (.v (.lit (.int .i64 n)), s)
    | .v (.vs _ n) => some (.v (.lit (.int .i64 n)), s)
    | .v (.lit (.slice _ 0 0)) => some (.v (.lit (.int .i64 0)), s)
    | _ => none
  | .lenm x => match x.ev s.A with
    | .v (.mp b) => match s.H.get b with
      | some (.map es) => some (.v (.lit (.int .i64 es.length)), s)
      | _ => none
    | .v (.lit (.map none)) => some (.v (.lit (.int .i64 0)), s)
    | _ => none
  | .mnx mx xs => match evs s.A xs with
    | some (x :: r) => vres s (match x with | .lit (.int k a) => mnV mx (.lit (.int k a)) r | _ => none)
    | _ => none
  | .app sz bytes x y => match x.ev s.A, y.ev s.A with
    | .v x, .v y => match slLen y, slCells s.H sz y with
      | some m, some news =>
        if V.ones s.H news then (match x with
          | .lit (.slice none 0 0) =>
            if m = 0 then some (.v (.lit (.slice none 0 0)), s)
            else if m * bytes ≤ 2 ^ 47 ∧ m ≤ 2 ^ 47 then some (.v (.hs s.H.next 0 m sz), { s with H := s.H.push (.cells news) }) else none
          | .hs b o n s' => match s.H.get b with
            | some (.cells cs) =>
              if s' = sz ∧ o = 0 ∧ n * sz ≤ cs.length then
                (if m = 0 then some (.v (.hs b o n sz), s)
                else if (n + m) * bytes ≤ 2 ^ 47 ∧ n + m ≤ 2 ^ 47 then some (.v (.hs s.H.next 0 (n + m) sz), { s with H := (s.H.del b).push (.cells (cs.take (n * sz) ++ news)) }) else none)
              else none
            | _ => none
          | _ => none) else none
      | _, _ => none
    | _, _ => none
  | .cpy sz x y => match x.ev s.A, y.ev s.A with
    | .v (.hs b o n s'), .v y => match slLen y, slCells s.H sz y, s.H.get b with
      | some m, some news, some (.cells cs) =>
        if V.ones s.H news ∧ s' = sz ∧ o + n * sz ≤ cs.length then
          some (.v (.lit (.int .i64 (min m n : Nat))), { s with H := s.H.set b (.cells (splice cs o (news.take (min m n * sz)))) })
        else none
      | _, _, _ => none
    | _, _ => none
  | .dele kk m k => match m.ev s.A, k.ev s.A with
    | .v (.mp b), .v k => match s.H.get b with
      | some (.map es) => if plainKey kk k then (mdel kk k es).map fun es' => (.v .any, { s with H := s.H.set b (.map es') }) else none
      | _ => none
    | _, _ => none
  | .adc x y c => match x.ev s.A, y.ev s.A, c.ev s.A with
    | .v (.lit (.int .u64 x)), .v (.lit (.int .u64 y)), .v (.lit (.int .u64 c)) =>
      if 0 ≤ x ∧ 0 ≤ y ∧ 0 ≤ c ∧ c ≤ 1 then some (.v (.tup [.lit (.int .u64 ((x + y + c) % 18446744073709551616)), .lit (.int .u64 ((x + y + c) / 18446744073709551616))]), s) else none
    | _, _, _ => none
  | .sbb x y c => match x.ev s.A, y.ev s.A, c.ev s.A with
    | .v (.lit (.int .u64 x)), .v (.lit (.int .u64 y)), .v (.lit (.int .u64 c)) =>
      if 0 ≤ x ∧ 0 ≤ y ∧ 0 ≤ c ∧ c ≤ 1 ∧ x < 18446744073709551616 ∧ y < 18446744073709551616 then some (.v (.tup [.lit (.int .u64 ((x - y - c) % 18446744073709551616)), .lit (.int .u64 (if x < y + c then 1 else 0))]), s) else none
    | _, _, _ => none
  | .call _ _ | .callv _ _ => none

end Iso

/- The abstract layer, third part: when an abstract state tells of a concrete one, and the changes that keep it so. Nothing of a program. -/
namespace Iso
open Go Go.RowKit

def TR (ρ : Rn) (β : Nat → Option Nat) (w : World) : T → Value → Prop
  | .v x, y => VR ρ w x y
  | .lp t o, y => ∀ B, β t = some B → y = .pointer (some ⟨B, o, none⟩)

def RowAt (ρ : Rn) (w : World) (B : Nat) (cs : List V) : Prop :=
  ∃ (C : Array Value) (e : TypeId), w.heap[B]? = some (.cells C e (0, 0)) ∧ cs.length ≤ C.size ∧ VRs ρ w cs (C.toList.take cs.length)

def MapAt (ρ : Rn) (w : World) (B : Nat) (es : List (V × V)) : Prop :=
  ∃ (ms : Array MapEntry) (clock : Nat), w.heap[B]? = some (.map ms clock) ∧ VRs ρ w (es.map (·.1)) (ms.toList.map (·.key)) ∧ VRs ρ w (es.map (·.2)) (ms.toList.map (·.val))

def BlkAt (ρ : Rn) (w : World) (B : Nat) : Blk → Prop
  | .cells cs => RowAt ρ w B cs
  | .map es => MapAt ρ w B es
  | .loop C st pe ps vs => ∃ r : Loop, w.heap[B]? = some (.loop r) ∧ r.state = st ∧ r.pending = pe ∧ r.params.toList = ps ∧ C r.assign r.body ∧ VRs ρ w vs r.tmps.toList

/-- What a range over a function leaves for the end: nothing to do. -/
def Marks (n : Nat) (ρ : Rn) (w : World) : List Deferred → Prop
  | [] => True
  | d :: ds => (∃ D, n ≤ D ∧ d = { target := .collected D, args := #[] } ∧ ρ.imm w D ∧ w.heap[D]? = some (.deferred (some [])) ∧ ∀ d' ∈ ds, d' ≠ d) ∧ Marks n ρ w ds
theorem Marks.keep {n : Nat} {ρ ρ' : Rn} {w w' : World} (k : Keep ρ w ρ' w') : ∀ {ds : List Deferred}, Marks n ρ w ds → Marks n ρ' w' ds
  | [], _ => trivial
  | _ :: _, ⟨⟨D, h0, h1, h2, h3, h4⟩, h⟩ => ⟨⟨D, h0, h1, (k.imm D h2).1, (k.imm D h2).2.trans h3, h4⟩, Marks.keep k h⟩

structure Entry where
  φ0 : Nat → Option Nat
  n0 : Nat
  X : Nat → Prop
  w0 : World
  l : Option Nat

structure SR (E : Entry) (ρ : Rn) (β : Nat → Option Nat) (s : St) (a : Act) (w : World) : Prop where
  tmps : ∀ t, TR ρ β w (s.A.get t) (a.tmps.getD t undef)
  loc : ∀ t cs, s.L.get t = some cs → ∃ B, β t = some B ∧ RowAt ρ w B cs
  nloc : ∀ t, s.L.get t = none → β t = none
  heap : ∀ b k, s.H.get b = some k → ∃ B, ρ.φ b = some B ∧ BlkAt ρ w B k
  nheap : ∀ b, s.H.get b = none → ρ.φ b = none
  Y : ∀ B, ρ.Y B ↔ E.X B ∨ ∃ t, β t = some B
  injφ : ∀ b b' B, ρ.φ b = some B → ρ.φ b' = some B → b = b'
  injβ : ∀ t t' B, β t = some B → β t' = some B → t = t'
  disj : ∀ t b B, β t = some B → ρ.φ b ≠ some B
  Xφ : ∀ b B, E.X B → ρ.φ b ≠ some B
  Xlt : ∀ B, E.X B → B < E.w0.heap.size
  next : ρ.next = s.H.next
  dead : ∀ b, s.H.next ≤ b → s.H.get b = none
  dfr : Marks E.w0.heap.size ρ w a.defers
  size : E.w0.heap.size ≤ w.heap.size
  frame : ∀ B, B < E.w0.heap.size → (∀ b, E.φ0 b ≠ some B) → w.heap[B]? = E.w0.heap[B]?
  fromφ : ∀ b B, ρ.φ b = some B → (∃ b0, E.φ0 b0 = some B) ∨ E.w0.heap.size ≤ B
  fromβ : ∀ t B, β t = some B → E.w0.heap.size ≤ B
  names : ∀ b B, b < E.n0 → ρ.φ b = some B → E.φ0 b = some B
  n0 : E.n0 ≤ s.H.next
  os : w.os = E.w0.os
  tape : w.tape = E.w0.tape
  output : w.output = E.w0.output
  shape : ∀ (B : Nat) (C : Array Value) (e : TypeId), E.w0.heap[B]? = some (Obj.cells C e (0, 0)) → ∃ C' : Array Value, w.heap[B]? = some (Obj.cells C' e (0, 0)) ∧ C'.size = C.size

/-! ### Temporaries -/
theorem Env.get_del_ne : ∀ (A : Env) {t s : Nat}, s ≠ t → (A.del s).get t = A.get t
  | [], _, _, _ => rfl
  | (u, x) :: r, t, s, h => by
    simp only [Env.del]
    split
    · rename_i hu
      rw [Env.get_del_ne r h, Env.get, if_neg (by omega)]
    · simp only [Env.get]
      split
      · rfl
      · exact Env.get_del_ne r h
theorem Env.get_put (A : Env) (t s : Nat) (x : T) : (A.put t x).get s = if s = t then x else A.get s := by
  unfold Env.put
  simp only [Env.get]
  by_cases h : t = s
  · simp [h]
  · rw [if_neg h, if_neg (Ne.symm h)]
theorem Env.get_kill (d : Nat) : ∀ (A : Env) (t : Nat), (A.kill d).get t = (A.get t).kill d
  | [], _ => rfl
  | (s, x) :: r, t => by
    simp only [Env.kill, Env.get]
    split
    · rfl
    · exact Env.get_kill d r t
theorem Loc.get_del_ne : ∀ (A : Loc) {t s : Nat}, s ≠ t → (A.del s).get t = A.get t
  | [], _, _, _ => rfl
  | (u, x) :: r, t, s, h => by
    simp only [Loc.del]
    split
    · rename_i hu
      rw [Loc.get_del_ne r h, Loc.get, if_neg (by omega)]
    · simp only [Loc.get]
      split
      · rfl
      · exact Loc.get_del_ne r h
theorem Loc.get_del_eq : ∀ (A : Loc) (t : Nat), (A.del t).get t = none
  | [], _ => rfl
  | (u, x) :: r, t => by
    simp only [Loc.del]
    split
    · exact Loc.get_del_eq r t
    · rename_i h; simp only [Loc.get, if_neg h]; exact Loc.get_del_eq r t
theorem Loc.get_del (A : Loc) (t s : Nat) : (A.del t).get s = if s = t then none else A.get s := by
  by_cases h : s = t
  · subst h; simp [Loc.get_del_eq]
  · rw [if_neg h, Loc.get_del_ne A (Ne.symm h)]
theorem Loc.get_put (A : Loc) (t s : Nat) (x : List V) : (A.put t x).get s = if s = t then some x else A.get s := by
  unfold Loc.put
  simp only [Loc.get]
  by_cases h : t = s
  · simp [h]
  · rw [if_neg h, if_neg (Ne.symm h)]

theorem TR.kill {ρ : Rn} {β : Nat → Option Nat} {w : World} {d : Nat} {B : Option Nat} {x : T} {y : Value} (h : TR ρ β w x y) : TR ρ (fun t => if t = d then B else β t) w (x.kill d) y := by
  cases x with
  | v x => exact h
  | lp t o =>
    simp only [T.kill]
    split
    · simp only [TR, VR]
    · rename_i hne; simp only [TR, if_neg hne] at h ⊢; exact h

theorem TR.keep {ρ ρ' : Rn} {β : Nat → Option Nat} {w w' : World} {x : T} {y : Value} (k : Keep ρ w ρ' w') (h : TR ρ β w x y) : TR ρ' β w' x y := by
  cases x with
  | v x => exact VR.keep k x y h
  | lp t o => exact h

theorem getD_put (a : Act) (d t : Nat) (y : Value) : (a.put (some d) y).tmps.getD t undef = a.tmps.getD t undef ∨ (t = d ∧ (a.put (some d) y).tmps.getD t undef = y) := by
  simp only [Act.put, Array.getD_eq_getD_getElem?, Array.getElem?_setIfInBounds]
  by_cases h : d = t
  · subst h
    by_cases hlt : d < a.tmps.size
    · right; simp [hlt]
    · left; simp [hlt]
  · left; simp [h]

/-- A value comes into a temporary. (A slot that isn't there takes none: the frame is as long as it is.) -/
theorem SR.put {E : Entry} {ρ : Rn} {β : Nat → Option Nat} {s : St} {a : Act} {w : World} (h : SR E ρ β s a w) (d : Option Nat) (hd : ∀ t, d = some t → t < a.tmps.size) {x : T} {y : Value} (hx : TR ρ β w x y) :
    SR E ρ β { s with A := s.A.put? d x } (a.put d y) w := by
  cases d with
  | none => exact { h with }
  | some d =>
    refine { h with tmps := fun t => ?_, dfr := h.dfr }
    have hlt := hd d rfl
    show TR ρ β w ((s.A.put d x).get t) _
    rw [Env.get_put]
    by_cases ht : t = d
    · subst ht
      simp only [if_true, Act.put, Array.getD_eq_getD_getElem?, Array.getElem?_setIfInBounds, hlt, Option.getD_some]
      exact hx
    · rw [if_neg ht]
      simp only [Act.put, Array.getD_eq_getD_getElem?, Array.getElem?_setIfInBounds, Ne.symm ht, if_false]
      rw [← Array.getD_eq_getD_getElem?]
      exact h.tmps t

theorem put_size (a : Act) (d : Option Nat) (y : Value) : (a.put d y).tmps.size = a.tmps.size := by
  cases d <;> simp [Act.put]

/-! ### The world goes on -/
theorem RowAt.keep {ρ ρ' : Rn} {w w' : World} {B : Nat} {cs : List V} (k : Keep ρ w ρ' w') (hB : w'.heap[B]? = w.heap[B]?) (h : RowAt ρ w B cs) : RowAt ρ' w' B cs := by
  obtain ⟨C, e, h1, h2, h3⟩ := h
  exact ⟨C, e, hB.trans h1, h2, VRs.keep k _ _ h3⟩
theorem MapAt.keep {ρ ρ' : Rn} {w w' : World} {B : Nat} {es : List (V × V)} (k : Keep ρ w ρ' w') (hB : w'.heap[B]? = w.heap[B]?) (h : MapAt ρ w B es) : MapAt ρ' w' B es := by
  obtain ⟨C, e, h1, h2, h3⟩ := h
  exact ⟨C, e, hB.trans h1, VRs.keep k _ _ h2, VRs.keep k _ _ h3⟩
theorem BlkAt.keep {ρ ρ' : Rn} {w w' : World} {B : Nat} {kb : Blk} (k : Keep ρ w ρ' w') (hB : w'.heap[B]? = w.heap[B]?) (h : BlkAt ρ w B kb) : BlkAt ρ' w' B kb := by
  cases kb with
  | cells cs => exact RowAt.keep k hB h
  | map es => exact MapAt.keep k hB h
  | loop C st pe ps vs => obtain ⟨r, h1, h2, h3, h4, h5, h6⟩ := h; exact ⟨r, hB.trans h1, h2, h3, h4, h5, VRs.keep k _ _ h6⟩
theorem BlkAt.lt {ρ : Rn} {w : World} {B : Nat} {kb : Blk} (h : BlkAt ρ w B kb) : B < w.heap.size := by
  cases kb with
  | cells cs => obtain ⟨C, e, h1, _⟩ := h; exact (Array.getElem?_eq_some_iff.1 h1).1
  | map es => obtain ⟨C, e, h1, _⟩ := h; exact (Array.getElem?_eq_some_iff.1 h1).1
  | loop C st pe ps vs => obtain ⟨r, h1, _⟩ := h; exact (Array.getElem?_eq_some_iff.1 h1).1

section
variable {E : Entry} {ρ : Rn} {β : Nat → Option Nat} {s : St} {a : Act} {w : World}

theorem SR.ltφ (h : SR E ρ β s a w) {b B : Nat} (hb : ρ.φ b = some B) : B < w.heap.size := by
  cases hg : s.H.get b with
  | none => rw [h.nheap b hg] at hb; cases hb
  | some k =>
    obtain ⟨B', h1, h2⟩ := h.heap b k hg
    rw [hb] at h1; cases h1
    exact h2.lt
theorem SR.ltβ (h : SR E ρ β s a w) {t B : Nat} (hb : β t = some B) : B < w.heap.size := by
  cases hg : s.L.get t with
  | none => rw [h.nloc t hg] at hb; cases hb
  | some k =>
    obtain ⟨B', h1, C, e, h2, _⟩ := h.loc t k hg
    rw [hb] at h1; cases h1
    exact (Array.getElem?_eq_some_iff.1 h2).1
theorem SR.ltX (h : SR E ρ β s a w) {B : Nat} (hb : E.X B) : B < w.heap.size := Nat.lt_of_lt_of_le (h.Xlt B hb) h.size
theorem SR.φlt (h : SR E ρ β s a w) {b B : Nat} (hb : ρ.φ b = some B) : b < s.H.next := by
  rcases Nat.lt_or_ge b s.H.next with hl | hl
  · exact hl
  · rw [h.nheap b (h.dead b hl)] at hb; cases hb

/-- The world, and the names, go on; what was tracked lies where it lay. -/
theorem SR.move {ρ' : Rn} {w' : World} (h : SR E ρ β s a w) (hφ : ρ'.φ = ρ.φ) (hn : ρ'.next = ρ.next) (hY : ρ'.Y = ρ.Y)
    (hsz : w.heap.size ≤ w'.heap.size) (hold : ∀ B, B < w.heap.size → w'.heap[B]? = w.heap[B]?) (hos : w'.os = w.os) (htape : w'.tape = w.tape) (hout : w'.output = w.output) : SR E ρ' β s a w' := by
  have k : Keep ρ w ρ' w' := ⟨by rw [hn]; exact Nat.le_refl _, fun b B _ hB => by rw [hφ] at hB; exact hB,
    fun B hB => ⟨⟨Nat.lt_of_lt_of_le hB.1 hsz, by rw [hY]; exact hB.2.1, by rw [hφ]; exact hB.2.2⟩, hold B hB.1⟩,
    fun B C e hC => ⟨C, (hold B (Array.getElem?_eq_some_iff.1 hC).1).trans hC, rfl⟩⟩
  refine { h with dfr := h.dfr.keep k, tmps := fun t => (h.tmps t).keep k, loc := fun t cs hc => ?_, heap := fun b kb hb => ?_, nheap := by rw [hφ]; exact h.nheap, Y := by rw [hY]; exact h.Y, injφ := by rw [hφ]; exact h.injφ, disj := by rw [hφ]; exact h.disj, Xφ := by rw [hφ]; exact h.Xφ, next := hn.trans h.next, size := Nat.le_trans h.size hsz, frame := fun B h1 h2 => ?_, fromφ := by rw [hφ]; exact h.fromφ, names := by rw [hφ]; exact h.names, os := hos.trans h.os, tape := htape.trans h.tape, output := hout.trans h.output, shape := fun B C e hC => ?_ }
  · obtain ⟨B, h1, h2⟩ := h.loc t cs hc
    exact ⟨B, h1, h2.keep k (hold B (h.ltβ h1))⟩
  · obtain ⟨B, h1, h2⟩ := h.heap b kb hb
    exact ⟨B, by rw [hφ]; exact h1, h2.keep k (hold B h2.lt)⟩
  · exact (hold B (Nat.lt_of_lt_of_le h1 h.size)).trans (h.frame B h1 h2)
  · obtain ⟨C', h1, h2⟩ := h.shape B C e hC
    exact ⟨C', (hold B (Array.getElem?_eq_some_iff.1 h1).1).trans h1, h2⟩

theorem SR.alloc (h : SR E ρ β s a w) (o : Obj) : SR E ρ β s a (w.alloc o) :=
  h.move rfl rfl rfl (by simp) (fun B hB => Below.heap_alloc w o B hB) rfl rfl rfl
theorem SR.drew (h : SR E ρ β s a w) : SR E ρ β s a w.drew :=
  h.move rfl rfl rfl (Nat.le_refl _) (fun B hB => rfl) rfl rfl rfl

theorem Keep.alloc (ρ : Rn) (w : World) (o : Obj) : Keep ρ w ρ (w.alloc o) :=
  ⟨Nat.le_refl _, fun b B _ hB => hB, fun B hB => ⟨⟨by have := hB.1; simp; omega, hB.2⟩, Below.heap_alloc w o B hB.1⟩,
    fun B C e hC => ⟨C, (Below.heap_alloc w o B (Array.getElem?_eq_some_iff.1 hC).1).trans hC, rfl⟩⟩

/-- A new block becomes a local variable. -/
theorem SR.local (h : SR E ρ β s a w) (d : Nat) (cs : List V) (C : Array Value) (e : TypeId) (hcs : VRs ρ w cs C.toList) :
    ∃ ρ' β', SR E ρ' β' { s with A := s.A.kill d, L := s.L.put d cs } a (w.alloc (.cells C e)) ∧ TR ρ' β' (w.alloc (.cells C e)) (.lp d 0) (.pointer (some ⟨w.heap.size, 0, none⟩)) := by
  have hnewφ : ∀ b, ρ.φ b ≠ some w.heap.size := fun b hb => by have := h.ltφ hb; omega
  have hnewβ : ∀ t, β t ≠ some w.heap.size := fun t hb => by have := h.ltβ hb; omega
  have hnewX : ¬ E.X w.heap.size := fun hx => by have := h.ltX hx; omega
  let β' : Nat → Option Nat := fun t => if t = d then some w.heap.size else β t
  let ρ' : Rn := { ρ with Y := fun B => E.X B ∨ ∃ t, β' t = some B }
  have k : Keep ρ w ρ' (w.alloc (.cells C e)) := by
    refine ⟨Nat.le_refl _, fun b B _ hB => hB, fun B hB => ⟨⟨by have := hB.1; simp; omega, ?_, hB.2.2⟩, Below.heap_alloc w _ B hB.1⟩,
      fun B C' e' hC => ⟨C', (Below.heap_alloc w _ B (Array.getElem?_eq_some_iff.1 hC).1).trans hC, rfl⟩⟩
    rintro (hx | ⟨t, ht⟩)
    · exact hB.2.1 ((h.Y B).2 (.inl hx))
    · simp only [β'] at ht
      split at ht
      · cases ht; exact absurd hB.1 (Nat.lt_irrefl _)
      · exact hB.2.1 ((h.Y B).2 (.inr ⟨t, ht⟩))
  have hold : ∀ B, B < w.heap.size → (w.alloc (.cells C e)).heap[B]? = w.heap[B]? := fun B hB => Below.heap_alloc w _ B hB
  refine ⟨ρ', β', { tmps := fun t => ?_, loc := fun t ds hc => ?_, nloc := fun t ht => ?_, heap := fun b kb hb => ?_, nheap := h.nheap, Y := fun B => Iff.rfl, injφ := h.injφ, injβ := fun t t' B h1 h2 => ?_, disj := fun t b B h1 => ?_, Xφ := h.Xφ, Xlt := h.Xlt, next := h.next, dead := h.dead, dfr := h.dfr.keep k, size := Nat.le_trans h.size (by simp), frame := fun B h1 h2 => ?_, fromφ := h.fromφ, fromβ := fun t B ht => ?_, names := h.names, n0 := h.n0, os := h.os, tape := h.tape, output := h.output, shape := fun B C' e' hC => ?_ }, ?_⟩
  · show TR ρ' β' _ ((s.A.kill d).get t) _
    rw [Env.get_kill]
    have h1 : TR ρ' β (w.alloc (.cells C e)) (s.A.get t) (a.tmps.getD t undef) := (h.tmps t).keep k
    exact TR.kill h1
  · simp only [Loc.get_put] at hc
    split at hc
    · rename_i ht
      cases hc
      refine ⟨w.heap.size, by simp [β', ht], C, e, World.alloc_heap_new w _, by have := hcs.length; simp at this; omega, ?_⟩
      rw [List.take_of_length_le (by rw [hcs.length]; exact Nat.le_refl _)]
      exact VRs.keep k _ _ hcs
    · rename_i ht
      obtain ⟨B, h1, h2⟩ := h.loc t ds hc
      exact ⟨B, by simp [β', ht, h1], h2.keep k (hold B (h.ltβ h1))⟩
  · simp only [Loc.get_put] at ht
    split at ht
    · cases ht
    · rename_i hne; simp only [β', if_neg hne]; exact h.nloc t ht
  · obtain ⟨B, h1, h2⟩ := h.heap b kb hb
    exact ⟨B, h1, h2.keep k (hold B h2.lt)⟩
  · simp only [β'] at h1 h2
    split at h1 <;> split at h2
    · omega
    · cases h1; exact absurd h2 (hnewβ t')
    · cases h2; exact absurd h1 (hnewβ t)
    · exact h.injβ t t' B h1 h2
  · simp only [β'] at h1
    split at h1
    · cases h1; exact hnewφ b
    · exact h.disj t b B h1
  · exact (hold B (Nat.lt_of_lt_of_le h1 h.size)).trans (h.frame B h1 h2)
  · simp only [β'] at ht
    split at ht
    · cases ht; exact h.size
    · exact h.fromβ t B ht
  · obtain ⟨C'', h1, h2⟩ := h.shape B C' e' hC
    exact ⟨C'', (hold B (Array.getElem?_eq_some_iff.1 h1).1).trans h1, h2⟩
  · intro B hB
    simp only [β', if_true] at hB
    cases hB; rfl

/-- A new block gets a name. -/
theorem SR.push (h : SR E ρ β s a w) (kb : Blk) (o : Obj) (hk : ∀ ρ' : Rn, Keep ρ w ρ' (w.alloc o) → BlkAt ρ' (w.alloc o) w.heap.size kb) :
    ∃ ρ', SR E ρ' β { s with H := s.H.push kb } a (w.alloc o) ∧ ρ'.φ s.H.next = some w.heap.size ∧ ρ'.next = s.H.next + 1 := by
  have hnewφ : ∀ b, ρ.φ b ≠ some w.heap.size := fun b hb => by have := h.ltφ hb; omega
  have hnewβ : ∀ t, β t ≠ some w.heap.size := fun t hb => by have := h.ltβ hb; omega
  have hnewX : ¬ E.X w.heap.size := fun hx => by have := h.ltX hx; omega
  have hnone : ρ.φ s.H.next = none := h.nheap _ (h.dead _ (Nat.le_refl _))
  let ρ' : Rn := { ρ with φ := fun b => if b = s.H.next then some w.heap.size else ρ.φ b, next := s.H.next + 1 }
  have k : Keep ρ w ρ' (w.alloc o) := by
    refine ⟨by rw [h.next]; exact Nat.le_succ _, fun b B hb hB => ?_, fun B hB => ⟨⟨by have := hB.1; simp; omega, hB.2.1, fun b hb => ?_⟩, Below.heap_alloc w _ B hB.1⟩,
      fun B C' e' hC => ⟨C', (Below.heap_alloc w _ B (Array.getElem?_eq_some_iff.1 hC).1).trans hC, rfl⟩⟩
    · simp only [ρ'] at hB
      rw [if_neg (by rw [h.next] at hb; omega)] at hB
      exact hB
    · simp only [ρ'] at hb
      split at hb
      · cases hb; exact absurd hB.1 (Nat.lt_irrefl _)
      · exact hB.2.2 b hb
  have hold : ∀ B, B < w.heap.size → (w.alloc o).heap[B]? = w.heap[B]? := fun B hB => Below.heap_alloc w _ B hB
  refine ⟨ρ', { tmps := fun t => (h.tmps t).keep k, loc := fun t ds hc => ?_, nloc := h.nloc, heap := fun b kb' hb => ?_, nheap := fun b hb => ?_, Y := h.Y, injφ := fun b b' B h1 h2 => ?_, injβ := h.injβ, disj := fun t b B h1 h2 => ?_, Xφ := fun b B h1 h2 => ?_, Xlt := h.Xlt, next := rfl, dead := fun b hb => ?_, dfr := h.dfr.keep k, size := Nat.le_trans h.size (by simp), frame := fun B h1 h2 => ?_, fromφ := fun b B hb => ?_, fromβ := h.fromβ, names := fun b B hb hB => ?_, n0 := Nat.le_trans h.n0 (Nat.le_succ _), os := h.os, tape := h.tape, output := h.output, shape := fun B C' e' hC => ?_ }, by simp [ρ'], rfl⟩
  · obtain ⟨B, h1, h2⟩ := h.loc t ds hc
    exact ⟨B, h1, h2.keep k (hold B (h.ltβ h1))⟩
  · simp only [AH.push] at hb
    split at hb
    · rename_i he
      cases hb
      exact ⟨w.heap.size, by simp [ρ', he], hk ρ' k⟩
    · rename_i he
      obtain ⟨B, h1, h2⟩ := h.heap b kb' hb
      exact ⟨B, by simp [ρ', he, h1], h2.keep k (hold B h2.lt)⟩
  · simp only [AH.push] at hb
    split at hb
    · cases hb
    · rename_i he; simp only [ρ', if_neg he]; exact h.nheap b hb
  · simp only [ρ'] at h1 h2
    split at h1 <;> split at h2
    · omega
    · cases h1; exact absurd h2 (hnewφ b')
    · cases h2; exact absurd h1 (hnewφ b)
    · exact h.injφ b b' B h1 h2
  · simp only [ρ'] at h2
    split at h2
    · cases h2; exact hnewβ t h1
    · exact h.disj t b B h1 h2
  · simp only [ρ'] at h2
    split at h2
    · cases h2; exact hnewX h1
    · exact h.Xφ b B h1 h2
  · simp only [AH.push] at hb ⊢
    rw [if_neg (by omega)]
    exact h.dead b (by omega)
  · exact (hold B (Nat.lt_of_lt_of_le h1 h.size)).trans (h.frame B h1 h2)
  · simp only [ρ'] at hb
    split at hb
    · cases hb; exact .inr h.size
    · exact h.fromφ b B hb
  · simp only [ρ'] at hB
    rw [if_neg (by have := h.n0; omega)] at hB
    exact h.names b B hb hB
  · obtain ⟨C'', h1, h2⟩ := h.shape B C' e' hC
    exact ⟨C'', (hold B (Array.getElem?_eq_some_iff.1 h1).1).trans h1, h2⟩
end
end Iso

/- The abstract layer, fourth part: writes. Nothing of a program. -/
namespace Iso
open Go Go.RowKit

/-- One block is written; all else lies as it lay. -/
structure Wrote (w w' : World) (B : Nat) : Prop where
  size : w'.heap.size = w.heap.size
  other : ∀ k, k ≠ B → w'.heap[k]? = w.heap[k]?
  os : w'.os = w.os
  tape : w'.tape = w.tape
  output : w'.output = w.output
  shape : ∀ (C : Array Value) (e : TypeId), w.heap[B]? = some (Obj.cells C e (0, 0)) → ∃ C' : Array Value, w'.heap[B]? = some (Obj.cells C' e (0, 0)) ∧ C'.size = C.size

theorem Wrote.setRow {w : World} {B : Nat} {C C' : Array Value} {e : TypeId} (h : w.heap[B]? = some (.cells C e (0, 0))) (hs : C'.size = C.size) : Wrote w (w.setRow B C') B :=
  ⟨by simp, fun k hk => setRow_other w B k C' hk, rfl, rfl, rfl, fun D e' hD => by rw [h] at hD; cases hD; exact ⟨C', setRow_heap w B C C' e _ h, hs⟩⟩

theorem Wrote.putObj {w : World} {B : Nat} {o : Obj} (o' : Obj) (h : w.heap[B]? = some o) (ho : ∀ C e f, o ≠ .cells C e f) : Wrote w (w.putObj B o') B :=
  ⟨by simp [World.putObj], fun k hk => World.putObj_heap_other hk, rfl, rfl, rfl, fun D e' hD => by rw [h] at hD; cases hD; exact absurd rfl (ho _ _ _)⟩

section
variable {E : Entry} {ρ : Rn} {β : Nat → Option Nat} {s : St} {a : Act} {w w' : World}

theorem Wrote.keep {B : Nat} (x : Wrote w w' B) (hB : ¬ ρ.imm w B) : Keep ρ w ρ w' :=
  ⟨Nat.le_refl _, fun _ _ _ h => h, fun k hk => by
    have hne : k ≠ B := fun e => hB (e ▸ hk)
    exact ⟨⟨by rw [x.size]; exact hk.1, hk.2⟩, x.other k hne⟩,
   fun k C e hC => by
    by_cases hk : k = B
    · subst hk; exact x.shape C e hC
    · exact ⟨C, (x.other k hk).trans hC, rfl⟩⟩

theorem SR.frameW {B : Nat} (h : SR E ρ β s a w) (x : Wrote w w' B) (hB : (∃ b0, E.φ0 b0 = some B) ∨ E.w0.heap.size ≤ B) : ∀ k, k < E.w0.heap.size → (∀ b, E.φ0 b ≠ some k) → w'.heap[k]? = E.w0.heap[k]? := by
  intro k h1 h2
  have hne : k ≠ B := by
    rintro rfl
    rcases hB with ⟨b0, hb⟩ | hl
    · exact h2 b0 hb
    · omega
  exact (x.other k hne).trans (h.frame k h1 h2)
theorem SR.shapeW {B : Nat} (h : SR E ρ β s a w) (x : Wrote w w' B) : ∀ (k : Nat) (C : Array Value) (e : TypeId), E.w0.heap[k]? = some (Obj.cells C e (0, 0)) → ∃ C' : Array Value, w'.heap[k]? = some (Obj.cells C' e (0, 0)) ∧ C'.size = C.size := by
  intro k C e hC
  obtain ⟨C1, h1, h2⟩ := h.shape k C e hC
  by_cases hk : k = B
  · subst hk
    obtain ⟨C2, h3, h4⟩ := x.shape C1 e h1
    exact ⟨C2, h3, h4.trans h2⟩
  · exact ⟨C1, (x.other k hk).trans h1, h2⟩

/-- A local variable is written. -/
theorem SR.writeL (h : SR E ρ β s a w) {t B : Nat} {cs' : List V} (ht : β t = some B) (x : Wrote w w' B) (hr : ∀ _ : Keep ρ w ρ w', RowAt ρ w' B cs') :
    SR E ρ β { s with L := s.L.put t cs' } a w' := by
  have hB : ¬ ρ.imm w B := fun hi => hi.2.1 ((h.Y B).2 (.inr ⟨t, ht⟩))
  have k := x.keep hB
  refine { h with dfr := h.dfr.keep k, tmps := fun u => (h.tmps u).keep k, loc := fun u cs hc => ?_, nloc := fun u hu => ?_, heap := fun b kb hb => ?_, size := by rw [x.size]; exact h.size, frame := h.frameW x (.inr (h.fromβ t B ht)), os := x.os.trans h.os, tape := x.tape.trans h.tape, output := x.output.trans h.output, shape := h.shapeW x }
  · simp only [Loc.get_put] at hc
    split at hc
    · rename_i hu; cases hc; subst hu; exact ⟨B, ht, hr k⟩
    · rename_i hu
      obtain ⟨B', h1, h2⟩ := h.loc u cs hc
      exact ⟨B', h1, h2.keep k (x.other B' (fun e => hu (h.injβ u t B (e ▸ h1) ht)))⟩
  · simp only [Loc.get_put] at hu
    split at hu
    · cases hu
    · exact h.nloc u hu
  · obtain ⟨B', h1, h2⟩ := h.heap b kb hb
    exact ⟨B', h1, h2.keep k (x.other B' (fun e => h.disj t b B ht (e ▸ h1)))⟩

/-- A block that has a name is written. -/
theorem SR.writeH (h : SR E ρ β s a w) {b B : Nat} {kb : Blk} (hb : ρ.φ b = some B) (x : Wrote w w' B) (hr : ∀ _ : Keep ρ w ρ w', BlkAt ρ w' B kb) :
    SR E ρ β { s with H := s.H.set b kb } a w' := by
  have hB : ¬ ρ.imm w B := fun hi => hi.2.2 b hb
  have k := x.keep hB
  have hlt := h.φlt hb
  refine { h with dfr := h.dfr.keep k, tmps := fun u => (h.tmps u).keep k, loc := fun u cs hc => ?_, heap := fun b' kb' hb' => ?_, nheap := fun b' hb' => ?_, next := h.next, dead := fun b' hb' => ?_, n0 := h.n0, size := by rw [x.size]; exact h.size, frame := h.frameW x (h.fromφ b B hb), os := x.os.trans h.os, tape := x.tape.trans h.tape, output := x.output.trans h.output, shape := h.shapeW x }
  · obtain ⟨B', h1, h2⟩ := h.loc u cs hc
    exact ⟨B', h1, h2.keep k (x.other B' (fun e => h.disj u b B (e ▸ h1) hb))⟩
  · simp only [AH.set] at hb'
    split at hb'
    · rename_i he; cases hb'; exact ⟨B, by rw [he]; exact hb, hr k⟩
    · rename_i he
      obtain ⟨B', h1, h2⟩ := h.heap b' kb' hb'
      exact ⟨B', h1, h2.keep k (x.other B' (fun e => he (h.injφ b' b B (e ▸ h1) hb)))⟩
  · simp only [AH.set] at hb'
    split at hb'
    · cases hb'
    · exact h.nheap b' hb'
  · simp only [AH.set] at hb' ⊢
    rw [if_neg (by omega)]
    exact h.dead b' hb'

/-- A local variable is given up: from here on nobody writes it. -/
theorem SR.freezeL (h : SR E ρ β s a w) {t B : Nat} (ht : β t = some B) :
    ∃ ρ' β', SR E ρ' β' { s with A := s.A.kill t, L := s.L.del t } a w ∧ Keep ρ w ρ' w ∧ ρ'.imm w B := by
  let β' : Nat → Option Nat := fun u => if u = t then none else β u
  let ρ' : Rn := { ρ with Y := fun B => E.X B ∨ ∃ u, β' u = some B }
  have hsub : ∀ B, ρ'.Y B → ρ.Y B := by
    rintro B (hx | ⟨u, hu⟩)
    · exact (h.Y B).2 (.inl hx)
    · simp only [β'] at hu
      split at hu
      · cases hu
      · exact (h.Y B).2 (.inr ⟨u, hu⟩)
  have k : Keep ρ w ρ' w := ⟨Nat.le_refl _, fun _ _ _ h => h, fun B hB => ⟨⟨hB.1, fun hy => hB.2.1 (hsub B hy), hB.2.2⟩, rfl⟩, fun B C e hC => ⟨C, hC, rfl⟩⟩
  refine ⟨ρ', β', { h with dfr := h.dfr.keep k, tmps := fun u => ?_, loc := fun u cs hc => ?_, nloc := fun u hu => ?_, heap := fun b kb hb => ?_, Y := fun B => Iff.rfl, injβ := fun u u' B h1 h2 => ?_, disj := fun u b B h1 => ?_, fromβ := fun u B hu => ?_ }, k, h.ltβ ht, ?_, fun b => h.disj t b B ht⟩
  · show TR ρ' β' w ((s.A.kill t).get u) _
    rw [Env.get_kill]
    exact TR.kill ((h.tmps u).keep k)
  · simp only [Loc.get_del] at hc
    split at hc
    · cases hc
    · rename_i hu
      obtain ⟨B', h1, h2⟩ := h.loc u cs hc
      exact ⟨B', by simp [β', hu, h1], h2.keep k rfl⟩
  · simp only [Loc.get_del] at hu
    simp only [β']
    split at hu
    · rename_i he; rw [if_pos he]
    · rename_i he; rw [if_neg he]; exact h.nloc u hu
  · obtain ⟨B', h1, h2⟩ := h.heap b kb hb
    exact ⟨B', h1, h2.keep k rfl⟩
  · simp only [β'] at h1 h2
    split at h1
    · cases h1
    · split at h2
      · cases h2
      · exact h.injβ u u' B h1 h2
  · simp only [β'] at h1
    split at h1
    · cases h1
    · exact h.disj u b B h1
  · simp only [β'] at hu
    split at hu
    · cases hu
    · exact h.fromβ u B hu
  · rintro (hx | ⟨u, hu⟩)
    · have h1 := h.Xlt B hx; have h2 := h.fromβ t B ht; omega
    · simp only [β'] at hu
      split at hu
      · cases hu
      · rename_i hne; exact hne (h.injβ u t B hu ht)

/-- A name is given up. -/
theorem SR.del (h : SR E ρ β s a w) (b : Nat) :
    ∃ ρ', SR E ρ' β { s with H := s.H.del b } a w ∧ Keep ρ w ρ' w ∧ (∀ B, ρ.φ b = some B → ρ'.imm w B) ∧ ρ'.next = ρ.next := by
  let ρ' : Rn := { ρ with φ := fun i => if i = b then none else ρ.φ i }
  have hsub : ∀ i B, ρ'.φ i = some B → i ≠ b ∧ ρ.φ i = some B := by
    intro i B hi
    simp only [ρ'] at hi
    split at hi
    · cases hi
    · rename_i hne; exact ⟨hne, hi⟩
  have k : Keep ρ w ρ' w := ⟨Nat.le_refl _, fun i B _ hi => (hsub i B hi).2, fun B hB => ⟨⟨hB.1, hB.2.1, fun i hi => hB.2.2 i (hsub i B hi).2⟩, rfl⟩, fun B C e hC => ⟨C, hC, rfl⟩⟩
  refine ⟨ρ', { h with dfr := h.dfr.keep k, tmps := fun u => (h.tmps u).keep k, loc := fun u cs hc => ?_, heap := fun i kb hi => ?_, nheap := fun i hi => ?_, Y := h.Y, injφ := fun i i' B h1 h2 => h.injφ i i' B (hsub i B h1).2 (hsub i' B h2).2, disj := fun u i B h1 h2 => h.disj u i B h1 (hsub i B h2).2, Xφ := fun i B h1 h2 => h.Xφ i B h1 (hsub i B h2).2, next := h.next, dead := fun i hi => ?_, fromφ := fun i B hi => h.fromφ i B (hsub i B hi).2, names := fun i B h1 h2 => h.names i B h1 (hsub i B h2).2, n0 := h.n0 }, k, fun B hB => ⟨h.ltφ hB, fun hy => ?_, fun i hi => ?_⟩, rfl⟩
  · obtain ⟨B', h1, h2⟩ := h.loc u cs hc
    exact ⟨B', h1, h2.keep k rfl⟩
  · simp only [AH.del] at hi
    split at hi
    · cases hi
    · rename_i hne
      obtain ⟨B', h1, h2⟩ := h.heap i kb hi
      exact ⟨B', by simp [ρ', hne, h1], h2.keep k rfl⟩
  · simp only [AH.del] at hi
    simp only [ρ']
    split at hi
    · rename_i he; rw [if_pos he]
    · rename_i he; rw [if_neg he]; exact h.nheap i hi
  · simp only [AH.del] at hi ⊢
    split
    · rfl
    · exact h.dead i hi
  · rcases (h.Y B).1 hy with hx | ⟨t, ht⟩
    · exact h.Xφ b B hx hB
    · exact h.disj t b B ht hB
  · obtain ⟨h1, h2⟩ := hsub i B hi
    exact h1 (h.injφ i b B h2 hB)

/-- A block that has a name is written, and gets another name: whoever holds the elder one may use it no more. -/
theorem SR.rename (h : SR E ρ β s a w) {b B : Nat} {kb : Blk} (hb : ρ.φ b = some B) (x : Wrote w w' B) (hr : ∀ ρ' : Rn, Keep ρ w ρ' w' → BlkAt ρ' w' B kb) :
    ∃ ρ', SR E ρ' β { s with H := (s.H.del b).push kb } a w' ∧ ρ'.φ s.H.next = some B ∧ ρ'.next = s.H.next + 1 := by
  have hB : ¬ ρ.imm w B := fun hi => hi.2.2 b hb
  have hlt := h.φlt hb
  let ρ' : Rn := { ρ with φ := fun i => if i = s.H.next then some B else if i = b then none else ρ.φ i, next := s.H.next + 1 }
  have hsub : ∀ i D, ρ'.φ i = some D → (i = s.H.next ∧ D = B) ∨ (i ≠ s.H.next ∧ i ≠ b ∧ ρ.φ i = some D) := by
    intro i D hi
    simp only [ρ'] at hi
    split at hi
    · rename_i he; cases hi; exact .inl ⟨he, rfl⟩
    · split at hi
      · cases hi
      · rename_i h1 h2; exact .inr ⟨h1, h2, hi⟩
  have k : Keep ρ w ρ' w' := by
    refine ⟨by rw [h.next]; exact Nat.le_succ _, fun i D hi hD => ?_, fun D hD => ?_, fun D C e hC => ?_⟩
    · rcases hsub i D hD with ⟨h1, _⟩ | ⟨_, _, h2⟩
      · rw [h.next] at hi; omega
      · exact h2
    · have hne : D ≠ B := fun e => hB (e ▸ hD)
      refine ⟨⟨by rw [x.size]; exact hD.1, hD.2.1, fun i hi => ?_⟩, x.other D hne⟩
      rcases hsub i D hi with ⟨_, h1⟩ | ⟨_, _, h2⟩
      · exact hne h1
      · exact hD.2.2 i h2
    · by_cases hk : D = B
      · subst hk; exact x.shape C e hC
      · exact ⟨C, (x.other D hk).trans hC, rfl⟩
  refine ⟨ρ', { h with dfr := h.dfr.keep k, tmps := fun u => (h.tmps u).keep k, loc := fun u cs hc => ?_, heap := fun i kb' hi => ?_, nheap := fun i hi => ?_, Y := h.Y, injφ := fun i i' D h1 h2 => ?_, disj := fun u i D h1 h2 => ?_, Xφ := fun i D h1 h2 => ?_, next := rfl, dead := fun i hi => ?_, size := by rw [x.size]; exact h.size, frame := h.frameW x (h.fromφ b B hb), fromφ := fun i D hi => ?_, names := fun i D h1 h2 => ?_, n0 := Nat.le_trans h.n0 (Nat.le_succ _), os := x.os.trans h.os, tape := x.tape.trans h.tape, output := x.output.trans h.output, shape := h.shapeW x }, by simp [ρ'], rfl⟩
  · obtain ⟨B', h1, h2⟩ := h.loc u cs hc
    exact ⟨B', h1, h2.keep k (x.other B' (fun e => h.disj u b B (e ▸ h1) hb))⟩
  · rw [AH.get_mv] at hi
    by_cases he : i = s.H.next
    · rw [if_pos he] at hi; cases hi; exact ⟨B, by simp [ρ', he], hr ρ' k⟩
    · rw [if_neg he] at hi
      by_cases hne : i = b
      · rw [if_pos hne] at hi; cases hi
      · rw [if_neg hne] at hi
        obtain ⟨B', h1, h2⟩ := h.heap i kb' hi
        refine ⟨B', ?_, h2.keep k (x.other B' (fun e => hne (h.injφ i b B (e ▸ h1) hb)))⟩
        simp [ρ', he, hne, h1]
  · rw [AH.get_mv] at hi
    simp only [ρ']
    by_cases he : i = s.H.next
    · rw [if_pos he] at hi; cases hi
    · rw [if_neg he] at hi ⊢
      by_cases h1 : i = b
      · rw [if_pos h1]
      · rw [if_neg h1] at hi ⊢; exact h.nheap i hi
  · rcases hsub i D h1 with ⟨e1, d1⟩ | ⟨n1, b1, p1⟩ <;> rcases hsub i' D h2 with ⟨e2, d2⟩ | ⟨n2, b2, p2⟩
    · omega
    · subst d1; exact absurd (h.injφ i' b D p2 hb) b2
    · subst d2; exact absurd (h.injφ i b D p1 hb) b1
    · exact h.injφ i i' D p1 p2
  · rcases hsub i D h2 with ⟨_, d1⟩ | ⟨_, _, p1⟩
    · subst d1; exact h.disj u b D h1 hb
    · exact h.disj u i D h1 p1
  · rcases hsub i D h2 with ⟨_, d1⟩ | ⟨_, _, p1⟩
    · subst d1; exact h.Xφ b D h1 hb
    · exact h.Xφ i D h1 p1
  · rw [AH.next_mv] at hi
    rw [AH.get_mv]
    rw [if_neg (show ¬ i = s.H.next by omega), if_neg (show ¬ i = b by omega)]
    exact h.dead i (by omega)
  · rcases hsub i D hi with ⟨_, d1⟩ | ⟨_, _, p1⟩
    · subst d1; exact h.fromφ b D hb
    · exact h.fromφ i D p1
  · rcases hsub i D h2 with ⟨e1, _⟩ | ⟨_, _, p1⟩
    · have := h.n0; omega
    · exact h.names i D h1 p1
end
end Iso

/- The abstract layer, fifth part: the model's operation does what the instruction says (no memory). Nothing of a program. -/
namespace Iso
open Go Go.RowKit

def Runs (P : Program) (o : Oper) (a : Act) (w : World) (y : Value) (w' : World) : Prop :=
  (execOp a.eval o).run P w = .ok (.value y) w' ∨ ((execOp a.eval o).run P w = .ok .skip w' ∧ y = undef)

def Sound (E : Entry) (P : Program) (o : Oper) (x : T) (s' : St) (a : Act) (w : World) : Prop :=
  ∃ w' y ρ' β', Runs P o a w y w' ∧ SR E ρ' β' s' a w' ∧ TR ρ' β' w' x y

theorem toVs_VRs {ρ : Rn} {w : World} : ∀ {xs : List Value} {l : List V}, toVs xs = some l → VRs ρ w l xs
  | [], l, h => by simp [toVs] at h; subst h; simp [VRs]
  | x :: r, l, h => by
    simp only [toVs] at h
    split at h
    · split at h
      · rename_i l' hl
        cases h
        simp only [VRs]
        exact ⟨x, r, rfl, by simp [VR], toVs_VRs hl⟩
      · cases h
    · cases h
theorem toV_VR {ρ : Rn} {w : World} {v : Value} {u : V} (h : toV v = some u) : VR ρ w u v := by
  unfold toV at h
  split at h
  · rename_i cs
    simp only [Option.map_eq_some_iff] at h
    obtain ⟨l, hl, rfl⟩ := h
    simp only [VR]
    exact ⟨cs, rfl, toVs_VRs hl⟩
  · rename_i f fs cs
    split at h
    · rename_i he
      cases h
      simp at he
      simp only [VR, VRs]
      exact ⟨#[], by simp [he.1, he.2], rfl⟩
    · cases h
  · split at h
    · cases h; simp [VR]
    · cases h

section
variable {E : Entry} {ρ : Rn} {β : Nat → Option Nat} {s s' : St} {a : Act} {w : World} {P : Program} {o : Oper} {x : T} {G : List Nat}

theorem SR.opd (hs : SR E ρ β s a w) {x : Operand} {x' : Opd} (h : cOpd x = some x') : TR ρ β w (x'.ev s.A) (a.eval x) := by
  cases x with
  | tmp t => simp [cOpd] at h; subst h; exact hs.tmps t
  | const v =>
    simp only [cOpd, Option.map_eq_some_iff] at h
    obtain ⟨u, hu, rfl⟩ := h
    exact toV_VR hu
  | global g => simp [cOpd] at h
  | func f =>
    simp [cOpd] at h
    subst h
    simp only [Opd.ev, TR, VR, VRs, Act.eval]
    exact ⟨#[], rfl, rfl⟩

theorem SR.opdv (hs : SR E ρ β s a w) {x : Operand} {x' : Opd} (h : cOpd x = some x') {v : V} (hv : x'.ev s.A = .v v) : VR ρ w v (a.eval x) := by
  have := hs.opd h
  rw [hv] at this
  exact this

theorem SR.evs (hs : SR E ρ β s a w) : ∀ {xs : List Operand} {xs' : List Opd} {vs : List V}, cOpds xs = some xs' → Iso.evs s.A xs' = some vs → VRs ρ w vs (xs.map a.eval)
  | [], xs', vs, h1, h2 => by
    simp [cOpds] at h1; subst h1
    simp [Iso.evs] at h2; subst h2
    simp [VRs]
  | x :: r, xs', vs, h1, h2 => by
    simp only [cOpds, Option.pure_def, Option.bind_eq_bind, Option.bind_eq_some_iff] at h1
    obtain ⟨y, hy, l, hl, he⟩ := h1
    cases he
    simp only [Iso.evs] at h2
    split at h2
    · rename_i v hv
      split at h2
      · rename_i l' hl'
        cases h2
        simp only [VRs, List.map_cons]
        exact ⟨_, _, rfl, hs.opdv hy hv, hs.evs hl hl'⟩
      · cases h2
    · cases h2

/-- What is computed and leaves all as it is. -/
theorem Sound.pure (hs : SR E ρ β s a w) {y : Value} (hr : (execOp a.eval o).run P w = .ok (.value y) w) (hx : TR ρ β w x y) : Sound E P o x s a w :=
  ⟨w, y, ρ, β, .inl hr, hs, hx⟩

theorem vres_some {s s' : St} {v : Option V} {x : T} (h : vres s v = some (x, s')) : ∃ u, v = some u ∧ x = .v u ∧ s' = s := by
  simp only [vres, Option.map_eq_some_iff] at h
  obtain ⟨u, h1, h2⟩ := h
  cases h2
  exact ⟨u, h1, rfl, rfl⟩

theorem sound_mv (hs : SR E ρ β s a w) {z : Operand} {z' : Opd} (ho : o.op = .move z ∨ o.op = .assign z) (hz : cOpd z = some z') (h : aop G o.dst (.mv z') s = some (x, s')) : Sound E P o x s' a w := by
  simp only [aop, Option.some.injEq, Prod.mk.injEq] at h
  obtain ⟨rfl, rfl⟩ := h
  refine Sound.pure hs (y := a.eval z) ?_ (hs.opd hz)
  rcases ho with ho | ho <;> simp [execOp, ho]

theorem sound_pick (hs : SR E ρ β s a w) {c y z : Operand} {c' y' z' : Opd} (ho : o.op = .pick c y z) (hc : cOpd c = some c') (hy : cOpd y = some y') (hz : cOpd z = some z') (h : aop G o.dst (.pick c' y' z') s = some (x, s')) : Sound E P o x s' a w := by
  simp only [aop] at h
  split at h
  · rename_i hcv
    cases h
    have := hs.opdv hc hcv
    simp only [VR] at this
    exact Sound.pure hs (y := a.eval y) (by simp [execOp, ho, this, asBool]) (hs.opd hy)
  · rename_i hcv
    cases h
    have := hs.opdv hc hcv
    simp only [VR] at this
    exact Sound.pure hs (y := a.eval z) (by simp [execOp, ho, this, asBool]) (hs.opd hz)
  · cases h

theorem sound_ext (hs : SR E ρ β s a w) {y : Operand} {y' : Opd} {i : Nat} (ho : o.op = .extract y i) (hy : cOpd y = some y') (h : aop G o.dst (.ext y' i) s = some (x, s')) : Sound E P o x s' a w := by
  simp only [aop] at h
  split at h
  · rename_i xs hv
    obtain ⟨u, h1, rfl, rfl⟩ := vres_some h
    have := hs.opdv hy hv
    simp only [VR] at this
    obtain ⟨ys, h2, h3⟩ := this
    obtain ⟨z, h4, h5⟩ := h3.get i u h1
    refine Sound.pure hs (y := z) ?_ h5
    have h6 : ys[i]? = some z := by simpa using h4
    simp [execOp, ho, h2, Instr.extract, h6]
  · cases h

theorem sound_mkf (hs : SR E ρ β s a w) {f : Nat} {fs cs : Array Operand} {cs' : List Opd} (ho : o.op = .makeFunc (.func f) fs cs) (hf : fs.isEmpty = true) (hc : cOpds cs.toList = some cs') (h : aop G o.dst (.mkf f cs') s = some (x, s')) : Sound E P o x s' a w := by
  simp only [aop] at h
  obtain ⟨u, h1, rfl, rfl⟩ := vres_some h
  simp only [Option.map_eq_some_iff] at h1
  obtain ⟨vs, h2, rfl⟩ := h1
  have := hs.evs hc h2
  have hf' : fs = #[] := by simpa using hf
  refine Sound.pure hs (y := .func (.func f) #[] (cs.map a.eval)) ?_ ?_
  · simp [execOp, ho, Instr.makeFunc, hf']
  · simp only [TR, VR]
    exact ⟨cs.map a.eval, rfl, by simpa using this⟩

theorem SR.lpv (hs : SR E ρ β s a w) {y : Operand} {y' : Opd} (hy : cOpd y = some y') {t off : Nat} (hv : y'.ev s.A = .lp t off) {cs : List V} (hc : s.L.get t = some cs) :
    ∃ B, β t = some B ∧ a.eval y = .pointer (some ⟨B, off, none⟩) ∧ RowAt ρ w B cs := by
  have h := hs.opd hy
  rw [hv] at h
  obtain ⟨B, hB, hr⟩ := hs.loc t cs hc
  exact ⟨B, hB, h B hB, hr⟩
theorem SR.ptrv (hs : SR E ρ β s a w) {y : Operand} {y' : Opd} (hy : cOpd y = some y') {b off : Nat} (hv : y'.ev s.A = .v (.ptr b off)) {kb : Blk} (hc : s.H.get b = some kb) :
    ∃ B, ρ.φ b = some B ∧ a.eval y = .pointer (some ⟨B, off, none⟩) ∧ BlkAt ρ w B kb := by
  have h := hs.opdv hy hv
  obtain ⟨B, hB, hr⟩ := hs.heap b kb hc
  exact ⟨B, hB, h.ptr_at hB, hr⟩
theorem SR.mpv (hs : SR E ρ β s a w) {y : Operand} {y' : Opd} (hy : cOpd y = some y') {b : Nat} (hv : y'.ev s.A = .v (.mp b)) {kb : Blk} (hc : s.H.get b = some kb) :
    ∃ B, ρ.φ b = some B ∧ a.eval y = .map (some B) ∧ BlkAt ρ w B kb := by
  have h := hs.opdv hy hv
  obtain ⟨B, hB, hr⟩ := hs.heap b kb hc
  exact ⟨B, hB, h.mp_at hB, hr⟩
theorem SR.litv (hs : SR E ρ β s a w) {y : Operand} {y' : Opd} (hy : cOpd y = some y') {v : Value} (hv : y'.ev s.A = .v (.lit v)) : a.eval y = v := by
  have h := hs.opdv hy hv
  simpa only [VR] using h

theorem sound_nck (hs : SR E ρ β s a w) {y : Operand} {y' : Opd} (ho : o.op = .nilCheck y) (hy : cOpd y = some y') (h : aop G o.dst (.nck y') s = some (x, s')) : Sound E P o x s' a w := by
  simp only [aop] at h
  split at h
  · rename_i t off hv
    split at h
    · rename_i hc
      cases h
      obtain ⟨cs, hc⟩ := Option.isSome_iff_exists.1 hc
      obtain ⟨B, hB, he, hr⟩ := hs.lpv hy hv hc
      exact Sound.pure hs (y := a.eval y) (by simp [execOp, ho, he]) (by rw [he]; intro B' hB'; rw [hB] at hB'; cases hB'; rfl)
    · cases h
  · rename_i b off hv
    cases h
    have h1 := hs.opdv hy hv
    have h2 := h1
    simp only [VR] at h2
    obtain ⟨_, B, he, _⟩ := h2
    exact Sound.pure hs (y := a.eval y) (by simp [execOp, ho, he]) h1
  · rename_i cs hv
    cases h
    have h1 := hs.opdv hy hv
    have h2 := h1
    simp only [VR] at h2
    obtain ⟨B, off, he, _⟩ := h2
    exact Sound.pure hs (y := a.eval y) (by simp [execOp, ho, he]) h1
  · rename_i f cs hv
    cases h
    have h1 := hs.opdv hy hv
    have h2 := h1
    simp only [VR] at h2
    obtain ⟨xs, he, _⟩ := h2
    exact Sound.pure hs (y := a.eval y) (by simp [execOp, ho, he]) h1
  · cases h

theorem add_at (B o n : Nat) : (⟨B, o, none⟩ : Addr).add n = ⟨B, o + n, none⟩ := by unfold Addr.add; split <;> simp_all

theorem sizeOf_run {t n : Nat} (h : sizeOf? P t = some n) (w : World) : (Go.sizeOf t).run P w = .ok n w := by
  simp only [sizeOf?, Option.map_eq_some_iff] at h
  obtain ⟨i, hi, rfl⟩ := h
  simp [Go.sizeOf, typeInfo, hi]
theorem isAgg_run {t : Nat} {b : Bool} (h : isAgg? P t = some b) (w : World) : (isAgg t).run P w = .ok b w := by
  simp only [isAgg?, Option.map_eq_some_iff] at h
  obtain ⟨d, hd, rfl⟩ := h
  cases d <;> simp [isAgg, run_underlying hd]

theorem sound_fad (hs : SR E ρ β s a w) {y : Operand} {y' : Opd} {t f sz : Nat} {fs : Array Field} {fd : Field} (ho : o.op = .fieldAddr t y f) (hy : cOpd y = some y') (ht : P.underlying t = some (.struct fs)) (hf : fs[f]? = some fd)
    (hsz : sizeOf? P fd.type = some sz) (h0 : sz ≠ 0) (h : aop G o.dst (.fad fd.offset y') s = some (x, s')) : Sound E P o x s' a w := by
  have hrun : ∀ B off, a.eval y = .pointer (some ⟨B, off, none⟩) → (execOp a.eval o).run P w = .ok (.value (.pointer (some ⟨B, off + fd.offset, none⟩))) w := by
    intro B off he
    simp [execOp, ho, he, Instr.fieldAt, run_underlying ht, hf, Instr.sureAddr, fieldPlace, sizeOf_run hsz, h0, add_at]
  simp only [aop] at h
  split at h
  · rename_i t' off hv
    split at h
    · rename_i hc
      cases h
      obtain ⟨cs, hc⟩ := Option.isSome_iff_exists.1 hc
      obtain ⟨B, hB, he, hr⟩ := hs.lpv hy hv hc
      exact Sound.pure hs (hrun B off he) (by intro B' hB'; rw [hB] at hB'; cases hB'; rfl)
    · cases h
  · rename_i b off hv
    cases h
    have h1 := hs.opdv hy hv
    simp only [VR] at h1
    obtain ⟨h0, B, he, hu⟩ := h1
    refine Sound.pure hs (hrun B off he) ?_
    simp only [TR, VR]
    exact ⟨h0, B, rfl, hu⟩
  · rename_i cs hv
    cases h
    have h1 := hs.opdv hy hv
    simp only [VR] at h1
    obtain ⟨B, off, he, hi, hr⟩ := h1
    refine Sound.pure hs (hrun B off he) ?_
    simp only [TR, VR]
    exact ⟨B, off + fd.offset, rfl, hi, hr.drop _⟩
  · cases h

theorem sound_iad (hs : SR E ρ β s a w) {y z : Operand} {y' z' : Opd} {t e sz : Nat} (ho : o.op = .indexAddr t y z) (hy : cOpd y = some y') (hz : cOpd z = some z') (ht : P.underlying t = some (.slice e))
    (hsz : sizeOf? P e = some sz) (h : aop G o.dst (.iad sz y' z') s = some (x, s')) : Sound E P o x s' a w := by
  have hrun : ∀ B off n cap k (i : Int), a.eval y = .slice (some ⟨B, off, none⟩) n cap → a.eval z = .int k i → 0 ≤ i → i < n →
      (execOp a.eval o).run P w = .ok (.value (.pointer (some ⟨B, off + i.toNat * sz, none⟩))) w := by
    intro B off n cap k i he hi h0 h1
    simp [execOp, ho, he, hi, Instr.indexAt, asIntOf, run_underlying ht, h0, h1, sizeOf_run hsz, add_at]
  simp only [aop] at h
  split at h
  · rename_i b off n s2 k i hv hi
    split at h
    · rename_i hc
      obtain ⟨h0, h1, rfl⟩ := hc
      cases h
      have h4 := hs.opdv hy hv
      simp only [VR] at h4
      obtain ⟨h5, B, o', cap, he, ho', _, _, hu⟩ := h4
      obtain rfl : o' = off := by omega
      refine Sound.pure hs (hrun B _ n cap k i he (hs.litv hz hi) h0 h1) ?_
      simp only [TR, VR]
      exact ⟨h5, B, rfl, hu⟩
    · cases h
  · rename_i cs n k i hv hi
    split at h
    · rename_i hc
      cases h
      have h4 := hs.opdv hy hv
      simp only [VR] at h4
      obtain ⟨B, off, cap, he, hn, him, hr⟩ := h4
      refine Sound.pure hs (hrun B off n cap k i he (hs.litv hz hi) hc.1 hc.2) ?_
      simp only [TR, VR]
      exact ⟨B, _, rfl, him, hr.drop _⟩
    · cases h
  · cases h

theorem sound_iaa (hs : SR E ρ β s a w) {y z : Operand} {y' z' : Opd} {t n e sz : Nat} (ho : o.op = .indexAddr t y z) (hy : cOpd y = some y') (hz : cOpd z = some z') (ht : P.underlying t = some (.array n e))
    (hsz : sizeOf? P e = some sz) (h : aop G o.dst (.iaa n sz y' z') s = some (x, s')) : Sound E P o x s' a w := by
  have hrun : ∀ B off k (i : Int), a.eval y = .pointer (some ⟨B, off, none⟩) → a.eval z = .int k i → 0 ≤ i → i < n →
      (execOp a.eval o).run P w = .ok (.value (.pointer (some ⟨B, off + i.toNat * sz, none⟩))) w := by
    intro B off k i he hi h0 h1
    simp [execOp, ho, he, hi, Instr.indexAt, asIntOf, run_underlying ht, h0, h1, sizeOf_run hsz, add_at, Instr.sureAddr]
  simp only [aop] at h
  split at h
  · rename_i t' off k i hv hi
    split at h
    · rename_i hc
      obtain ⟨h0, h1, h3⟩ := hc
      cases h
      obtain ⟨cs, hc⟩ := Option.isSome_iff_exists.1 h3
      obtain ⟨B, hB, he, hr⟩ := hs.lpv hy hv hc
      exact Sound.pure hs (hrun B off k i he (hs.litv hz hi) h0 h1) (by intro B' hB'; rw [hB] at hB'; cases hB'; rfl)
    · cases h
  · rename_i b off k i hv hi
    split at h
    · rename_i hc
      obtain ⟨h0, h1⟩ := hc
      cases h
      have h4 := hs.opdv hy hv
      simp only [VR] at h4
      obtain ⟨h5, B, he, hu⟩ := h4
      refine Sound.pure hs (hrun B off k i he (hs.litv hz hi) h0 h1) ?_
      simp only [TR, VR]
      exact ⟨h5, B, rfl, hu⟩
    · cases h
  · rename_i cs k i hv hi
    split at h
    · rename_i hc
      cases h
      have h1 := hs.opdv hy hv
      simp only [VR] at h1
      obtain ⟨B, off, he, him, hr⟩ := h1
      refine Sound.pure hs (hrun B off k i he (hs.litv hz hi) hc.1 hc.2) ?_
      simp only [TR, VR]
      exact ⟨B, _, rfl, him, hr.drop _⟩
    · cases h
  · cases h

/-- Reading. -/
theorem rd_cells {ag : Bool} {sz t B off : Nat} {cs : List V} {u : V} (hag : isAgg? P t = some ag) (hsz : sizeOf? P t = some sz) (hr : VRrow ρ w B off cs) (h : rd ag sz cs = some u) :
    ∃ y, (loadVar t ⟨B, off, none⟩).run P w = .ok y w ∧ VR ρ w u y := by
  unfold rd at h
  cases ag with
  | true =>
    simp only [if_true] at h
    split at h
    · rename_i hle
      cases h
      obtain ⟨xs, h1, h2⟩ := (hr.take sz).list
      have hl : xs.length = sz := by rw [h1.length]; simp; omega
      have h3 := run_loadCells_list (P := P) w ⟨B, off, none⟩ xs (fun j v hv => by rw [add_at]; exact h2 j v hv)
      rw [hl] at h3
      refine ⟨.agg xs.toArray, by simp [loadVar, isAgg_run hag, sizeOf_run hsz, h3], ?_⟩
      simp only [VR]
      exact ⟨_, rfl, by simpa using h1⟩
    · cases h
  | false =>
    simp only [Bool.false_eq_true, if_false] at h
    cases cs with
    | nil => simp at h
    | cons c r =>
      simp at h
      subst h
      simp only [VRrow] at hr
      obtain ⟨⟨y, h1, h2⟩, _⟩ := hr
      exact ⟨y, by simp [loadVar, isAgg_run hag, h1], h2⟩

theorem RowAt.row {B : Nat} {cs : List V} (h : RowAt ρ w B cs) : VRrow ρ w B 0 cs := by
  obtain ⟨C, e, h1, h2, h3⟩ := h
  refine VRrow.of_get fun i v hv => ?_
  have hlt : i < cs.length := by
    rcases Nat.lt_or_ge i cs.length with h | h
    · exact h
    · rw [List.getElem?_eq_none h] at hv; cases hv
  obtain ⟨x, hx, hr⟩ := h3.get i v hv
  refine ⟨x, ?_, hr⟩
  rw [List.getElem?_take, if_pos hlt] at hx
  simp only [World.cell?, h1, Nat.zero_add]
  simpa using hx

theorem sound_ld (hs : SR E ρ β s a w) {y : Operand} {y' : Opd} {t sz : Nat} {ag : Bool} (ho : o.op = .load t y) (hy : cOpd y = some y') (hag : isAgg? P t = some ag) (hsz : sizeOf? P t = some sz)
    (h : aop G o.dst (.ld ag sz y') s = some (x, s')) : Sound E P o x s' a w := by
  have fin : ∀ B off cs u, a.eval y = .pointer (some ⟨B, off, none⟩) → VRrow ρ w B off cs → rd ag sz cs = some u → Sound E P o (.v u) s a w := by
    intro B off cs u he hr hu
    obtain ⟨z, h1, h2⟩ := rd_cells hag hsz hr hu
    exact Sound.pure hs (y := z) (by simp [execOp, ho, he, Instr.loadAt, Instr.sureAddr, h1]) h2
  simp only [aop] at h
  split at h
  · rename_i t' off hv
    split at h
    · rename_i cs hc
      obtain ⟨u, h1, rfl, rfl⟩ := vres_some h
      obtain ⟨B, hB, he, hr⟩ := hs.lpv hy hv hc
      exact fin B off _ u he (by have := hr.row.drop off; rwa [Nat.zero_add] at this) h1
    · cases h
  · rename_i b off hv
    split at h
    · rename_i cs hc
      obtain ⟨u, h1, rfl, rfl⟩ := vres_some h
      obtain ⟨B, hB, he, hr⟩ := hs.ptrv hy hv hc
      exact fin B off _ u he (by have := (RowAt.row hr).drop off; rwa [Nat.zero_add] at this) h1
    · cases h
  · rename_i cs hv
    obtain ⟨u, h1, rfl, rfl⟩ := vres_some h
    have h2 := hs.opdv hy hv
    simp only [VR] at h2
    obtain ⟨B, off, he, _, hr⟩ := h2
    exact fin B off cs u he hr h1
  · cases h
end
end Iso

/- The abstract layer, sixth part: arithmetic, comparisons, parts of values. Nothing of a program. -/
namespace Iso
open Go Go.RowKit
section
variable {E : Entry} {ρ : Rn} {β : Nat → Option Nat} {s s' : St} {a : Act} {w : World} {P : Program} {o : Oper} {x : T} {G : List Nat}

theorem binI_run {op : BinOp} {k : IntKind} {p q : Int} {r : Value} (hsh : isSh op = false) (h : binI op k p q = some r) (t : TypeId) (w : World) : (binOp op t (.int k p) (.int k q)).run P w = .ok r w := by
  cases op <;> simp [binI, isSh] at h hsh
  case quo => obtain ⟨h0, rfl⟩ := h; simp [binOp, Op.intDiv, h0]
  case rem => obtain ⟨h0, rfl⟩ := h; simp [binOp, Op.intDiv, h0]
  all_goals subst h
  all_goals simp [binOp, Op.intArith, Op.intBits, Op.intCmp]
theorem shI_run {op : BinOp} {k k' : IntKind} {p q : Int} {r : Value} (hsh : isSh op = true) (h : shI op k p q = some r) (t : TypeId) (w : World) : (binOp op t (.int k p) (.int k' q)).run P w = .ok r w := by
  cases op <;> simp [isSh] at hsh
  all_goals
    simp only [shI] at h
    split at h
    · cases h
    · rename_i h0
      simp at h
      subst h
      simp [binOp, Op.shift, h0]

theorem eqGuard_int (op : BinOp) (t : TypeId) (x y : Operand) (k k' : IntKind) (p q : Int) (w : World) : (eqGuard op t x y (.int k p) (.int k' q)).run P w = .ok () w := by
  cases op <;> simp [eqGuard]

theorem sound_bin (hs : SR E ρ β s a w) {op : BinOp} {y z : Operand} {y' z' : Opd} {t t2 : TypeId} (ho : o.op = .binOp op t y z t2) (hy : cOpd y = some y') (hz : cOpd z = some z')
    (h : aop G o.dst (.bin op y' z') s = some (x, s')) : Sound E P o x s' a w := by
  simp only [aop] at h
  split at h
  · rename_i u v hu hv
    obtain ⟨r, h1, rfl, rfl⟩ := vres_some h
    unfold binV at h1
    split at h1
    · rename_i k p k' q
      have e1 := hs.litv hy hu
      have e2 := hs.litv hz hv
      split at h1
      · rename_i hsh
        simp only [Option.map_eq_some_iff] at h1
        obtain ⟨r', h2, rfl⟩ := h1
        refine Sound.pure hs (y := r') ?_ (by simp [TR, VR])
        simp [execOp, ho, e1, e2, eqGuard_int, shI_run hsh h2]
      · rename_i hsh
        split at h1
        · rename_i hk
          subst hk
          simp only [Option.map_eq_some_iff] at h1
          obtain ⟨r', h2, rfl⟩ := h1
          refine Sound.pure hs (y := r') ?_ (by simp [TR, VR])
          simp [execOp, ho, e1, e2, eqGuard_int, binI_run (by simpa using hsh) h2]
        · cases h1
    · cases h1
  · cases h

theorem sound_eqb (hs : SR E ρ β s a w) {neg : Bool} {y z : Operand} {y' z' : Opd} {t t2 : TypeId} (ht : P.underlying t = some .bool) (ho : o.op = .binOp (if neg then .neq else .eql) t y z t2) (hy : cOpd y = some y') (hz : cOpd z = some z')
    (h : aop G o.dst (.eqb neg y' z') s = some (x, s')) : Sound E P o x s' a w := by
  simp only [aop] at h
  split at h
  · rename_i u v hu hv
    cases h
    have e1 := hs.litv hy hu
    have e2 := hs.litv hz hv
    refine Sound.pure hs (y := .bool (if neg then !(u == v) else u == v)) ?_ (by simp [TR, VR])
    cases neg <;> simp [execOp, ho, e1, e2, eqGuard, binOp, Op.equal, Op.maxDepth, run_equalIn_bool' (P := P) (w := w) (h := ht)]
  · cases h

theorem eqV_run {k : Bool} {u v : V} {p q : Value} {b : Bool} {t : TypeId} (h : eqV k u v = some b) (hu : VR ρ w u p) (hv : VR ρ w v q) (ht : ∃ d, P.underlying t = some d ∧ (if k then (∃ ki, d = .int ki) else d = .bool)) (d : Nat) (w' : World) :
    (Op.equalIn (d + 1) t p q).run P w' = .ok b w' := by
  obtain ⟨dd, ht, hk⟩ := ht
  unfold eqV at h
  split at h
  · simp only [VR] at hu hv
    subst hu hv
    simp at hk
    obtain ⟨ki, rfl⟩ := hk
    split at h
    · rename_i he; subst he; cases h; exact run_equalIn_int w' d t _ ki _ _ ht
    · cases h
  · simp only [VR] at hu hv
    subst hu hv
    simp at hk
    subst hk
    cases h
    exact run_equalIn_bool' w' d t _ _ ht
  · cases h

theorem run_eqFields_plain (d : Nat) (w' : World) : ∀ (fs : List Field) (n : Nat) (ks : List Bool) (as bs : List V) (xs ys : Array Value) (r : Bool), plainFields P n fs = some ks → VRs ρ w as (xs.toList.drop n) → VRs ρ w bs (ys.toList.drop n) → eqVs ks as bs = some r →
    (Op.eqFields (d + 1) xs ys fs).run P w' = .ok r w'
  | [], n, ks, as, bs, xs, ys, r, hp, _, _, hr => by
    simp [plainFields] at hp
    subst hp
    unfold eqVs at hr
    split at hr <;> simp_all [Op.eqFields]
  | f :: fs, n, ks, as, bs, xs, ys, r, hp, hx, hy, hr => by
    simp only [plainFields] at hp
    split at hp
    · rename_i hc
      simp only [Bool.and_eq_true, bne_iff_ne, beq_iff_eq] at hc
      obtain ⟨hn', hoff'⟩ := hc
      have key : ∃ k ks', ks = k :: ks' ∧ plainFields P (n + 1) fs = some ks' ∧ (∃ d, P.underlying f.type = some d ∧ (if k then (∃ ki, d = .int ki) else d = .bool)) := by
        split at hp
        · rename_i ki hk
          simp only [Option.map_eq_some_iff] at hp
          obtain ⟨ks', h1, rfl⟩ := hp
          exact ⟨true, ks', rfl, h1, _, hk, by simp⟩
        · rename_i hk
          simp only [Option.map_eq_some_iff] at hp
          obtain ⟨ks', h1, rfl⟩ := hp
          exact ⟨false, ks', rfl, h1, _, hk, by simp⟩
        · cases hp
      obtain ⟨k, ks', rfl, hp', hty⟩ := key
      cases as with
      | nil => simp [eqVs] at hr
      | cons u as =>
        cases bs with
        | nil => simp [eqVs] at hr
        | cons v bs =>
          simp only [VRs] at hx hy
          obtain ⟨p, xr, hx1, hu, hx2⟩ := hx
          obtain ⟨q, yr, hy1, hv, hy2⟩ := hy
          have gx : xs[n]? = some p := by have := congrArg (·[0]?) hx1; simpa using this
          have gy : ys[n]? = some q := by have := congrArg (·[0]?) hy1; simpa using this
          have dx : xs.toList.drop (n + 1) = xr := by have := congrArg List.tail hx1; simpa using this
          have dy : ys.toList.drop (n + 1) = yr := by have := congrArg List.tail hy1; simpa using this
          have hagg : isAgg? P f.type = some false := by
            obtain ⟨dd, h1, h2⟩ := hty
            unfold isAgg?
            rw [h1]
            cases k
            · simp at h2; subst h2; rfl
            · simp at h2; obtain ⟨ki, rfl⟩ := h2; rfl
          have px : (part f.type xs n).run P w' = .ok p w' := by simp [part, isAgg_run hagg, gx]
          have py : (part f.type ys n).run P w' = .ok q w' := by simp [part, isAgg_run hagg, gy]
          simp only [eqVs] at hr
          split at hr
          · rename_i he
            have h1 := eqV_run (w' := w') (d := d) he hu hv hty
            have ih := run_eqFields_plain d w' fs (n + 1) ks' as bs xs ys r hp' (by rw [dx]; exact hx2) (by rw [dy]; exact hy2) hr
            simp [Op.eqFields, hn', hoff', px, py, h1, ih]
          · rename_i he
            have h1 := eqV_run (w' := w') (d := d) he hu hv hty
            split at hr
            · cases hr
              simp [Op.eqFields, hn', hoff', px, py, h1]
            · cases hr
          · cases hr
    · cases hp

theorem plainStruct_some {t : TypeId} {ks : List Bool} (h : plainStruct P t = some ks) : P.stoodInHeld t = false ∧ P.eqGuardType P.depth t = false ∧ ∃ fs, P.underlying t = some (.struct fs) ∧ P.fieldsOf t = fs ∧ plainFields P 0 fs.toList = some ks := by
  unfold plainStruct at h
  split at h
  · rename_i hc
    simp at hc
    split at h
    · rename_i fs hf; exact ⟨hc.1, hc.2, fs, hf, by simp [Program.fieldsOf, hf], h⟩
    · cases h
  · cases h

theorem run_equalIn_plain {t : TypeId} {ks : List Bool} {as bs : List V} {xs ys : Array Value} {r : Bool} (h : plainStruct P t = some ks) (hx : VRs ρ w as xs.toList) (hy : VRs ρ w bs ys.toList) (hr : eqVs ks as bs = some r) (d : Nat) (w' : World) :
    (Op.equalIn (d + 2) t (.agg xs) (.agg ys)).run P w' = .ok r w' := by
  obtain ⟨h1, h2, fs, h3, h4, h5⟩ := plainStruct_some h
  rw [run_equalIn_struct w' (d + 1) t xs ys (by rw [h4]; exact h3) h1, h4]
  exact run_eqFields_plain d w' fs.toList 0 ks as bs xs ys r h5 (by simpa using hx) (by simpa using hy) hr

theorem sound_eqc (hs : SR E ρ β s a w) {neg : Bool} {ks : List Bool} {y z : Operand} {y' z' : Opd} {t t2 : TypeId} (ht : plainStruct P t = some ks) (ho : o.op = .binOp (if neg then .neq else .eql) t y z t2) (hy : cOpd y = some y') (hz : cOpd z = some z')
    (h : aop G o.dst (.eqc neg ks y' z') s = some (x, s')) : Sound E P o x s' a w := by
  simp only [aop] at h
  split at h
  · rename_i as bs hu hv
    obtain ⟨r, h1, rfl, rfl⟩ := vres_some h
    simp only [Option.map_eq_some_iff] at h1
    obtain ⟨b, h2, rfl⟩ := h1
    have e1 := hs.opdv hy hu
    have e2 := hs.opdv hz hv
    simp only [VR] at e1 e2
    obtain ⟨xs, e1, g1⟩ := e1
    obtain ⟨ys, e2, g2⟩ := e2
    have hg := (plainStruct_some ht).2.1
    have h3 := run_equalIn_plain (P := P) ht g1 g2 h2 9998 w
    refine Sound.pure hs (y := .bool (if neg then !b else b)) ?_ (by simp [TR, VR])
    cases neg
    · simp [execOp, ho, e1, e2, run_eqGuard_agg (hm := hg), run_eql_struct, h3]
    · simp [execOp, ho, e1, e2, run_eqGuard_agg (hm := hg), run_neq_struct, h3]
  · cases h

theorem sound_eqn (hs : SR E ρ β s a w) {neg : Bool} {y z : Operand} {y' z' : Opd} {t t2 e : TypeId} (ht : P.underlying t = some (.pointer e)) (ho : o.op = .binOp (if neg then .neq else .eql) t y z t2) (hy : cOpd y = some y') (hz : cOpd z = some z')
    (h : aop G o.dst (.eqn neg y' z') s = some (x, s')) : Sound E P o x s' a w := by
  have ht' : P.underlying t = some (.pointer (P.pointee t)) := by simp [Program.pointee, ht]
  simp only [aop] at h
  split at h
  · rename_i u v hu hv
    obtain ⟨r, h1, rfl, rfl⟩ := vres_some h
    simp only [Option.map_eq_some_iff] at h1
    obtain ⟨b, h2, rfl⟩ := h1
    have e1 := hs.opdv hy hu
    have e2 := hs.opdv hz hv
    have fin : ∀ p : Option Addr, a.eval y = .pointer p → a.eval z = .pointer none → p.isNone = b → Sound E P o (.v (.lit (.bool (if neg then !b else b)))) s' a w := by
      intro p hp hq hb
      subst hb
      refine Sound.pure hs (y := .bool (if neg then !p.isNone else p.isNone)) ?_ (by simp [TR, VR])
      cases neg
      · simp [execOp, ho, hp, hq, eqGuard, run_eql_pointer_nil w t p ht']
      · simp [execOp, ho, hp, hq, eqGuard, run_neq_pointer_nil w t p ht']
    unfold eqN at h2
    split at h2
    · cases h2
      simp only [VR] at e1 e2
      exact fin _ e1 e2 rfl
    · cases h2
      simp only [VR] at e1 e2
      obtain ⟨_, B, he, _⟩ := e1
      exact fin _ he e2 rfl
    · cases h2
      simp only [VR] at e1 e2
      obtain ⟨B, off, he, _⟩ := e1
      exact fin _ he e2 rfl
    · cases h2
  · cases h

theorem sound_un (hs : SR E ρ β s a w) {op : UnOp} {y : Operand} {y' : Opd} {t : TypeId} (ho : o.op = .unOp op t y) (hy : cOpd y = some y') (h : aop G o.dst (.un op y') s = some (x, s')) : Sound E P o x s' a w := by
  simp only [aop] at h
  split at h
  · rename_i u hu
    obtain ⟨r, h1, rfl, rfl⟩ := vres_some h
    unfold unV at h1
    split at h1 <;> first | (cases h1; done) | skip
    all_goals
      have e1 := hs.litv hy hu
      cases h1
    · exact Sound.pure hs (y := _) (by simp [execOp, ho, e1, Op.unary, Op.intArith]; rfl) (by simp [TR, VR])
    · exact Sound.pure hs (y := _) (by simp [execOp, ho, e1, Op.unary, Op.intBits]; rfl) (by simp [TR, VR])
    · exact Sound.pure hs (y := _) (by simp [execOp, ho, e1, Op.unary]; rfl) (by simp [TR, VR])
  · cases h

theorem sound_cv (hs : SR E ρ β s a w) {y : Operand} {y' : Opd} {t d : TypeId} {k k0 : IntKind} (ho : o.op = .convert t d y) (ht : P.underlying t = some (.int k0)) (hd : P.underlying d = some (.int k)) (hy : cOpd y = some y') (h : aop G o.dst (.cv k y') s = some (x, s')) : Sound E P o x s' a w := by
  simp only [aop] at h
  split at h
  · rename_i k1 n hu
    cases h
    have e1 := hs.litv hy hu
    exact Sound.pure hs (y := .int k (k.wrap n)) (by simp [execOp, ho, e1, convert, run_underlying ht, run_underlying hd, Conv.intToInt]) (by simp [TR, VR])
  · cases h

theorem rd_part {ag : Bool} {sz t off : Nat} {cs : List V} {xs : Array Value} {u : V} (hag : isAgg? P t = some ag) (hsz : sizeOf? P t = some sz) (hr : VRs ρ w cs xs.toList) (h : rd ag sz (cs.drop off) = some u) :
    ∃ y, (part t xs off).run P w = .ok y w ∧ VR ρ w u y := by
  unfold rd at h
  cases ag with
  | true =>
    simp only [if_true] at h
    split at h
    · cases h
      refine ⟨.agg (xs.extract off (off + sz)), by simp [part, isAgg_run hag, sizeOf_run hsz], ?_⟩
      simp only [VR]
      refine ⟨_, rfl, ?_⟩
      have := (hr.drop off).take sz
      rw [Array.toList_extract]
      simpa [List.extract_eq_take_drop, Nat.add_sub_cancel_left] using this
    · cases h
  | false =>
    simp only [Bool.false_eq_true, if_false] at h
    rw [List.head?_drop] at h
    obtain ⟨y, h1, h2⟩ := hr.get off u h
    have h3 : xs[off]? = some y := by simpa using h1
    exact ⟨y, by simp [part, isAgg_run hag, h3], h2⟩

theorem sound_ixa (hs : SR E ρ β s a w) {y z : Operand} {y' z' : Opd} {t n e sz : Nat} {ag : Bool} (ho : o.op = .index t y z) (hy : cOpd y = some y') (hz : cOpd z = some z') (ht : P.underlying t = some (.array n e))
    (hsz : sizeOf? P e = some sz) (hag : isAgg? P e = some ag) (h : aop G o.dst (.ixa n sz ag y' z') s = some (x, s')) : Sound E P o x s' a w := by
  simp only [aop] at h
  split at h
  · rename_i cs k i hu hv
    split at h
    · rename_i hc
      obtain ⟨u, h1, rfl, rfl⟩ := vres_some h
      have e1 := hs.opdv hy hu
      simp only [VR] at e1
      obtain ⟨xs, e1, g1⟩ := e1
      have e2 := hs.litv hz hv
      obtain ⟨q, h2, h3⟩ := rd_part (P := P) hag hsz g1 h1
      exact Sound.pure hs (y := q) (by simp [execOp, ho, e1, e2, Instr.index, asIntOf, run_underlying ht, hc.1, hc.2, sizeOf_run hsz, h2]) h3
    · cases h
  · cases h

theorem sound_ixs (hs : SR E ρ β s a w) {z : Operand} {z' : Opd} {t : Nat} {b : ByteArray} (ho : o.op = .index t (.const (.string b)) z) (hz : cOpd z = some z') (ht : P.underlying t = some .string)
    (h : aop G o.dst (.ixs (b.data.toList.map UInt8.toNat) z') s = some (x, s')) : Sound E P o x s' a w := by
  simp only [aop] at h
  split at h
  · rename_i k i hv
    split at h
    · rename_i hc
      obtain ⟨u, h1, rfl, rfl⟩ := vres_some h
      simp only [List.getElem?_map, Option.map_map, Option.map_eq_some_iff] at h1
      obtain ⟨c, h1, rfl⟩ := h1
      have e2 := hs.litv hz hv
      have e1 : b[i.toNat]? = some c := by
        have hlt : i.toNat < b.data.size := by
          have := (List.getElem?_eq_some_iff.1 h1).1
          simpa using this
        have hv : b.data[i.toNat] = c := by
          have := (List.getElem?_eq_some_iff.1 h1).2
          simpa using this
        have hlt' : i.toNat < b.size := hlt
        rw [getElem?_pos b i.toNat hlt']
        exact congrArg some hv
      have e0 : a.eval (.const (.string b)) = .string b := rfl
      exact Sound.pure hs (y := .int .u8 c.toNat) (by simp [execOp, ho, e0, e2, Instr.index, asIntOf, run_underlying ht, hc, e1]) (by simp [TR, VR])
    · cases h
  · cases h

theorem sound_fld (hs : SR E ρ β s a w) {y : Operand} {y' : Opd} {t f sz : Nat} {fs : Array Field} {fd : Field} {ag : Bool} (ho : o.op = .field t y f) (hy : cOpd y = some y') (ht : P.underlying t = some (.struct fs)) (hf : fs[f]? = some fd)
    (hsz : sizeOf? P fd.type = some sz) (hag : isAgg? P fd.type = some ag) (h : aop G o.dst (.fld fd.offset sz ag y') s = some (x, s')) : Sound E P o x s' a w := by
  simp only [aop] at h
  split at h
  · rename_i cs hu
    obtain ⟨u, h1, rfl, rfl⟩ := vres_some h
    have e1 := hs.opdv hy hu
    simp only [VR] at e1
    obtain ⟨xs, e1, g1⟩ := e1
    obtain ⟨q, h2, h3⟩ := rd_part (P := P) hag hsz g1 h1
    exact Sound.pure hs (y := q) (by simp [execOp, ho, e1, Instr.field, asAgg, run_underlying ht, hf, h2]) h3
  · cases h

theorem mnV_run {mx : Bool} : ∀ {vs : List V} {xs : List Value} {k : IntKind} {i : Int} {u : V}, VRs ρ w vs xs → mnV mx (.lit (.int k i)) vs = some u → ∃ y, VR ρ w u y ∧ (xs.foldlM (if mx then Builtin.max2 else Builtin.min2) (.int k i)).run P w = .ok y w
  | [], xs, k, i, u, h, hm => by
    simp only [VRs] at h; subst h
    simp [mnV] at hm; subst hm
    exact ⟨.int k i, by simp [VR], by simp⟩
  | v :: vs, xs, k, i, u, h, hm => by
    simp only [VRs] at h
    obtain ⟨z, r, rfl, h1, h2⟩ := h
    unfold mnV at hm
    split at hm
    · cases ‹_ :: _ = []›
    · rename_i k1 i1 k2 i2 r' he1 he2
      cases he1
      cases he2
      simp only [VR] at h1
      subst h1
      obtain ⟨y, g1, g2⟩ := mnV_run h2 hm
      refine ⟨y, g1, ?_⟩
      cases mx
      · simp only [Bool.false_eq_true, if_false] at g2
        simp [Builtin.min2, g2]
      · simp only [if_true] at g2
        simp [Builtin.max2, g2]
    · cases hm

theorem sound_mnx (hs : SR E ρ β s a w) {mx : Bool} {c : Call} {xs' : List Opd} (ho : o.op = .call c) (hc : c.callee = .builtin (if mx then .max else .min)) (hx : cOpds c.args.toList = some xs') (h : aop G o.dst (.mnx mx xs') s = some (x, s')) : Sound E P o x s' a w := by
  simp only [aop] at h
  split at h
  · rename_i u r hv
    obtain ⟨q, h1, rfl, rfl⟩ := vres_some h
    split at h1
    · rename_i k i
      have g := hs.evs hx hv
      simp only [VRs] at g
      obtain ⟨z, l, g0, g1, g2⟩ := g
      simp only [VR] at g1
      subst g1
      obtain ⟨y, g3, g4⟩ := mnV_run (P := P) (mx := mx) g2 h1
      refine Sound.pure hs (y := y) ?_ g3
      have g0' : (c.args.map a.eval).toList = .int k i :: l := by simpa using g0
      cases mx
      · simp only [Bool.false_eq_true, if_false] at g4 hc
        simp [execOp, ho, hc, resolve, invoke, builtin, Builtin.min_, g0, g4]
      · simp only [if_true] at g4 hc
        simp [execOp, ho, hc, resolve, invoke, builtin, Builtin.max_, g0, g4]
    · cases h1
  · cases h

theorem lookG_add : Extern.allGenericRows.lookup "math/bits.Add64" = none := by kernel_rfl
theorem lookT_add : Extern.allTypedRows.lookup "math/bits.Add64" = none := by kernel_rfl
theorem lookR_add : Extern.allRows.lookup "math/bits.Add64" = some add64Entry := by kernel_rfl
def sub64Entry : Array Value → Sem Value := fun args => do
  let (x, y, b) ← Extern.MathBitsCarry.three "Sub64" args
  pure (Extern.MathBitsCarry.pair ((x + Extern.MathBitsCarry.m64 - y - b) % Extern.MathBitsCarry.m64) (if x < y + b then 1 else 0))
theorem lookG_sub : Extern.allGenericRows.lookup "math/bits.Sub64" = none := by kernel_rfl
theorem lookT_sub : Extern.allTypedRows.lookup "math/bits.Sub64" = none := by kernel_rfl
theorem lookR_sub : Extern.allRows.lookup "math/bits.Sub64" = some sub64Entry := by kernel_rfl

theorem run_sub64 (x y c : Int) (hx : 0 ≤ x) (hy : 0 ≤ y) (hc0 : 0 ≤ c) (hc : c ≤ 1) (hx1 : x < 18446744073709551616) (hy1 : y < 18446744073709551616) (w : World) :
    (sub64Entry #[.int .u64 x, .int .u64 y, .int .u64 c]).run P w =
      .ok (.tuple #[.int .u64 ((x - y - c) % 18446744073709551616), .int .u64 (if x < y + c then 1 else 0)]) w := by
  have key : ∀ k : Nat, k ≤ 1 → (sub64Entry #[.int .u64 x, .int .u64 y, .int .u64 (k : Int)]).run P w =
      .ok (Extern.MathBitsCarry.pair ((x.toNat + Extern.MathBitsCarry.m64 - y.toNat - k) % Extern.MathBitsCarry.m64) (if x.toNat < y.toNat + k then 1 else 0)) w := by
    intro k hk
    have : k = 0 ∨ k = 1 := by omega
    rcases this with rfl | rfl <;> rfl
  obtain ⟨k, rfl⟩ := Int.eq_ofNat_of_zero_le hc0
  rw [key k (by omega)]
  obtain ⟨X, rfl⟩ := Int.eq_ofNat_of_zero_le hx
  obtain ⟨Y, rfl⟩ := Int.eq_ofNat_of_zero_le hy
  simp only [Extern.MathBitsCarry.pair, Extern.MathBitsCarry.m64, Int.toNat_natCast]
  congr 4
  · congr 1
    simp
    omega
  · by_cases hlt : X < Y + k
    · rw [if_pos hlt, if_pos (by omega)]; rfl
    · rw [if_neg hlt, if_neg (by omega)]; rfl

theorem run_callFunc_named {f : Nat} {n : String} {e : Array Value → Sem Value} (hf : fnNamed P f n = true) (h1 : Extern.allGenericRows.lookup n = none) (h2 : Extern.allTypedRows.lookup n = none) (h3 : Extern.allRows.lookup n = some e) (args : Array Value) (w : World) :
    (callFunc f args).run P w = ((e args).run P w).andThen fun v w' => .ok (.value v) w' := by
  unfold fnNamed at hf
  split at hf
  · rename_i fn hfn
    simp only [Bool.and_eq_true, beq_iff_eq, Bool.not_eq_true'] at hf
    obtain ⟨⟨⟨g1, g2⟩, g3⟩, g4⟩ := hf
    refine run_callFunc_extern hfn g3 g2 (by simpa using g4) ?_ args w
    simp [Extern.find, g1, h1, h2, h3]
  · cases hf

theorem cOpds3 {xs : List Operand} {x y z : Opd} (h : cOpds xs = some [x, y, z]) : ∃ p q r, xs = [p, q, r] ∧ cOpd p = some x ∧ cOpd q = some y ∧ cOpd r = some z := by
  match xs, h with
  | [], h => simp [cOpds] at h
  | [p], h => simp [cOpds, Option.bind_eq_some_iff] at h
  | [p, q], h => simp [cOpds, Option.bind_eq_some_iff] at h
  | [p, q, r], h => simp [cOpds, Option.bind_eq_some_iff] at h; exact ⟨p, q, r, rfl, by simp [h], by simp [h], by simp [h]⟩
  | p :: q :: r :: t :: u, h => 
    simp only [cOpds, Option.pure_def, Option.bind_eq_bind, Option.bind_eq_some_iff] at h
    obtain ⟨_, _, _, ⟨_, _, _, ⟨_, _, _, ⟨_, _, _, _, h1⟩, h2⟩, h3⟩, h4⟩ := h
    cases h1; cases h2; cases h3; cases h4

theorem sound_adc (hs : SR E ρ β s a w) {c : Call} {f : Nat} {x' y' z' : Opd} (ho : o.op = .call c) (hc : c.callee = .value (.func f)) (hx : cOpds c.args.toList = some [x', y', z']) (hf : fnNamed P f "math/bits.Add64" = true) (h : aop G o.dst (.adc x' y' z') s = some (x, s')) : Sound E P o x s' a w := by
  obtain ⟨p, q, r, h0, hp, hq, hr⟩ := cOpds3 hx
  simp only [aop] at h
  split at h
  · rename_i i j k hi hj hk
    split at h
    · rename_i hb
      cases h
      have e1 := hs.litv hp hi
      have e2 := hs.litv hq hj
      have e3 := hs.litv hr hk
      refine Sound.pure hs (y := .tuple #[.int .u64 ((i + j + k) % 18446744073709551616), .int .u64 ((i + j + k) / 18446744073709551616)]) ?_ ?_
      · have ha : c.args = #[p, q, r] := by rw [← Array.toArray_toList (xs := c.args), h0]
        have hf0 : a.eval (.func f) = .func (.func f) #[] #[] := rfl
        simp only [execOp, ho, resolve, hc, ha]
        simp [hf0, Deferred.ofValue, invoke, e1, e2, e3]
        rw [run_callFunc_named hf lookG_add lookT_add lookR_add, run_add64 i j k hb.1 hb.2.1 hb.2.2.1 hb.2.2.2]
        rfl
      · simp [TR, VR, VRs]
    · cases h
  · cases h

theorem sound_sbb (hs : SR E ρ β s a w) {c : Call} {f : Nat} {x' y' z' : Opd} (ho : o.op = .call c) (hc : c.callee = .value (.func f)) (hx : cOpds c.args.toList = some [x', y', z']) (hf : fnNamed P f "math/bits.Sub64" = true) (h : aop G o.dst (.sbb x' y' z') s = some (x, s')) : Sound E P o x s' a w := by
  obtain ⟨p, q, r, h0, hp, hq, hr⟩ := cOpds3 hx
  simp only [aop] at h
  split at h
  · rename_i i j k hi hj hk
    split at h
    · rename_i hb
      cases h
      have e1 := hs.litv hp hi
      have e2 := hs.litv hq hj
      have e3 := hs.litv hr hk
      refine Sound.pure hs (y := .tuple #[.int .u64 ((i - j - k) % 18446744073709551616), .int .u64 (if i < j + k then 1 else 0)]) ?_ ?_
      · have ha : c.args = #[p, q, r] := by rw [← Array.toArray_toList (xs := c.args), h0]
        have hf0 : a.eval (.func f) = .func (.func f) #[] #[] := rfl
        simp only [execOp, ho, resolve, hc, ha]
        simp [hf0, Deferred.ofValue, invoke, e1, e2, e3]
        rw [run_callFunc_named hf lookG_sub lookT_sub lookR_sub, run_sub64 i j k hb.1 hb.2.1 hb.2.2.1 hb.2.2.2.1 hb.2.2.2.2.1 hb.2.2.2.2.2]
        rfl
      · simp [TR, VR, VRs]
    · cases h
  · cases h
end
end Iso

/- The abstract layer, seventh part: what makes and writes memory. Nothing of a program. -/
namespace Iso
open Go Go.RowKit
section
variable {E : Entry} {ρ : Rn} {β : Nat → Option Nat} {s s' : St} {a : Act} {w : World} {P : Program} {o : Oper} {x : T} {G : List Nat}

theorem flat_one {v : Value} (h : flat v = true) : v.oneCell' = true := by
  cases v <;> simp_all [flat, Value.oneCell']

theorem SR.one (hs : SR E ρ β s a w) {v : V} {y : Value} (h : v.one s.H = true) (hv : VR ρ w v y) : y.oneCell' = true := by
  cases v with
  | any => simp [V.one] at h
  | lit v => simp only [VR] at hv; subst hv; exact flat_one h
  | ptr b o =>
    simp only [VR] at hv
    obtain ⟨_, B, h1, _⟩ := hv
    rw [h1]; rfl
  | hs b o n sz =>
    simp only [VR] at hv
    obtain ⟨_, B, o', cap, h1, _⟩ := hv
    rw [h1]; rfl
  | vs cs n => simp only [VR] at hv; obtain ⟨B, o, cap, h1, _⟩ := hv; rw [h1]; rfl
  | vp cs => simp only [VR] at hv; obtain ⟨B, o, h1, _⟩ := hv; rw [h1]; rfl
  | mp b =>
    simp only [VR] at hv
    obtain ⟨_, B, h1, _⟩ := hv
    rw [h1]; rfl
  | fn f cs => simp only [VR] at hv; obtain ⟨xs, h1, _⟩ := hv; rw [h1]; rfl
  | agg cs => simp [V.one] at h
  | tup cs => simp [V.one] at h
  | yl b =>
    simp only [VR] at hv
    obtain ⟨_, B, h1, _⟩ := hv
    rw [h1]; rfl

theorem SR.ones (hs : SR E ρ β s a w) : ∀ {vs : List V} {ys : List Value}, V.ones s.H vs = true → VRs ρ w vs ys → ∀ y ∈ ys, y.oneCell' = true
  | [], ys, _, h, y, hy => by simp only [VRs] at h; subst h; cases hy
  | v :: vs, ys, h1, h, y, hy => by
    simp only [VRs] at h
    obtain ⟨z, r, rfl, hz, hr⟩ := h
    simp only [V.ones, Bool.and_eq_true] at h1
    cases hy with
    | head => exact hs.one h1.1 hz
    | tail _ hy => exact hs.ones h1.2 hr y hy

theorem cells_one {y : Value} (h : y.oneCell' = true) : y.cells = #[y] := by
  cases y <;> simp_all [Value.oneCell', Value.cells]

theorem SR.cells (hs : SR E ρ β s a w) {v : V} {y : Value} {l : List V} (h : v.cells? s.H = some l) (hv : VR ρ w v y) : VRs ρ w l y.cells.toList ∧ ∀ z ∈ y.cells.toList, z.oneCell' = true := by
  unfold V.cells? at h
  split at h
  · rename_i cs
    split at h
    · rename_i h1
      cases h
      simp only [VR] at hv
      obtain ⟨xs, rfl, h2⟩ := hv
      exact ⟨h2, hs.ones h1 h2⟩
    · cases h
  · split at h
    · rename_i h1
      cases h
      have h2 := hs.one h1 hv
      rw [cells_one h2]
      exact ⟨by simp only [VRs]; exact ⟨y, [], rfl, hv, rfl⟩, by simp [h2]⟩
    · cases h

theorem zero_VR {t : TypeId} {z : List V} (h : zero? P t = some z) : ∃ i zv, P.info? t = some i ∧ i.zero = some zv ∧ toVs zv.cells.toList = some z := by
  simp only [zero?, Option.bind_eq_bind, Option.bind_eq_some_iff] at h
  obtain ⟨i, h1, zv, h2, h3⟩ := h
  exact ⟨i, zv, h1, h2, h3⟩
theorem zeroValue_run {t : TypeId} {i : TypeInfo} {z : Value} (h1 : P.info? t = some i) (h2 : i.zero = some z) (w : World) : (zeroValue t).run P w = .ok z w := by
  simp [zeroValue, typeInfo, h1, h2]

theorem heap_push_alloc (w : World) (o : Obj) : ({ w with heap := w.heap.push o } : World) = w.alloc o := rfl

theorem newBlk_keep {ρ ρ' : Rn} {C : Array Value} {e : TypeId} {cs : List V} (k : Keep ρ w ρ' (w.alloc (.cells C e))) (h : VRs ρ w cs C.toList) : BlkAt ρ' (w.alloc (.cells C e)) w.heap.size (.cells cs) := by
  have hl := h.length
  refine ⟨C, e, World.alloc_heap_new w _, by simp at hl; omega, ?_⟩
  rw [List.take_of_length_le (by omega)]
  exact VRs.keep k _ _ h

/-- A new row of cells: a local variable, or a block with a name. -/
theorem Sound.row (hs : SR E ρ β s a w) {C : Array Value} {e : TypeId} {cs : List V} (h : VRs ρ w cs C.toList) (d : Nat) (hd : o.dst = some d) (hr : (execOp a.eval o).run P w = .ok (.value (.pointer (some ⟨w.heap.size, 0, none⟩))) (w.alloc (.cells C e)))
    (hx : (if G.contains d then some (T.v (.ptr s.H.next 0), { s with H := s.H.push (.cells cs) }) else some (.lp d 0, { s with A := s.A.kill d, L := s.L.put d cs })) = some (x, s')) : Sound E P o x s' a w := by
  split at hx
  · cases hx
    obtain ⟨ρ', h1, h2, h3⟩ := hs.push (.cells cs) (.cells C e) (fun ρ' k => newBlk_keep k h)
    refine ⟨_, _, ρ', β, .inl hr, h1, ?_⟩
    simp only [TR, VR]
    exact ⟨by rw [h3]; exact Nat.lt_succ_self _, w.heap.size, rfl, one_name h2⟩
  · cases hx
    obtain ⟨ρ', β', h1, h2⟩ := hs.local d cs C e h
    exact ⟨_, _, ρ', β', .inl hr, h1, h2⟩

theorem sound_new (hs : SR E ρ β s a w) {e : TypeId} {z : List V} (ho : o.op = .alloc e) (hz : zero? P e = some z) (h : aop G o.dst (.new z) s = some (x, s')) : Sound E P o x s' a w := by
  obtain ⟨i, zv, h1, h2, h3⟩ := zero_VR hz
  simp only [aop] at h
  split at h
  · cases h
  · rename_i d hd
    exact Sound.row hs (toVs_VRs h3) d hd (e := e) (by simp [execOp, ho, Instr.alloc, zeroValue_run h1 h2, newVar, newRow]) h

theorem sound_box (hs : SR E ρ β s a w) {e : TypeId} {y : Operand} {y' : Opd} (ho : o.op = .box e y) (hy : cOpd y = some y') (h : aop G o.dst (.box y') s = some (x, s')) : Sound E P o x s' a w := by
  simp only [aop] at h
  split at h
  · rename_i d u hd hv
    split at h
    · rename_i l hl
      have h1 := hs.opdv hy hv
      exact Sound.row hs (hs.cells hl h1).1 d hd (e := e) (by simp [execOp, ho, Instr.box, newVar, newRow]) h
    · cases h
  · cases h

theorem sound_mkm (hs : SR E ρ β s a w) {t : TypeId} {r : Option Operand} (ho : o.op = .makeMap t r) (hr : r = none) (h : aop G o.dst .mkm s = some (x, s')) : Sound E P o x s' a w := by
  subst hr
  simp only [aop, Option.some.injEq, Prod.mk.injEq] at h
  obtain ⟨rfl, rfl⟩ := h
  obtain ⟨ρ', h1, h2, h3⟩ := hs.push (.map []) (.map #[] 0) (fun ρ' k => ⟨#[], 0, World.alloc_heap_new w _, by simp [VRs], by simp [VRs]⟩)
  refine ⟨w.alloc (.map #[] 0), .map (some w.heap.size), ρ', β, .inl (by simp [execOp, ho, Instr.makeMap]), h1, ?_⟩
  simp only [TR, VR]
  exact ⟨by rw [h3]; exact Nat.lt_succ_self _, w.heap.size, rfl, one_name h2⟩

/-! ### Filling -/
theorem foldl_splice : ∀ (l : List Value) (off k : Nat) (C : Array Value), off + k + l.length ≤ C.size →
    ((l.zipIdx k).foldl (fun (cs : Array Value) (p : Value × Nat) => cs.setIfInBounds (off + p.2) p.1) C).toList = C.toList.take (off + k) ++ l ++ C.toList.drop (off + k + l.length)
  | [], off, k, C, h => by simp
  | v :: r, off, k, C, h => by
    simp only [List.zipIdx_cons, List.foldl_cons]
    rw [foldl_splice r off (k + 1) _ (by simp at h ⊢; omega)]
    have e := list_seg_step C.toList (off + k) v r (by simp at h ⊢; omega)
    simpa [Array.toList_setIfInBounds, Nat.add_assoc] using e

theorem VRs.splice {cs l : List V} {C : List Value} {y : List Value} {off : Nat} (h : VRs ρ w cs C) (hl : VRs ρ w l y) (hle : off + l.length ≤ cs.length) : VRs ρ w (splice cs off l) (C.take off ++ y ++ C.drop (off + y.length)) := by
  unfold Iso.splice
  rw [hl.length]
  exact ((h.take off).append hl).append (h.drop _)

theorem fill_sound (hs : SR E ρ β s a w) {place : Nat → Option (Nat × Nat)} : ∀ {ps : List (Nat × Operand)} {qs : List (Nat × Nat × Opd)} {cs cs' : List V} {C : Array Value}, cParts place ps = some qs → fillA s.A s.H qs cs = some cs' → VRs ρ w cs C.toList →
    ∃ C', Instr.fill place C (ps.map fun p => (p.1, a.eval p.2)) = some C' ∧ VRs ρ w cs' C'.toList
  | [], qs, cs, cs', C, h1, h2, h => by
    simp [cParts] at h1; subst h1
    simp [fillA] at h2; subst h2
    exact ⟨C, by simp [Instr.fill], h⟩
  | (i, y) :: ps, qs, cs, cs', C, h1, h2, h => by
    simp only [cParts, Option.pure_def, Option.bind_eq_bind, Option.bind_eq_some_iff] at h1
    obtain ⟨⟨off, sz⟩, hp, y', hy, qs', hq, he⟩ := h1
    cases he
    simp only [fillA] at h2
    split at h2
    · rename_i v hv
      split at h2
      · rename_i l hl
        split at h2
        · rename_i hc
          have g1 := hs.opdv hy hv
          have g2 := (hs.cells hl g1).1
          have hsz : (a.eval y).cells.size = sz := by have := g2.length; rw [Array.length_toList] at this; omega
          have hcl : C.size = cs.length := by have := h.length; simpa using this
          have hfold := foldl_splice (a.eval y).cells.toList off 0 C (by simp; omega)
          have hfe : ((a.eval y).cells.zipIdx.foldl (fun (cs : Array Value) (p : Value × Nat) => cs.setIfInBounds (off + p.2) p.1) C).toList = C.toList.take off ++ (a.eval y).cells.toList ++ C.toList.drop (off + (a.eval y).cells.toList.length) := by
            rw [← Array.foldl_toList, Array.toList_zipIdx]; exact hfold
          obtain ⟨C', h3, h4⟩ := fill_sound hs hq h2 (C := (a.eval y).cells.zipIdx.foldl (fun (cs : Array Value) (p : Value × Nat) => cs.setIfInBounds (off + p.2) p.1) C) (by
            rw [hfe]
            exact h.splice g2 (off := off) (by omega))
          refine ⟨C', ?_, h4⟩
          simp only [List.map_cons, Instr.fill, hp]
          rw [if_neg (by simp; omega)]
          exact h3
        · cases h2
      · cases h2
    · cases h2

theorem places_run : ∀ {fs : List Field} {pl : List (Nat × Nat)}, places P fs = some pl → (fs.mapM fun f => Prod.mk f.offset <$> Go.sizeOf f.type : Sem (List (Nat × Nat))).run P w = .ok pl w
  | [], pl, h => by simp [places] at h; subst h; simp
  | f :: r, pl, h => by
    simp only [places] at h
    split at h
    · rename_i n hn
      simp only [Option.map_eq_some_iff] at h
      obtain ⟨rs, hr, rfl⟩ := h
      simp [List.mapM_cons, sizeOf_run hn, places_run hr]
    · cases h

theorem sound_bld_s (hs : SR E ρ β s a w) {t : TypeId} {ps : Array (Nat × Operand)} {qs : List (Nat × Nat × Opd)} {z : List V} {fs : Array Field} {pl : List (Nat × Nat)} (ho : o.op = .build t ps) (hz : zero? P t = some z) (ht : P.underlying t = some (.struct fs))
    (hpl : places P fs.toList = some pl) (hq : cParts (pl[·]?) ps.toList = some qs) (h : aop G o.dst (.bld z qs) s = some (x, s')) : Sound E P o x s' a w := by
  obtain ⟨i, zv, h1, h2, h3⟩ := zero_VR hz
  simp only [aop] at h
  obtain ⟨u, h4, rfl, rfl⟩ := vres_some h
  simp only [Option.map_eq_some_iff] at h4
  obtain ⟨cs, h4, rfl⟩ := h4
  obtain ⟨C', h5, h6⟩ := fill_sound hs hq h4 (toVs_VRs h3)
  refine Sound.pure hs (y := .agg C') ?_ (by simp only [TR, VR]; exact ⟨C', rfl, h6⟩)
  have hm : (fs.mapM fun f => Prod.mk f.offset <$> Go.sizeOf f.type : Sem (Array (Nat × Nat))).run P w = .ok pl.toArray w := by
    rw [Array.mapM_eq_mapM_toList]
    simp [places_run hpl]
  simp [execOp, ho, Instr.build, zeroValue_run h1 h2, run_underlying ht, hm]
  rw [h5]
  simp

theorem sound_bld_a (hs : SR E ρ β s a w) {t e n sz : Nat} {ps : Array (Nat × Operand)} {qs : List (Nat × Nat × Opd)} {z : List V} (ho : o.op = .build t ps) (hz : zero? P t = some z) (ht : P.underlying t = some (.array n e))
    (hsz : sizeOf? P e = some sz) (hq : cParts (fun i => some (i * sz, sz)) ps.toList = some qs) (h : aop G o.dst (.bld z qs) s = some (x, s')) : Sound E P o x s' a w := by
  obtain ⟨i, zv, h1, h2, h3⟩ := zero_VR hz
  simp only [aop] at h
  obtain ⟨u, h4, rfl, rfl⟩ := vres_some h
  simp only [Option.map_eq_some_iff] at h4
  obtain ⟨cs, h4, rfl⟩ := h4
  obtain ⟨C', h5, h6⟩ := fill_sound hs hq h4 (toVs_VRs h3)
  refine Sound.pure hs (y := .agg C') ?_ (by simp only [TR, VR]; exact ⟨C', rfl, h6⟩)
  have h5' : Instr.fill (fun i => some (i * sz, sz)) zv.cells (ps.map fun p => (p.1, a.eval p.2)).toList = some C' := by simpa using h5
  simp only [execOp, ho, Instr.build, Sem.run_bind, zeroValue_run h1 h2, run_underlying ht, Result.andThen_ok, sizeOf_run hsz]
  rw [h5']
  simp

theorem rep_length (z : List V) : ∀ n, (rep z n).length = n * z.length
  | 0 => by simp [rep]
  | n + 1 => by simp [rep, rep_length z n, Nat.succ_mul, Nat.add_comm]

/-- n elements' zero cells, as the model lays them. -/
theorem rep_VRs {z : List V} {zs : Array Value} (h : VRs ρ w z zs.toList) : ∀ n : Nat, VRs ρ w (rep z n) ((Array.range (n * z.length)).map (zs[· % zs.size]!)).toList := by
  intro n
  have hl : zs.size = z.length := by have := h.length; simpa using this
  refine VRs.of_get (by simp [rep_length]) fun i v hv => ?_
  have key : ∀ (n i : Nat) (v : V), (rep z n)[i]? = some v → i < n * z.length ∧ z[i % z.length]? = some v := by
    intro n
    induction n with
    | zero => intro i v hv; simp [rep] at hv
    | succ n ih =>
      intro i v hv
      simp only [rep] at hv
      by_cases hi : i < z.length
      · rw [List.getElem?_append_left hi] at hv
        exact ⟨by rw [Nat.succ_mul]; omega, by rw [Nat.mod_eq_of_lt hi]; exact hv⟩
      · rw [List.getElem?_append_right (by omega)] at hv
        obtain ⟨h1, h2⟩ := ih _ v hv
        refine ⟨by rw [Nat.succ_mul]; omega, ?_⟩
        rw [← h2]
        congr 1
        rw [Nat.mod_eq_sub_mod (by omega)]
  obtain ⟨h1, h2⟩ := key n i v hv
  obtain ⟨y, h3, h4⟩ := h.get _ v h2
  refine ⟨y, ?_, h4⟩
  have h5 : zs[i % zs.size]? = some y := by rw [hl]; simpa using h3
  have h6 : i % zs.size < zs.size := (Array.getElem?_eq_some_iff.1 h5).1
  simp [h1, h6]
  exact (Array.getElem?_eq_some_iff.1 h5).2
end
end Iso
