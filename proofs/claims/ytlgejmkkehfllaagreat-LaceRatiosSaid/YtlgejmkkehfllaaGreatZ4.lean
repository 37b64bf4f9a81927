import Derived.Test.YtlgejmkkehfllaaGreatZ3
/- The abstract layer, eighteenth part: what an instruction reads, changes, and asks: by calculation. Nothing of a program. -/
namespace Iso
open Go Go.RowKit

/-- What is asked; the value; what changes. -/
structure Out where
  c : Prop
  x : T
  e : Eff

def outV (x : Option V) : Option Out := match x with | some v => some ⟨True, .v v, {}⟩ | none => none

def binC (op : BinOp) (k : IntKind) (a b : Int) : Option (Prop × Value) :=
  match op with
  | .quo => some (b ≠ 0, .int k (k.wrap (a.tdiv b)))
  | .rem => some (b ≠ 0, .int k (a.tmod b))
  | .shl => some (0 ≤ b, .int k (k.wrap (a * 2 ^ (min b.toNat k.bits))))
  | .shr => some (0 ≤ b, .int k (a.fdiv (2 ^ (min b.toNat k.bits))))
  | op => match binI op k a b with | some v => some (True, v) | none => none

def fillE (ev : Opd → T) (H : AH) : List (Nat × Nat × Opd) → List V → Option (List V)
  | [], cs => some cs
  | (off, sz, x) :: r, cs =>
    match ev x with
    | .v x => match x.cells? H with
      | some l => if l.length = sz ∧ off + sz ≤ cs.length then fillE ev H r (splice cs off l) else none
      | none => none
    | .lp _ _ => none
def evE (ev : Opd → T) : List Opd → Option (List V)
  | [] => some []
  | o :: r => match ev o with
    | .v x => match evE ev r with | some l => some (x :: l) | none => none
    | .lp _ _ => none

/-- A bound of a slicing: what is asked, and the number. -/
def bdE (ev : Opd → T) (dflt top : Nat) : Option Opd → Option (Prop × Nat)
  | none => some (True, dflt)
  | some x => match ev x with
    | .v (.lit (.int _ i)) => some (0 ≤ i ∧ i ≤ top, i.toNat)
    | _ => none

/-- A number whose place in a row can be seen. -/
def aopE (G : List Nat) (d : Option Nat) (i : I) (ev : Opd → T) (Lg : Nat → Option (List V)) (H : AH) : Option Out :=
  match i with
  | .mv x => match ev x with
    | .v u => some ⟨True, .v u, {}⟩
    | .lp t o => some ⟨True, .lp t o, {}⟩
  | .pick c a b => match ev c with
    | .v (.lit (.bool c)) => match ev a, ev b with
      | .v u, .v v => some ⟨True, .v (match c with | true => u | false => v), {}⟩
      | _, _ => none
    | _ => none
  | .new z => match d with
    | none => none
    | some d => match G.contains d with
      | true => some ⟨True, .v (.ptr H.next 0), { heap := some (H.push (.cells z)) }⟩
      | false => match Lg d with
        | none => some ⟨True, .lp d 0, { slot := some (d, some z) }⟩
        | some _ => none
  | .box x => match d, ev x with
    | some d, .v x => match x.cells? H with
      | some z => match G.contains d with
        | true => some ⟨True, .v (.ptr H.next 0), { heap := some (H.push (.cells z)) }⟩
        | false => match Lg d with
          | none => some ⟨True, .lp d 0, { slot := some (d, some z) }⟩
          | some _ => none
      | none => none
    | _, _ => none
  | .bld z ps => match fillE ev H ps z with
    | some cs => some ⟨True, .v (.agg cs), {}⟩
    | none => none
  | .bsl n sz z ps => match fillE ev H ps (rep z n) with
    | some cs => match d with
      | none => none
      | some d => match G.contains d with
        | true => some ⟨True, .v (.hs H.next 0 n sz), { heap := some (H.push (.cells cs)) }⟩
        | false => some ⟨True, .v (.vs cs n), {}⟩
    | none => none
  | .ld ag sz x => match ev x with
    | .lp t o => match Lg t with | some cs => outV (rd ag sz (cs.drop o)) | none => none
    | .v (.ptr b o) => match H.get b with | some (.cells cs) => outV (rd ag sz (cs.drop o)) | _ => none
    | .v (.vp cs) => outV (rd ag sz cs)
    | _ => none
  | .st sz a x => match ev x with
    | .v x => match x.cells? H with
      | some l => match ev a with
        | .lp t o => match Lg t with
          | some cs => some ⟨l.length = sz ∧ o + sz ≤ cs.length, .v .any, { slot := some (t, some (splice cs o l)) }⟩
          | none => none
        | .v (.ptr b o) => match H.get b with
          | some (.cells cs) => some ⟨l.length = sz ∧ o + sz ≤ cs.length, .v .any, { heap := some (H.set b (.cells (splice cs o l))) }⟩
          | _ => none
        | _ => none
      | none => none
    | _ => none
  | .nck x => match ev x with
    | .lp t o => match Lg t with | some _ => some ⟨True, .lp t o, {}⟩ | none => none
    | .v (.ptr b o) => some ⟨True, .v (.ptr b o), {}⟩
    | .v (.vp cs) => some ⟨True, .v (.vp cs), {}⟩
    | .v (.fn f cs) => some ⟨True, .v (.fn f cs), {}⟩
    | _ => none
  | .bin op x y => match ev x, ev y with
    | .v (.lit (.int k a)), .v (.lit (.int k' b)) => match isSh op || k == k' with
      | true => match binC op k a b with | some (c, v) => some ⟨c, .v (.lit v), {}⟩ | none => none
      | false => none
    | _, _ => none
  | .eqc neg ks x y => match ev x, ev y with
    | .v (.agg xs), .v (.agg ys) => match eqVs ks xs ys with
      | some b => some ⟨True, .v (.lit (.bool (if neg then !b else b))), {}⟩
      | none => none
    | _, _ => none
  | .eqb neg x y => match ev x, ev y with
    | .v (.lit (.bool a)), .v (.lit (.bool b)) => some ⟨True, .v (.lit (.bool (if neg then !(a == b) else a == b))), {}⟩
    | _, _ => none
  | .eqn neg x y => match ev x, ev y with
    | .v x, .v y => match eqN H x y with
      | some b => some ⟨True, .v (.lit (.bool (if neg then !b else b))), {}⟩
      | none => none
    | _, _ => none
  | .un op x => match ev x with
    | .v x => outV (unV op x)
    | _ => none
  | .cv k x => match ev x with
    | .v (.lit (.int _ n)) => some ⟨True, .v (.lit (.int k (k.wrap n))), {}⟩
    | _ => none
  | .mkf f caps => match evE ev caps with
    | some l => some ⟨True, .v (.fn f l), {}⟩
    | none => none
  | .mkm => some ⟨True, .v (.mp H.next), { heap := some (H.push (.map [])) }⟩
  | .mks sz bytes z l c => match ev l, ev c with
    | .v (.lit (.int .i64 l)), .v (.lit (.int .i64 c)) =>
      some ⟨0 ≤ l ∧ l ≤ c ∧ bytes * c ≤ 2 ^ 47 ∧ c ≤ 2 ^ 47, .v (.hs H.next 0 l.toNat sz), { heap := some (H.push (.cells (rep z c.toNat))) }⟩
    | _, _ => none
  | .sls sz x lo hi => match ev x with
    | .v x => match slLen x with
      | some n => match bdE ev n n hi with
        | some (c1, h) => match bdE ev 0 h lo with
          | some (c2, l) => match slV H sz l h x with
            | some v => some ⟨c1 ∧ c2, .v v, {}⟩
            | none => none
          | none => none
        | none => none
      | none => none
    | _ => none
  | .sla n sz x lo hi => match bdE ev n n hi with
    | some (c1, h) => match bdE ev 0 h lo with
      | some (c2, l) => match ev x with
        | .lp t o => match Lg t with
          | some cs => some ⟨c1 ∧ c2 ∧ o + n * sz ≤ cs.length, .v (.vs ((cs.drop (o + l * sz)).take ((h - l) * sz)) (h - l)), { kill := some t, slot := some (t, none) }⟩
          | none => none
        | .v (.ptr b o) => match H.get b with
          | some (.cells cs) => some ⟨c1 ∧ c2 ∧ o + n * sz ≤ cs.length, .v (.hs b (o + l * sz) (h - l) sz), {}⟩
          | _ => none
        | .v (.vp cs) => some ⟨c1 ∧ c2 ∧ n * sz ≤ cs.length, .v (.vs ((cs.drop (l * sz)).take ((h - l) * sz)) (h - l)), {}⟩
        | _ => none
      | none => none
    | none => none
  | .fad off x => match ev x with
    | .lp t o => match Lg t with | some _ => some ⟨True, .lp t (o + off), {}⟩ | none => none
    | .v (.ptr b o) => some ⟨True, .v (.ptr b (o + off)), {}⟩
    | .v (.vp cs) => some ⟨True, .v (.vp (cs.drop off)), {}⟩
    | _ => none
  | .iad sz x i => match ev x, ev i with
    | .v (.hs b o n s'), .v (.lit (.int _ i)) => some ⟨0 ≤ i ∧ i < n ∧ s' = sz, .v (.ptr b (o + i.toNat * sz)), {}⟩
    | .v (.vs cs n), .v (.lit (.int _ i)) => some ⟨0 ≤ i ∧ i < n, .v (.vp (cs.drop (i.toNat * sz))), {}⟩
    | _, _ => none
  | .iaa n sz x i => match ev x, ev i with
    | .lp t o, .v (.lit (.int _ i)) => match Lg t with | some _ => some ⟨0 ≤ i ∧ i < n, .lp t (o + i.toNat * sz), {}⟩ | none => none
    | .v (.ptr b o), .v (.lit (.int _ i)) => some ⟨0 ≤ i ∧ i < n, .v (.ptr b (o + i.toNat * sz)), {}⟩
    | .v (.vp cs), .v (.lit (.int _ i)) => some ⟨0 ≤ i ∧ i < n, .v (.vp (cs.drop (i.toNat * sz))), {}⟩
    | _, _ => none
  | .ixa n sz ag x i => match ev x, ev i with
    | .v (.agg cs), .v (.lit (.int _ i)) => match rd ag sz (cs.drop (i.toNat * sz)) with
      | some v => some ⟨0 ≤ i ∧ i < n, .v v, {}⟩
      | none => none
    | _, _ => none
  | .fld off sz ag x => match ev x with
    | .v (.agg cs) => outV (rd ag sz (cs.drop off))
    | _ => none
  | .ixs bs i => match ev i with
    | .v (.lit (.int _ i)) => match (bs[i.toNat]?).map fun (b : Nat) => V.lit (.int .u8 (b : Int)) with
      | some v => some ⟨0 ≤ i, .v v, {}⟩
      | none => none
    | _ => none
  | .lku kk z ok m k => match ev m, ev k with
    | .v (.mp b), .v k => match H.get b with
      | some (.map es) => match mfind kk k es with
        | some r => some ⟨plainKey kk k = true, .v (if ok then .tup [r.getD z, .lit (.bool r.isSome)] else r.getD z), {}⟩
        | none => none
      | _ => none
    | _, _ => none
  | .mup kk m k x => match ev m, ev k, ev x with
    | .v (.mp b), .v k, .v x => match H.get b with
      | some (.map es) => match mput kk k x es with
        | some es' => some ⟨plainKey kk k = true, .v .any, { heap := some (H.set b (.map es')) }⟩
        | none => none
      | _ => none
    | _, _, _ => none
  | .ext x i => match ev x with
    | .v (.tup xs) => outV xs[i]?
    | _ => none
  | .len x => match ev x with
    | .v (.hs _ _ n _) => some ⟨True, .v (.lit (.int .i64 n)), {}⟩
    | .v (.vs _ n) => some ⟨True, .v (.lit (.int .i64 n)), {}⟩
    | .v (.lit (.slice none 0 0)) => some ⟨True, .v (.lit (.int .i64 0)), {}⟩
    | _ => none
  | .lenm x => match ev x with
    | .v (.mp b) => match H.get b with
      | some (.map es) => some ⟨True, .v (.lit (.int .i64 es.length)), {}⟩
      | _ => none
    | .v (.lit (.map none)) => some ⟨True, .v (.lit (.int .i64 0)), {}⟩
    | _ => none
  | .mnx mx xs => match evE ev xs with
    | some (.lit (.int k a) :: r) => outV (mnV mx (.lit (.int k a)) r)
    | _ => none
  | .app sz bytes x y => match ev x, ev y with
    | .v x, .v y => match slLen y, slCells H sz y with
      | some m, some news => match x with
        | .lit (.slice none 0 0) => some ⟨V.ones H news = true ∧ m ≠ 0 ∧ m * bytes ≤ 2 ^ 47 ∧ m ≤ 2 ^ 47, .v (.hs H.next 0 m sz), { heap := some (H.push (.cells news)) }⟩
        | .hs b o n s' => match H.get b with
          | some (.cells cs) => some ⟨V.ones H news = true ∧ s' = sz ∧ o = 0 ∧ n * sz ≤ cs.length ∧ m ≠ 0 ∧ (n + m) * bytes ≤ 2 ^ 47 ∧ n + m ≤ 2 ^ 47,
              .v (.hs H.next 0 (n + m) sz), { heap := some ((H.del b).push (.cells (cs.take (n * sz) ++ news))) }⟩
          | _ => none
        | _ => none
      | _, _ => none
    | _, _ => none
  | .cpy sz x y => match ev x, ev y with
    | .v (.hs b o n s'), .v y => match slLen y, slCells H sz y, H.get b with
      | some m, some news, some (.cells cs) =>
        some ⟨V.ones H news = true ∧ s' = sz ∧ o + n * sz ≤ cs.length, .v (.lit (.int .i64 (min m n : Nat))), { heap := some (H.set b (.cells (splice cs o (news.take (min m n * sz))))) }⟩
      | _, _, _ => none
    | _, _ => none
  | .dele kk m k => match ev m, ev k with
    | .v (.mp b), .v k => match H.get b with
      | some (.map es) => match mdel kk k es with
        | some es' => some ⟨plainKey kk k = true, .v .any, { heap := some (H.set b (.map es')) }⟩
        | none => none
      | _ => none
    | _, _ => none
  | .adc x y c => match ev x, ev y, ev c with
    | .v (.lit (.int .u64 x)), .v (.lit (.int .u64 y)), .v (.lit (.int .u64 c)) =>
      some ⟨0 ≤ x ∧ 0 ≤ y ∧ 0 ≤ c ∧ c ≤ 1, .v (.tup [.lit (.int .u64 ((x + y + c) % 18446744073709551616)), .lit (.int .u64 ((x + y + c) / 18446744073709551616))]), {}⟩
    | _, _, _ => none
  | .sbb x y c => match ev x, ev y, ev c with
    | .v (.lit (.int .u64 x)), .v (.lit (.int .u64 y)), .v (.lit (.int .u64 c)) =>
      some ⟨0 ≤ x ∧ 0 ≤ y ∧ 0 ≤ c ∧ c ≤ 1 ∧ x < 18446744073709551616 ∧ y < 18446744073709551616, .v (.tup [.lit (.int .u64 ((x - y - c) % 18446744073709551616)), .lit (.int .u64 (if x < y + c then 1 else 0))]), {}⟩
    | _, _, _ => none
  | .call _ _ | .callv _ _ => none

def partOpds : List (Nat × Nat × Opd) → List Opd
  | [] => []
  | (_, _, x) :: r => x :: partOpds r
def optOpds : Option Opd → List Opd
  | none => []
  | some x => [x]
def I.opds : I → List Opd
  | .mv x | .box x | .ld _ _ x | .nck x | .un _ x | .cv _ x | .fad _ x | .fld _ _ _ x | .ixs _ x | .ext x _ | .len x | .lenm x => [x]
  | .pick c a b => [c, a, b]
  | .new _ | .mkm => []
  | .bld _ ps | .bsl _ _ _ ps => partOpds ps
  | .st _ x y | .bin _ x y | .eqc _ _ x y | .eqb _ x y | .eqn _ x y | .mks _ _ _ x y | .iad _ x y | .iaa _ _ x y | .ixa _ _ _ x y | .lku _ _ _ x y | .app _ _ x y | .cpy _ x y | .dele _ x y => [x, y]
  | .mkf _ xs | .mnx _ xs | .call _ xs => xs
  | .sls _ x lo hi | .sla _ _ x lo hi => x :: (optOpds lo ++ optOpds hi)
  | .mup _ x y z | .adc x y z | .sbb x y z => [x, y, z]
  | .callv f xs => f :: xs

def lpSlots (A : Env) : List Opd → List Nat
  | [] => []
  | x :: r => match x.ev A with
    | .lp t _ => t :: lpSlots A r
    | .v _ => lpSlots A r
def newSlot : I → Option Nat → List Nat
  | .new _, some d => [d]
  | .box _, some d => [d]
  | _, _ => []

section
variable {P : Program} {l : Option Nat} {N : Nat} {A : Env} {L : Loc} {H : AH} {G : List Nat}

theorem fillE_congr {ev ev' : Opd → T} {H : AH} : ∀ {ps : List (Nat × Nat × Opd)} {cs : List V}, (∀ x ∈ partOpds ps, ev x = ev' x) → fillE ev H ps cs = fillE ev' H ps cs
  | [], _, _ => rfl
  | (off, sz, x) :: r, cs, h => by
    have ih := fun cs => fillE_congr (H := H) (ps := r) (cs := cs) fun y hy => h y (List.mem_cons_of_mem _ hy)
    simp only [fillE, h x (List.mem_cons_self ..), ih]
theorem evE_congr {ev ev' : Opd → T} : ∀ {xs : List Opd}, (∀ x ∈ xs, ev x = ev' x) → evE ev xs = evE ev' xs
  | [], _ => rfl
  | x :: r, h => by
    simp only [evE, h x (List.mem_cons_self ..), evE_congr fun y hy => h y (List.mem_cons_of_mem _ hy)]
theorem bdE_congr {ev ev' : Opd → T} {d t : Nat} : ∀ {x : Option Opd}, (∀ y ∈ optOpds x, ev y = ev' y) → bdE ev d t x = bdE ev' d t x
  | none, _ => rfl
  | some x, h => by simp only [bdE, h x (by simp [optOpds])]

theorem aopE_congr {d : Option Nat} {i : I} {ev ev' : Opd → T} {Lg Lg' : Nat → Option (List V)} (h : ∀ x ∈ i.opds, ev x = ev' x)
    (hL : ∀ x ∈ i.opds, ∀ t o, ev x = .lp t o → Lg t = Lg' t) (hN : ∀ t ∈ newSlot i d, Lg t = Lg' t) : aopE G d i ev Lg H = aopE G d i ev' Lg' H := by
  cases i
  case new z =>
    cases d with
    | none => rfl
    | some d => simp only [aopE]; rw [hN d (by simp [newSlot])]
  case box x =>
    simp only [aopE]
    rw [h x (by simp [I.opds])]
    cases d with
    | none => rfl
    | some d =>
      have hd := hN d (by simp [newSlot])
      cases ev' x with
      | lp t o => rfl
      | v u => simp only [hd]
  case bld z ps => simp only [aopE, fillE_congr (H := H) (ps := ps) h]
  case bsl n sz z ps => simp only [aopE, fillE_congr (H := H) (ps := ps) h]
  case mkf f xs => simp only [aopE, evE_congr (xs := xs) h]
  case mnx m xs => simp only [aopE, evE_congr (xs := xs) h]
  case ld ag sz x =>
    have hx := h x (by simp [I.opds])
    have hl := hL x (by simp [I.opds])
    simp only [aopE]
    rw [← hx]
    cases he : ev x with
    | v u => cases u <;> rfl
    | lp t o => simp only [hl t o he]
  case nck x =>
    have hx := h x (by simp [I.opds])
    have hl := hL x (by simp [I.opds])
    simp only [aopE]
    rw [← hx]
    cases he : ev x with
    | v u => cases u <;> rfl
    | lp t o => simp only [hl t o he]
  case fad off x =>
    have hx := h x (by simp [I.opds])
    have hl := hL x (by simp [I.opds])
    simp only [aopE]
    rw [← hx]
    cases he : ev x with
    | v u => cases u <;> rfl
    | lp t o => simp only [hl t o he]
  case st sz x y =>
    have hx := h x (by simp [I.opds])
    have hl := hL x (by simp [I.opds])
    simp only [aopE]
    rw [← hx, ← h y (by simp [I.opds])]
    cases he : ev x with
    | v u => cases u <;> rfl
    | lp t o => simp only [hl t o he]
  case iaa n sz x y =>
    have hx := h x (by simp [I.opds])
    have hl := hL x (by simp [I.opds])
    simp only [aopE]
    rw [← hx, ← h y (by simp [I.opds])]
    cases he : ev x with
    | v u =>
      generalize ev y = q
      cases u <;> first
        | rfl
        | (cases q with
          | lp t o => rfl
          | v z => cases z <;> first
            | rfl
            | (rename_i w; cases w <;> rfl))
    | lp t o =>
      have hh := hl t o he
      generalize ev y = q
      cases q with
      | lp t o => rfl
      | v z => cases z <;> first
        | rfl
        | (rename_i w; cases w <;> first | rfl | simp only [hh])
  case sla n sz x lo hi =>
    have hx := h x (by simp [I.opds])
    have hl := hL x (by simp [I.opds])
    have b1 := fun d t => bdE_congr (d := d) (t := t) (x := lo) (ev := ev) (ev' := ev') (fun y hy => h y (by simp [I.opds, hy]))
    have b2 := fun d t => bdE_congr (d := d) (t := t) (x := hi) (ev := ev) (ev' := ev') (fun y hy => h y (by simp [I.opds, hy]))
    simp only [aopE, b1, b2]
    rw [← hx]
    cases he : ev x with
    | v u => cases u <;> rfl
    | lp t o => simp only [hl t o he]
  case sls sz x lo hi =>
    have b1 := fun d t => bdE_congr (d := d) (t := t) (x := lo) (ev := ev) (ev' := ev') (fun y hy => h y (by simp [I.opds, hy]))
    have b2 := fun d t => bdE_congr (d := d) (t := t) (x := hi) (ev := ev) (ev' := ev') (fun y hy => h y (by simp [I.opds, hy]))
    simp only [aopE, b1, b2]
    rw [h x (by simp [I.opds])]
  case mkm => rfl
  case call f xs => rfl
  case callv f xs => rfl
  all_goals first
    | (rename_i x y z; simp only [aopE]; rw [h x (by simp [I.opds]), h y (by simp [I.opds]), h z (by simp [I.opds])]; done)
    | (rename_i x y z; simp only [aopE, h x (by simp [I.opds]), h y (by simp [I.opds]), h z (by simp [I.opds])]; done)
    | (rename_i x y; simp only [aopE]; rw [h x (by simp [I.opds]), h y (by simp [I.opds])]; done)
    | (rename_i x y; simp only [aopE]; rw [h x (by simp [I.opds])]; done)
    | (rename_i x; simp only [aopE]; rw [h x (by simp [I.opds])]; done)

theorem evE_evs : ∀ {xs : List Opd} {l : List V}, evE (·.ev A) xs = some l → evs A xs = some l
  | [], l, h => h
  | x :: r, l, h => by
    simp only [evE] at h
    simp only [evs]
    split at h
    · rename_i u hu
      split at h
      · rename_i l' hl
        rw [hu, evE_evs hl]
        exact h
      · cases h
    · cases h
theorem fillE_fillA : ∀ {ps : List (Nat × Nat × Opd)} {cs r : List V}, fillE (·.ev A) H ps cs = some r → fillA A H ps cs = some r
  | [], cs, r, h => h
  | (off, sz, x) :: ps, cs, r, h => by
    simp only [fillE] at h
    simp only [fillA]
    split at h
    · rename_i u hu
      rw [hu]
      split at h
      · rename_i l hl
        simp only [hl]
        split at h
        · rename_i hc; rw [if_pos hc]; exact fillE_fillA h
        · cases h
      · cases h
    · cases h
theorem bdE_bound {d t : Nat} {x : Option Opd} {c : Prop} {n : Nat} (h : bdE (·.ev A) d t x = some (c, n)) (hc : c) : bound A d t x = some n := by
  cases x with
  | none => simp [bdE] at h; simp [bound, h.2]
  | some x =>
    simp only [bdE] at h
    split at h
    · rename_i k i hi
      cases h
      simp only [bound, hi]
      rw [if_pos hc]
    · cases h

theorem binC_spec {op : BinOp} {k : IntKind} {a b : Int} {c : Prop} {v : Value} (h : binC op k a b = some (c, v)) (hc : c) : (isSh op = true → shI op k a b = some v) ∧ (isSh op = false → binI op k a b = some v) := by
  cases op
  case quo => simp only [binC] at h; cases h; exact ⟨fun h => by simp [isSh] at h, fun _ => by simp [binI, hc]⟩
  case rem => simp only [binC] at h; cases h; exact ⟨fun h => by simp [isSh] at h, fun _ => by simp [binI, hc]⟩
  case shl => simp only [binC] at h; cases h; exact ⟨fun _ => by simp only [shI]; rw [if_neg (by omega)], fun h => by simp [isSh] at h⟩
  case shr => simp only [binC] at h; cases h; exact ⟨fun _ => by simp only [shI]; rw [if_neg (by omega)], fun h => by simp [isSh] at h⟩
  all_goals
    simp only [binC] at h
    split at h
    · rename_i v' hv; cases h; exact ⟨fun h => by simp [isSh] at h, fun _ => hv⟩
    · cases h

theorem outV_some {x : Option V} {o : Out} (h : outV x = some o) : ∃ v, x = some v ∧ o = ⟨True, .v v, {}⟩ := by
  cases x with
  | none => cases h
  | some v => cases h; exact ⟨v, rfl, rfl⟩

theorem aopE_aop {d : Option Nat} {i : I} {o : Out} (h : aopE G d i (·.ev A) L.get H = some o) (hc : o.c) :
    ∃ k, aop G d i ⟨A, L, H⟩ = some (o.x, ⟨killA k A, slotL o.e.slot L, o.e.heap.getD H⟩) ∧ (k = o.e.kill ∨ ∃ e, k = some e ∧ L.get e = none ∧ o.e.kill = none) := by
  cases i
  case new z =>
    cases d with
    | none => simp [aopE] at h
    | some d =>
      simp only [aopE] at h
      simp only [aop]
      cases hG : G.contains d with
      | true =>
        simp only [hG] at h; cases h
        exact ⟨none, by simp [killA, slotL], .inl rfl⟩
      | false =>
        simp only [hG] at h
        split at h
        · rename_i hn; cases h; exact ⟨some d, by simp [killA, slotL], .inr ⟨d, rfl, hn, rfl⟩⟩
        · cases h
  case box x =>
    cases d with
    | none => simp [aopE] at h
    | some d =>
      simp only [aopE] at h
      simp only [aop]
      split at h
      · rename_i d' x hd hx
        cases hd
        rw [hx]
        split at h
        · rename_i z hz
          simp only [hz]
          cases hG : G.contains d with
          | true =>
            simp only [hG] at h; cases h
            exact ⟨none, by simp [killA, slotL], .inl rfl⟩
          | false =>
            simp only [hG] at h
            split at h
            · rename_i hn; cases h; exact ⟨some d, by simp [killA, slotL], .inr ⟨d, rfl, hn, rfl⟩⟩
            · cases h
        · cases h
      · cases h
  all_goals refine ⟨o.e.kill, ?_, .inl rfl⟩
  all_goals simp only [aopE] at h
  all_goals simp only [aop]
  case bin op x y =>
    split at h
    · rename_i k a k' b hx hy
      rw [hx, hy]
      split at h
      · rename_i hk
        split at h
        · rename_i c v hb
          cases h
          have hb' := binC_spec hb hc
          simp only [binV]
          cases hsh : isSh op with
          | true =>
            rw [if_pos rfl, hb'.1 hsh]
            rfl
          | false =>
            have hk' : k = k' := by simpa [hsh] using hk
            subst hk'
            rw [if_neg (by simp), if_pos rfl, hb'.2 hsh]
            rfl
        · cases h
      · cases h
    · cases h
  case bld z ps =>
    split at h
    · rename_i cs hcs; cases h; rw [fillE_fillA hcs]; rfl
    · cases h
  case bsl n sz z ps =>
    split at h
    · rename_i cs hcs
      rw [fillE_fillA hcs]
      cases d with
      | none => cases h
      | some d =>
        cases hG : G.contains d with
        | true => simp only [hG] at h; cases h; simp only [hG, if_true]; rfl
        | false => simp only [hG] at h; cases h; simp only [hG, Bool.false_eq_true, if_false]; rfl
    · cases h
  case mkf f xs =>
    split at h
    · rename_i cs hcs; cases h; rw [evE_evs hcs]; rfl
    · cases h
  case mnx m xs =>
    split at h
    · rename_i k a r hcs
      obtain ⟨v, hv, rfl⟩ := outV_some h
      rw [evE_evs hcs]
      simp only [hv, vres, Option.map_some, killA, slotL, Option.getD_none]
    · cases h
  case sls sz x lo hi =>
    split at h
    · rename_i u hu
      split at h
      · rename_i n hn
        split at h
        · rename_i c1 hh hb1
          split at h
          · rename_i c2 ll hb2
            split at h
            · rename_i v hv
              cases h
              rw [hu]
              simp only [hn, bdE_bound hb1 hc.1, bdE_bound hb2 hc.2, hv, vres, Option.map_some, killA, slotL, Option.getD_none]
            · cases h
          · cases h
        · cases h
      · cases h
    · cases h
  case sla n sz x lo hi =>
    split at h
    · rename_i c1 hh hb1
      split at h
      · rename_i c2 ll hb2
        have fin : c1 ∧ c2 := by
          (repeat' split at h) <;> first | (cases h; exact ⟨hc.1, hc.2.1⟩) | cases h
        rw [bdE_bound hb1 fin.1]
        simp only []
        rw [bdE_bound hb2 fin.2]
        simp only []
        split at h
        · rename_i t o ht
          rw [ht]
          split at h
          · rename_i cs hcs; cases h; simp only [hcs, if_pos hc.2.2, killA, slotL, Option.getD_none]
          · cases h
        · rename_i b o ht
          rw [ht]
          split at h
          · rename_i cs hcs; cases h; simp only [hcs, if_pos hc.2.2, killA, slotL, Option.getD_none]
          · cases h
        · rename_i cs ht
          rw [ht]
          cases h; simp only [if_pos hc.2.2, killA, slotL, Option.getD_none]
        · cases h
      · cases h
    · cases h
  case mks sz bytes z x y =>
    split at h
    · rename_i i j hi hj
      cases h
      rw [hi, hj]
      simp only []
      rw [if_pos hc]
      rfl
    · cases h
  all_goals (repeat' split at h)
  all_goals first
    | (cases h; done)
    | (obtain ⟨v, hv, rfl⟩ := outV_some h; simp [*, vres, killA, slotL]; done)
    | (cases h; simp only at hc; simp [*, vres, killA, slotL]; done)
    | (cases h; simp [*, vres, killA, slotL]; done)

end
end Iso

/- The abstract layer, nineteenth part: instructions as steps of a walk. Nothing of a program. -/
namespace Iso
open Go Go.RowKit

section
variable {P : Program} {l : Option Nat} {N : Nat} {A : Env} {L : Loc} {H : AH} {G : List Nat}

theorem aopE_facts {d : Option Nat} {i : I} {o : Out} (h : aopE G d i (·.ev A) L.get H = some o) (hwf : WF ⟨A, L, H⟩) :
    (∀ t p, o.x = .lp t p → ((slotL o.e.slot L).get t).isSome = true) ∧ (∀ t z, o.e.slot = some (t, z) → z.isSome = true ∨ o.e.kill = some t) := by
  have hev : ∀ (x : Opd) t p, x.ev A = .lp t p → (L.get t).isSome = true := fun x t p hx => by
    cases x with
    | t n => exact hwf n t p hx
    | k v => cases hx
  have hput : ∀ (t : Nat) (z : List V), ((slotL (some (t, some z)) L).get t).isSome = true := fun t z => by simp [slotL_get]
  cases i
  all_goals simp only [aopE] at h
  all_goals (repeat' split at h)
  all_goals first
    | (cases h; done)
    | (obtain ⟨v, hv, rfl⟩ := outV_some h; refine ⟨fun t p hx => ?_, fun t z hz => ?_⟩ <;> first | (cases hx; done) | (cases hz; done))
    | (cases h; refine ⟨fun t p hx => ?_, fun t z hz => ?_⟩ <;> first
        | (cases hx; done)
        | (cases hz; done)
        | (cases hx; exact hput _ _)
        | (cases hx; exact hev _ _ _ (by assumption))
        | (cases hz; exact .inl rfl)
        | (cases hz; exact .inr rfl)
        | (cases hx; simp [slotL, *]; done))

theorem mem_opdTmps {x : Opd} : ∀ {os : List Opd}, x ∈ os → ∀ n ∈ opdTmps [x], n ∈ opdTmps os
  | [], h, _, _ => by cases h
  | y :: r, h, n, hn => by
    rcases List.mem_cons.1 h with rfl | h
    · cases x with
      | t m => simp [opdTmps] at hn ⊢; exact .inl hn
      | k v => simp [opdTmps] at hn
    · have := mem_opdTmps h n hn
      cases y with
      | t m => simp [opdTmps, this]
      | k v => simpa [opdTmps] using this
theorem mem_lpSlots {x : Opd} {t p : Nat} : ∀ {os : List Opd}, x ∈ os → x.ev A = .lp t p → t ∈ lpSlots A os
  | [], h, _ => by cases h
  | y :: r, h, hx => by
    simp only [lpSlots]
    rcases List.mem_cons.1 h with rfl | h
    · rw [hx]; simp
    · have := mem_lpSlots h hx
      split
      · exact List.mem_cons_of_mem _ this
      · exact this

theorem gi_of {d : Option Nat} {i : I} {c : Prop} {x : T} {e : Eff} {hp : Bool} (hc : c) (hh : ∀ H', (hp = true → H' = H) → aopE G d i (·.ev A) L.get H' = some ⟨c, x, e⟩) :
    GoodI P l N d i ⟨d, x, { tmps := opdTmps i.opds, slots := lpSlots A i.opds ++ newSlot i d, heap := hp }, e⟩ ⟨A, L, H⟩ := by
  refine goodI_of_aop (G := G) rfl fun t ht hwf => ?_
  obtain ⟨A', L', H'⟩ := t
  have hev : ∀ y ∈ i.opds, (fun o : Opd => o.ev A) y = (fun o : Opd => o.ev A') y := fun y hy =>
    (ev_agree (s := ⟨A, L, H⟩) (t := ⟨A', L', H'⟩) fun n hn => ht.A n (mem_opdTmps hy n hn)).symm
  have hE : aopE G d i (·.ev A') L'.get H' = some ⟨c, x, e⟩ := by
    rw [← aopE_congr hev (Lg := L.get) (fun y hy t p hp => ht.L t (List.mem_append_left _ (mem_lpSlots hy hp))) (fun t hn => ht.L t (List.mem_append_right _ hn))]
    exact hh H' fun hp => (ht.H hp).symm
  obtain ⟨hw1, hw2⟩ := aopE_facts hE hwf
  refine ⟨fun n t p hn => ?_, ?_⟩
  · simp only [It.app, Env.get_put?, killA_get] at hn ⊢
    split at hn
    · exact hw1 t p hn
    · rw [slotL_get]
      cases hs : e.slot with
      | none =>
        cases hk : e.kill with
        | none => rw [hk] at hn; exact hwf n t p hn
        | some u => rw [hk] at hn; exact hwf n t p (T.kill_lp hn).1
      | some q =>
        obtain ⟨u, z⟩ := q
        simp only
        split
        · rename_i htu
          rcases hw2 u z hs with h1 | h1
          · exact h1
          · simp only at h1
            rw [h1] at hn
            exact absurd htu (T.kill_lp hn).2
        · cases hk : e.kill with
          | none => rw [hk] at hn; exact hwf n t p hn
          | some u => rw [hk] at hn; exact hwf n t p (T.kill_lp hn).1
  · obtain ⟨k, h1, h2⟩ := aopE_aop hE hc
    refine ⟨_, h1, fun n => ?_, fun d => rfl, rfl⟩
    simp only [It.app, Env.get_put?, killA_get]
    split
    · rfl
    · rcases h2 with rfl | ⟨u, rfl, hu, hk⟩
      · rfl
      · simp only at hk
        simp only [hk]
        cases hx : Env.get A' n with
        | v x => rfl
        | lp t p =>
          simp only [T.kill]
          rw [if_neg]
          rintro rfl
          have := hwf n t p hx
          rw [hu] at this; cases this

/-- A step that doesn't look at the heap. -/
theorem gi_p {d : Option Nat} {i : I} {c : Prop} {x : T} {e : Eff} (hh : ∀ H, aopE G d i (·.ev A) L.get H = some ⟨c, x, e⟩) (hc : c) :
    GoodI P l N d i ⟨d, x, { tmps := opdTmps i.opds, slots := lpSlots A i.opds ++ newSlot i d, heap := false }, e⟩ ⟨A, L, H⟩ := gi_of hc fun H' _ => hh H'
/-- Any step. -/
theorem gi_h {d : Option Nat} {i : I} {c : Prop} {x : T} {e : Eff} (hh : aopE G d i (·.ev A) L.get H = some ⟨c, x, e⟩) (hc : c) :
    GoodI P l N d i ⟨d, x, { tmps := opdTmps i.opds, slots := lpSlots A i.opds ++ newSlot i d, heap := true }, e⟩ ⟨A, L, H⟩ := gi_of hc fun H' h => by rw [h rfl]; exact hh

/-! ### The walk's rules, as they are used -/
section
variable {R : List It → St → Prop} {acc : List It} {r : List CI} {d : Option Nat} {i : I} {c : Prop} {x : T} {e : Eff}
theorem rw_p (hh : ∀ H, aopE [] d i (fun o => o.ev A) L.get H = some ⟨c, x, e⟩) (hc : c)
    (k : RW P l N r (acc ++ [⟨d, x, { tmps := opdTmps i.opds, slots := lpSlots A i.opds ++ newSlot i d, heap := false }, e⟩]) R ⟨(killA e.kill A).put? d x, slotL e.slot L, e.heap.getD H⟩) : RW P l N (⟨d, none, i⟩ :: r) acc R ⟨A, L, H⟩ :=
  rw_step (gi_p hh hc) k
theorem rw_h (G : List Nat) (hh : aopE G d i (fun o => o.ev A) L.get H = some ⟨c, x, e⟩) (hc : c)
    (k : RW P l N r (acc ++ [⟨d, x, { tmps := opdTmps i.opds, slots := lpSlots A i.opds ++ newSlot i d, heap := true }, e⟩]) R ⟨(killA e.kill A).put? d x, slotL e.slot L, e.heap.getD H⟩) : RW P l N (⟨d, none, i⟩ :: r) acc R ⟨A, L, H⟩ :=
  rw_step (gi_h hh hc) k
theorem rw_pg {g : Nat} {want : Bool} (hg : A.get g = .v (.lit (.bool want))) (hh : ∀ H, aopE [] d i (fun o => o.ev A) L.get H = some ⟨c, x, e⟩) (hc : c)
    (k : RW P l N r (acc ++ [⟨d, x, { tmps := g :: opdTmps i.opds, slots := lpSlots A i.opds ++ newSlot i d, heap := false }, e⟩]) R ⟨(killA e.kill A).put? d x, slotL e.slot L, e.heap.getD H⟩) : RW P l N (⟨d, some (g, want), i⟩ :: r) acc R ⟨A, L, H⟩ :=
  rw_gstep hg (gi_p hh hc) k
theorem rw_hg (G : List Nat) {g : Nat} {want : Bool} (hg : A.get g = .v (.lit (.bool want))) (hh : aopE G d i (fun o => o.ev A) L.get H = some ⟨c, x, e⟩) (hc : c)
    (k : RW P l N r (acc ++ [⟨d, x, { tmps := g :: opdTmps i.opds, slots := lpSlots A i.opds ++ newSlot i d, heap := true }, e⟩]) R ⟨(killA e.kill A).put? d x, slotL e.slot L, e.heap.getD H⟩) : RW P l N (⟨d, some (g, want), i⟩ :: r) acc R ⟨A, L, H⟩ :=
  rw_gstep hg (gi_h hh hc) k
theorem rw_sk {g : Nat} {want b : Bool} (hg : A.get g = .v (.lit (.bool b))) (hne : b = !want)
    (k : RW P l N r (acc ++ [⟨d, .v .any, { tmps := [g] }, {}⟩]) R ⟨A.put? d (.v .any), L, H⟩) : RW P l N (⟨d, some (g, want), i⟩ :: r) acc R ⟨A, L, H⟩ :=
  rw_gskip hg (by subst hne; cases want <;> decide) k
theorem rw_call {f : Nat} {args : List Opd} {vs : List V} {v : V} (hargs : evs A args = some vs) (hf : FN P f vs H v H)
    (k : RW P l N r (acc ++ [⟨d, .v v, { tmps := opdTmps args, heap := true }, {}⟩]) R ⟨A.put? d (.v v), L, H⟩) : RW P l N (⟨d, none, .call f args⟩ :: r) acc R ⟨A, L, H⟩ :=
  rw_step (goodI_call hargs hf rfl) k
theorem rw_callg {f : Nat} {args : List Opd} {vs : List V} {v : V} {g : Nat} {want : Bool} (hg : A.get g = .v (.lit (.bool want))) (hargs : evs A args = some vs) (hf : FN P f vs H v H)
    (k : RW P l N r (acc ++ [⟨d, .v v, { tmps := g :: opdTmps args, heap := true }, {}⟩]) R ⟨A.put? d (.v v), L, H⟩) : RW P l N (⟨d, some (g, want), .call f args⟩ :: r) acc R ⟨A, L, H⟩ :=
  rw_gstep hg (goodI_call hargs hf rfl) k
theorem rw_loud {f : Nat} {args : List Opd} {vs : List V} {v : V} {H' : AH} (hargs : evs A args = some vs) (hf : FN P f vs H v H')
    (k : RW P l N r (acc ++ [⟨d, .v v, { tmps := opdTmps args, heap := true }, { heap := some H' }⟩]) R ⟨A.put? d (.v v), L, H'⟩) : RW P l N (⟨d, none, .call f args⟩ :: r) acc R ⟨A, L, H⟩ :=
  rw_step (goodI_call hargs hf rfl) k
end

variable {Q : Exit → St → Prop} {s : St}

theorem awp_seq_reg {ed : List (List Nat)} {cs : List CI} {z : AC} (h : RW P l N cs [] (fun _ s' => AWp P l N z Q s') s) : AWp P l N (.seq (.reg false ed cs) z) Q s :=
  awp_seq (awp_reg h)
theorem awp_seq_regd {ed : List (List Nat)} {cs : List CI} {z : AC} (hm : P.follows .mixedOrders = true) (h : RW P l N cs [] (fun its s' => chk ed its = true ∧ AWp P l N z Q s') s) : AWp P l N (.seq (.reg true ed cs) z) Q s :=
  awp_seq (awp_regd hm h)
theorem awp_seq_seq {x y z : AC} (h : AWp P l N x (thenS (fun s => AWp P l N y (thenS (fun s => AWp P l N z Q s) Q) s) (thenS (fun s => AWp P l N z Q s) Q)) s) : AWp P l N (.seq (.seq x y) z) Q s :=
  awp_seq (awp_seq h)
theorem awp_seq_ret {z : AC} (h : Q .ret s) : AWp P l N (.seq .ret z) Q s := awp_seq (awp_ret h)
theorem awp_seq_exit {z : AC} {id : Nat} (h : Q (.exit id) s) : AWp P l N (.seq (.exit id) z) Q s := awp_seq (awp_exit h)
theorem awp_seq_skip {z : AC} (h : AWp P l N z Q s) : AWp P l N (.seq .skip z) Q s := awp_seq (awp_skip h)
theorem awp_seq_cond {k : Opd} {x y z : AC} {b : Bool} (hk : k.ev s.A = .v (.lit (.bool b))) (ht : b = true → AWp P l N x (thenS (fun s => AWp P l N z Q s) Q) s) (hf : b = false → AWp P l N y (thenS (fun s => AWp P l N z Q s) Q) s) : AWp P l N (.seq (.cond k x y) z) Q s :=
  awp_seq (awp_cond hk ht hf)

end
end Iso

/- The abstract layer, twentieth part: the steps of a walk, one rule for each kind of effect; regions in their order (sw) and in any order (rw). Nothing of a program. -/
namespace Iso
open Go Go.RowKit

/-- Operations in the text's order: what they read need not be known. -/
def SW (P : Program) (l : Option Nat) (N : Nat) (ops : List CI) (R : St → Prop) (s : St) : Prop := ∃ its s', Steps' P l N ops its s s' ∧ R s'

section
variable {P : Program} {l : Option Nat} {N : Nat} {A : Env} {L : Loc} {H : AH} {G : List Nat}

theorem SW.nil {R : St → Prop} {s : St} (h : R s) : SW P l N [] R s := ⟨[], s, .nil, h⟩
theorem SW.cons {c : CI} {r : List CI} {R : St → Prop} {s : St} (it : It) (g : Good P l N c it s) (h : SW P l N r R (it.app s)) : SW P l N (c :: r) R s := by
  obtain ⟨its, s', hs, hq⟩ := h
  exact ⟨it :: its, s', .cons g hs, hq⟩

variable {Q : Exit → St → Prop} {s : St}

theorem awp_sw {ed : List (List Nat)} {cs : List CI} (h : SW P l N cs (fun s' => Q .normal s') s) : AWp P l N (.reg false ed cs) Q s :=
  awp_reg (let ⟨its, s', hs, hq⟩ := h; ⟨its, s', hs, hq⟩)
theorem awp_seq_sw {ed : List (List Nat)} {cs : List CI} {z : AC} (h : SW P l N cs (fun s' => AWp P l N z Q s') s) : AWp P l N (.seq (.reg false ed cs) z) Q s :=
  awp_seq (awp_sw h)
theorem awp_seq_seq_sw {ed : List (List Nat)} {cs : List CI} {y z : AC} (h : SW P l N cs (fun s' => AWp P l N y (thenS (fun s => AWp P l N z Q s) Q) s') s) : AWp P l N (.seq (.seq (.reg false ed cs) y) z) Q s :=
  awp_seq_seq (awp_sw h)
theorem awp_rw {ed : List (List Nat)} {cs : List CI} (hm : P.follows .mixedOrders = true) (h : RW P l N cs [] (fun its s' => chk ed its = true ∧ Q .normal s') s) : AWp P l N (.reg true ed cs) Q s := awp_regd hm h
theorem awp_seq_rw {ed : List (List Nat)} {cs : List CI} {z : AC} (hm : P.follows .mixedOrders = true) (h : RW P l N cs [] (fun its s' => chk ed its = true ∧ AWp P l N z Q s') s) : AWp P l N (.seq (.reg true ed cs) z) Q s :=
  awp_seq (awp_rw hm h)
theorem awp_seq_seq_rw {ed : List (List Nat)} {cs : List CI} {y z : AC} (hm : P.follows .mixedOrders = true) (h : RW P l N cs [] (fun its s' => chk ed its = true ∧ AWp P l N y (thenS (fun s => AWp P l N z Q s) Q) s') s) : AWp P l N (.seq (.seq (.reg true ed cs) y) z) Q s :=
  awp_seq_seq (awp_rw hm h)

theorem awp_join {γ : Type} (I : γ → St) {y z : AC} {R : Exit → St → Prop} (h : AWp P l N y (thenS (fun s => ∃ g, Le s (I g)) Q) s) (k : ∀ g, AWp P l N z R (I g)) : AWp P l N y (thenS (fun s => AWp P l N z R s) Q) s :=
  h.mono fun e s' hq => by
    cases e with
    | normal => obtain ⟨g, hg⟩ := hq; exact awp_le hg (k g)
    | _ => exact hq
theorem awp_seq_join {γ : Type} (I : γ → St) {y z : AC} (h : AWp P l N y (thenS (fun s => ∃ g, Le s (I g)) Q) s) (k : ∀ g, AWp P l N z Q (I g)) : AWp P l N (.seq y z) Q s :=
  awp_seq (awp_join I h k)

/-- A slice that was built is written no more. -/
theorem le_frz1 {t b n sz : Nat} {cs : List V} (hb : H.get b = some (.cells cs)) (hn : n * sz = cs.length) : Le ⟨[(t, .v (.hs b 0 n sz))], L, H⟩ ⟨[(t, .v (.vs cs n))], L, H.del b⟩ := by
  have := le_frz (s := ⟨[(t, .v (.hs b 0 n sz))], L, H⟩) hb
  simpa [Env.frz, T.frz, V.frz, hn] using this

variable {r : List CI} {i : I} {c : Prop} {x : T}

theorem sw_v {R : St → Prop} {d : Nat} (hh : ∀ H, aopE [] (some d) i (fun o => o.ev A) L.get H = some ⟨c, x, {}⟩) (hc : c) (k : SW P l N r R ⟨(d, x) :: A, L, H⟩) : SW P l N (⟨some d, none, i⟩ :: r) R ⟨A, L, H⟩ :=
  SW.cons ⟨some d, x, { tmps := opdTmps i.opds, slots := lpSlots A i.opds ++ newSlot i (some d), heap := false }, {}⟩ (good_plain (gi_p hh hc)) k
theorem sw_l {R : St → Prop} {d : Nat} {t : Nat} {z : List V} (hh : ∀ H, aopE [] (some d) i (fun o => o.ev A) L.get H = some ⟨c, x, { slot := some (t, some z) }⟩) (hc : c) (k : SW P l N r R ⟨(d, x) :: A, (t, z) :: L, H⟩) : SW P l N (⟨some d, none, i⟩ :: r) R ⟨A, L, H⟩ :=
  SW.cons ⟨some d, x, { tmps := opdTmps i.opds, slots := lpSlots A i.opds ++ newSlot i (some d), heap := false }, { slot := some (t, some z) }⟩ (good_plain (gi_p hh hc)) k
theorem sw_ln {R : St → Prop} {t : Nat} {z : List V} (hh : ∀ H, aopE [] (none) i (fun o => o.ev A) L.get H = some ⟨c, x, { slot := some (t, some z) }⟩) (hc : c) (k : SW P l N r R ⟨A, (t, z) :: L, H⟩) : SW P l N (⟨none, none, i⟩ :: r) R ⟨A, L, H⟩ :=
  SW.cons ⟨none, x, { tmps := opdTmps i.opds, slots := lpSlots A i.opds ++ newSlot i (none), heap := false }, { slot := some (t, some z) }⟩ (good_plain (gi_p hh hc)) k
theorem sw_k {R : St → Prop} {d : Nat} {t : Nat} (hh : ∀ H, aopE [] (some d) i (fun o => o.ev A) L.get H = some ⟨c, x, { kill := some t, slot := some (t, none) }⟩) (hc : c) (k : SW P l N r R ⟨(d, x) :: A.kill t, L.del t, H⟩) : SW P l N (⟨some d, none, i⟩ :: r) R ⟨A, L, H⟩ :=
  SW.cons ⟨some d, x, { tmps := opdTmps i.opds, slots := lpSlots A i.opds ++ newSlot i (some d), heap := false }, { kill := some t, slot := some (t, none) }⟩ (good_plain (gi_p hh hc)) k
theorem sw_hv {R : St → Prop} {d : Nat} (G : List Nat) (hh : aopE G (some d) i (fun o => o.ev A) L.get H = some ⟨c, x, {}⟩) (hc : c) (k : SW P l N r R ⟨(d, x) :: A, L, H⟩) : SW P l N (⟨some d, none, i⟩ :: r) R ⟨A, L, H⟩ :=
  SW.cons ⟨some d, x, { tmps := opdTmps i.opds, slots := lpSlots A i.opds ++ newSlot i (some d), heap := true }, {}⟩ (good_plain (gi_h hh hc)) k
theorem sw_hl {R : St → Prop} {d : Nat} {t : Nat} {z : List V} (G : List Nat) (hh : aopE G (some d) i (fun o => o.ev A) L.get H = some ⟨c, x, { slot := some (t, some z) }⟩) (hc : c) (k : SW P l N r R ⟨(d, x) :: A, (t, z) :: L, H⟩) : SW P l N (⟨some d, none, i⟩ :: r) R ⟨A, L, H⟩ :=
  SW.cons ⟨some d, x, { tmps := opdTmps i.opds, slots := lpSlots A i.opds ++ newSlot i (some d), heap := true }, { slot := some (t, some z) }⟩ (good_plain (gi_h hh hc)) k
theorem sw_hln {R : St → Prop} {t : Nat} {z : List V} (G : List Nat) (hh : aopE G (none) i (fun o => o.ev A) L.get H = some ⟨c, x, { slot := some (t, some z) }⟩) (hc : c) (k : SW P l N r R ⟨A, (t, z) :: L, H⟩) : SW P l N (⟨none, none, i⟩ :: r) R ⟨A, L, H⟩ :=
  SW.cons ⟨none, x, { tmps := opdTmps i.opds, slots := lpSlots A i.opds ++ newSlot i (none), heap := true }, { slot := some (t, some z) }⟩ (good_plain (gi_h hh hc)) k
theorem sw_hh {R : St → Prop} {d : Nat} {K : AH} (G : List Nat) (hh : aopE G (some d) i (fun o => o.ev A) L.get H = some ⟨c, x, { heap := some K }⟩) (hc : c) (k : SW P l N r R ⟨(d, x) :: A, L, K⟩) : SW P l N (⟨some d, none, i⟩ :: r) R ⟨A, L, H⟩ :=
  SW.cons ⟨some d, x, { tmps := opdTmps i.opds, slots := lpSlots A i.opds ++ newSlot i (some d), heap := true }, { heap := some K }⟩ (good_plain (gi_h hh hc)) k
theorem sw_hhn {R : St → Prop} {K : AH} (G : List Nat) (hh : aopE G (none) i (fun o => o.ev A) L.get H = some ⟨c, x, { heap := some K }⟩) (hc : c) (k : SW P l N r R ⟨A, L, K⟩) : SW P l N (⟨none, none, i⟩ :: r) R ⟨A, L, H⟩ :=
  SW.cons ⟨none, x, { tmps := opdTmps i.opds, slots := lpSlots A i.opds ++ newSlot i (none), heap := true }, { heap := some K }⟩ (good_plain (gi_h hh hc)) k
theorem sw_vg {R : St → Prop} {d : Nat} {g : Nat} {want : Bool} (hg : A.get g = .v (.lit (.bool want))) (hh : ∀ H, aopE [] (some d) i (fun o => o.ev A) L.get H = some ⟨c, x, {}⟩) (hc : c) (k : SW P l N r R ⟨(d, x) :: A, L, H⟩) : SW P l N (⟨some d, some (g, want), i⟩ :: r) R ⟨A, L, H⟩ :=
  SW.cons ⟨some d, x, { tmps := g :: opdTmps i.opds, slots := lpSlots A i.opds ++ newSlot i (some d), heap := false }, {}⟩ (good_guard hg (gi_p hh hc)) k
theorem sw_lg {R : St → Prop} {d : Nat} {t : Nat} {z : List V} {g : Nat} {want : Bool} (hg : A.get g = .v (.lit (.bool want))) (hh : ∀ H, aopE [] (some d) i (fun o => o.ev A) L.get H = some ⟨c, x, { slot := some (t, some z) }⟩) (hc : c) (k : SW P l N r R ⟨(d, x) :: A, (t, z) :: L, H⟩) : SW P l N (⟨some d, some (g, want), i⟩ :: r) R ⟨A, L, H⟩ :=
  SW.cons ⟨some d, x, { tmps := g :: opdTmps i.opds, slots := lpSlots A i.opds ++ newSlot i (some d), heap := false }, { slot := some (t, some z) }⟩ (good_guard hg (gi_p hh hc)) k
theorem sw_lng {R : St → Prop} {t : Nat} {z : List V} {g : Nat} {want : Bool} (hg : A.get g = .v (.lit (.bool want))) (hh : ∀ H, aopE [] (none) i (fun o => o.ev A) L.get H = some ⟨c, x, { slot := some (t, some z) }⟩) (hc : c) (k : SW P l N r R ⟨A, (t, z) :: L, H⟩) : SW P l N (⟨none, some (g, want), i⟩ :: r) R ⟨A, L, H⟩ :=
  SW.cons ⟨none, x, { tmps := g :: opdTmps i.opds, slots := lpSlots A i.opds ++ newSlot i (none), heap := false }, { slot := some (t, some z) }⟩ (good_guard hg (gi_p hh hc)) k
theorem sw_kg {R : St → Prop} {d : Nat} {t : Nat} {g : Nat} {want : Bool} (hg : A.get g = .v (.lit (.bool want))) (hh : ∀ H, aopE [] (some d) i (fun o => o.ev A) L.get H = some ⟨c, x, { kill := some t, slot := some (t, none) }⟩) (hc : c) (k : SW P l N r R ⟨(d, x) :: A.kill t, L.del t, H⟩) : SW P l N (⟨some d, some (g, want), i⟩ :: r) R ⟨A, L, H⟩ :=
  SW.cons ⟨some d, x, { tmps := g :: opdTmps i.opds, slots := lpSlots A i.opds ++ newSlot i (some d), heap := false }, { kill := some t, slot := some (t, none) }⟩ (good_guard hg (gi_p hh hc)) k
theorem sw_hvg {R : St → Prop} {d : Nat} (G : List Nat) {g : Nat} {want : Bool} (hg : A.get g = .v (.lit (.bool want))) (hh : aopE G (some d) i (fun o => o.ev A) L.get H = some ⟨c, x, {}⟩) (hc : c) (k : SW P l N r R ⟨(d, x) :: A, L, H⟩) : SW P l N (⟨some d, some (g, want), i⟩ :: r) R ⟨A, L, H⟩ :=
  SW.cons ⟨some d, x, { tmps := g :: opdTmps i.opds, slots := lpSlots A i.opds ++ newSlot i (some d), heap := true }, {}⟩ (good_guard hg (gi_h hh hc)) k
theorem sw_hlg {R : St → Prop} {d : Nat} {t : Nat} {z : List V} (G : List Nat) {g : Nat} {want : Bool} (hg : A.get g = .v (.lit (.bool want))) (hh : aopE G (some d) i (fun o => o.ev A) L.get H = some ⟨c, x, { slot := some (t, some z) }⟩) (hc : c) (k : SW P l N r R ⟨(d, x) :: A, (t, z) :: L, H⟩) : SW P l N (⟨some d, some (g, want), i⟩ :: r) R ⟨A, L, H⟩ :=
  SW.cons ⟨some d, x, { tmps := g :: opdTmps i.opds, slots := lpSlots A i.opds ++ newSlot i (some d), heap := true }, { slot := some (t, some z) }⟩ (good_guard hg (gi_h hh hc)) k
theorem sw_hlng {R : St → Prop} {t : Nat} {z : List V} (G : List Nat) {g : Nat} {want : Bool} (hg : A.get g = .v (.lit (.bool want))) (hh : aopE G (none) i (fun o => o.ev A) L.get H = some ⟨c, x, { slot := some (t, some z) }⟩) (hc : c) (k : SW P l N r R ⟨A, (t, z) :: L, H⟩) : SW P l N (⟨none, some (g, want), i⟩ :: r) R ⟨A, L, H⟩ :=
  SW.cons ⟨none, x, { tmps := g :: opdTmps i.opds, slots := lpSlots A i.opds ++ newSlot i (none), heap := true }, { slot := some (t, some z) }⟩ (good_guard hg (gi_h hh hc)) k
theorem sw_hhg {R : St → Prop} {d : Nat} {K : AH} (G : List Nat) {g : Nat} {want : Bool} (hg : A.get g = .v (.lit (.bool want))) (hh : aopE G (some d) i (fun o => o.ev A) L.get H = some ⟨c, x, { heap := some K }⟩) (hc : c) (k : SW P l N r R ⟨(d, x) :: A, L, K⟩) : SW P l N (⟨some d, some (g, want), i⟩ :: r) R ⟨A, L, H⟩ :=
  SW.cons ⟨some d, x, { tmps := g :: opdTmps i.opds, slots := lpSlots A i.opds ++ newSlot i (some d), heap := true }, { heap := some K }⟩ (good_guard hg (gi_h hh hc)) k
theorem sw_hhng {R : St → Prop} {K : AH} (G : List Nat) {g : Nat} {want : Bool} (hg : A.get g = .v (.lit (.bool want))) (hh : aopE G (none) i (fun o => o.ev A) L.get H = some ⟨c, x, { heap := some K }⟩) (hc : c) (k : SW P l N r R ⟨A, L, K⟩) : SW P l N (⟨none, some (g, want), i⟩ :: r) R ⟨A, L, H⟩ :=
  SW.cons ⟨none, x, { tmps := g :: opdTmps i.opds, slots := lpSlots A i.opds ++ newSlot i (none), heap := true }, { heap := some K }⟩ (good_guard hg (gi_h hh hc)) k
theorem sw_sk {R : St → Prop} {d g : Nat} {want b : Bool} (hg : A.get g = .v (.lit (.bool b))) (hne : b = !want) (k : SW P l N r R ⟨(d, .v .any) :: A, L, H⟩) : SW P l N (⟨some d, some (g, want), i⟩ :: r) R ⟨A, L, H⟩ :=
  SW.cons ⟨some d, .v .any, { tmps := [g] }, {}⟩ (good_skip hg (by subst hne; cases want <;> decide)) k
theorem sw_call {R : St → Prop} {d : Nat} {f : Nat} {args : List Opd} {vs : List V} {v : V} (hargs : evs A args = some vs) (hf : FN P f vs H v H) (k : SW P l N r R ⟨(d, .v v) :: A, L, H⟩) : SW P l N (⟨some d, none, .call f args⟩ :: r) R ⟨A, L, H⟩ :=
  SW.cons ⟨some d, .v v, { tmps := opdTmps args, heap := true }, {}⟩ (good_plain (goodI_call hargs hf rfl)) k
theorem sw_callg {R : St → Prop} {d : Nat} {f : Nat} {args : List Opd} {vs : List V} {v : V} {g : Nat} {want : Bool} (hg : A.get g = .v (.lit (.bool want))) (hargs : evs A args = some vs) (hf : FN P f vs H v H) (k : SW P l N r R ⟨(d, .v v) :: A, L, H⟩) : SW P l N (⟨some d, some (g, want), .call f args⟩ :: r) R ⟨A, L, H⟩ :=
  SW.cons ⟨some d, .v v, { tmps := g :: opdTmps args, heap := true }, {}⟩ (good_guard hg (goodI_call hargs hf rfl)) k
theorem sw_loud {R : St → Prop} {d : Nat} {f : Nat} {args : List Opd} {vs : List V} {v : V} {K : AH} (hargs : evs A args = some vs) (hf : FN P f vs H v K) (k : SW P l N r R ⟨(d, .v v) :: A, L, K⟩) : SW P l N (⟨some d, none, .call f args⟩ :: r) R ⟨A, L, H⟩ :=
  SW.cons ⟨some d, .v v, { tmps := opdTmps args, heap := true }, { heap := some K }⟩ (good_plain (goodI_call hargs hf rfl)) k
theorem sw_callv {R : St → Prop} {d : Nat} {fo : Opd} {f : Nat} {caps : List V} {args : List Opd} {vs : List V} {v : V} (hfo : fo.ev A = .v (.fn f caps)) (hargs : evs A args = some vs) (hb : hasBody P f = true) (hf : FN P f (vs ++ caps) H v H) (k : SW P l N r R ⟨(d, .v v) :: A, L, H⟩) : SW P l N (⟨some d, none, .callv fo args⟩ :: r) R ⟨A, L, H⟩ :=
  SW.cons ⟨some d, .v v, { tmps := opdTmps (fo :: args), heap := true }, {}⟩ (good_plain (goodI_callv hfo hargs hb hf rfl)) k
theorem rw_v' {R : List It → St → Prop} {acc : List It} {d : Nat} (hh : ∀ H, aopE [] (some d) i (fun o => o.ev A) L.get H = some ⟨c, x, {}⟩) (hc : c) (k : RW P l N r (acc ++ [⟨some d, x, { tmps := opdTmps i.opds, slots := lpSlots A i.opds ++ newSlot i (some d), heap := false }, {}⟩]) R ⟨(d, x) :: A, L, H⟩) : RW P l N (⟨some d, none, i⟩ :: r) acc R ⟨A, L, H⟩ :=
  RW.cons _ (good_plain (gi_p hh hc)) k
theorem rw_l' {R : List It → St → Prop} {acc : List It} {d : Nat} {t : Nat} {z : List V} (hh : ∀ H, aopE [] (some d) i (fun o => o.ev A) L.get H = some ⟨c, x, { slot := some (t, some z) }⟩) (hc : c) (k : RW P l N r (acc ++ [⟨some d, x, { tmps := opdTmps i.opds, slots := lpSlots A i.opds ++ newSlot i (some d), heap := false }, { slot := some (t, some z) }⟩]) R ⟨(d, x) :: A, (t, z) :: L, H⟩) : RW P l N (⟨some d, none, i⟩ :: r) acc R ⟨A, L, H⟩ :=
  RW.cons _ (good_plain (gi_p hh hc)) k
theorem rw_ln' {R : List It → St → Prop} {acc : List It} {t : Nat} {z : List V} (hh : ∀ H, aopE [] (none) i (fun o => o.ev A) L.get H = some ⟨c, x, { slot := some (t, some z) }⟩) (hc : c) (k : RW P l N r (acc ++ [⟨none, x, { tmps := opdTmps i.opds, slots := lpSlots A i.opds ++ newSlot i (none), heap := false }, { slot := some (t, some z) }⟩]) R ⟨A, (t, z) :: L, H⟩) : RW P l N (⟨none, none, i⟩ :: r) acc R ⟨A, L, H⟩ :=
  RW.cons _ (good_plain (gi_p hh hc)) k
theorem rw_k' {R : List It → St → Prop} {acc : List It} {d : Nat} {t : Nat} (hh : ∀ H, aopE [] (some d) i (fun o => o.ev A) L.get H = some ⟨c, x, { kill := some t, slot := some (t, none) }⟩) (hc : c) (k : RW P l N r (acc ++ [⟨some d, x, { tmps := opdTmps i.opds, slots := lpSlots A i.opds ++ newSlot i (some d), heap := false }, { kill := some t, slot := some (t, none) }⟩]) R ⟨(d, x) :: A.kill t, L.del t, H⟩) : RW P l N (⟨some d, none, i⟩ :: r) acc R ⟨A, L, H⟩ :=
  RW.cons _ (good_plain (gi_p hh hc)) k
theorem rw_hv' {R : List It → St → Prop} {acc : List It} {d : Nat} (G : List Nat) (hh : aopE G (some d) i (fun o => o.ev A) L.get H = some ⟨c, x, {}⟩) (hc : c) (k : RW P l N r (acc ++ [⟨some d, x, { tmps := opdTmps i.opds, slots := lpSlots A i.opds ++ newSlot i (some d), heap := true }, {}⟩]) R ⟨(d, x) :: A, L, H⟩) : RW P l N (⟨some d, none, i⟩ :: r) acc R ⟨A, L, H⟩ :=
  RW.cons _ (good_plain (gi_h hh hc)) k
theorem rw_hl' {R : List It → St → Prop} {acc : List It} {d : Nat} {t : Nat} {z : List V} (G : List Nat) (hh : aopE G (some d) i (fun o => o.ev A) L.get H = some ⟨c, x, { slot := some (t, some z) }⟩) (hc : c) (k : RW P l N r (acc ++ [⟨some d, x, { tmps := opdTmps i.opds, slots := lpSlots A i.opds ++ newSlot i (some d), heap := true }, { slot := some (t, some z) }⟩]) R ⟨(d, x) :: A, (t, z) :: L, H⟩) : RW P l N (⟨some d, none, i⟩ :: r) acc R ⟨A, L, H⟩ :=
  RW.cons _ (good_plain (gi_h hh hc)) k
theorem rw_hln' {R : List It → St → Prop} {acc : List It} {t : Nat} {z : List V} (G : List Nat) (hh : aopE G (none) i (fun o => o.ev A) L.get H = some ⟨c, x, { slot := some (t, some z) }⟩) (hc : c) (k : RW P l N r (acc ++ [⟨none, x, { tmps := opdTmps i.opds, slots := lpSlots A i.opds ++ newSlot i (none), heap := true }, { slot := some (t, some z) }⟩]) R ⟨A, (t, z) :: L, H⟩) : RW P l N (⟨none, none, i⟩ :: r) acc R ⟨A, L, H⟩ :=
  RW.cons _ (good_plain (gi_h hh hc)) k
theorem rw_hh' {R : List It → St → Prop} {acc : List It} {d : Nat} {K : AH} (G : List Nat) (hh : aopE G (some d) i (fun o => o.ev A) L.get H = some ⟨c, x, { heap := some K }⟩) (hc : c) (k : RW P l N r (acc ++ [⟨some d, x, { tmps := opdTmps i.opds, slots := lpSlots A i.opds ++ newSlot i (some d), heap := true }, { heap := some K }⟩]) R ⟨(d, x) :: A, L, K⟩) : RW P l N (⟨some d, none, i⟩ :: r) acc R ⟨A, L, H⟩ :=
  RW.cons _ (good_plain (gi_h hh hc)) k
theorem rw_hhn' {R : List It → St → Prop} {acc : List It} {K : AH} (G : List Nat) (hh : aopE G (none) i (fun o => o.ev A) L.get H = some ⟨c, x, { heap := some K }⟩) (hc : c) (k : RW P l N r (acc ++ [⟨none, x, { tmps := opdTmps i.opds, slots := lpSlots A i.opds ++ newSlot i (none), heap := true }, { heap := some K }⟩]) R ⟨A, L, K⟩) : RW P l N (⟨none, none, i⟩ :: r) acc R ⟨A, L, H⟩ :=
  RW.cons _ (good_plain (gi_h hh hc)) k
theorem rw_vg' {R : List It → St → Prop} {acc : List It} {d : Nat} {g : Nat} {want : Bool} (hg : A.get g = .v (.lit (.bool want))) (hh : ∀ H, aopE [] (some d) i (fun o => o.ev A) L.get H = some ⟨c, x, {}⟩) (hc : c) (k : RW P l N r (acc ++ [⟨some d, x, { tmps := g :: opdTmps i.opds, slots := lpSlots A i.opds ++ newSlot i (some d), heap := false }, {}⟩]) R ⟨(d, x) :: A, L, H⟩) : RW P l N (⟨some d, some (g, want), i⟩ :: r) acc R ⟨A, L, H⟩ :=
  RW.cons _ (good_guard hg (gi_p hh hc)) k
theorem rw_lg' {R : List It → St → Prop} {acc : List It} {d : Nat} {t : Nat} {z : List V} {g : Nat} {want : Bool} (hg : A.get g = .v (.lit (.bool want))) (hh : ∀ H, aopE [] (some d) i (fun o => o.ev A) L.get H = some ⟨c, x, { slot := some (t, some z) }⟩) (hc : c) (k : RW P l N r (acc ++ [⟨some d, x, { tmps := g :: opdTmps i.opds, slots := lpSlots A i.opds ++ newSlot i (some d), heap := false }, { slot := some (t, some z) }⟩]) R ⟨(d, x) :: A, (t, z) :: L, H⟩) : RW P l N (⟨some d, some (g, want), i⟩ :: r) acc R ⟨A, L, H⟩ :=
  RW.cons _ (good_guard hg (gi_p hh hc)) k
theorem rw_lng' {R : List It → St → Prop} {acc : List It} {t : Nat} {z : List V} {g : Nat} {want : Bool} (hg : A.get g = .v (.lit (.bool want))) (hh : ∀ H, aopE [] (none) i (fun o => o.ev A) L.get H = some ⟨c, x, { slot := some (t, some z) }⟩) (hc : c) (k : RW P l N r (acc ++ [⟨none, x, { tmps := g :: opdTmps i.opds, slots := lpSlots A i.opds ++ newSlot i (none), heap := false }, { slot := some (t, some z) }⟩]) R ⟨A, (t, z) :: L, H⟩) : RW P l N (⟨none, some (g, want), i⟩ :: r) acc R ⟨A, L, H⟩ :=
  RW.cons _ (good_guard hg (gi_p hh hc)) k
theorem rw_kg' {R : List It → St → Prop} {acc : List It} {d : Nat} {t : Nat} {g : Nat} {want : Bool} (hg : A.get g = .v (.lit (.bool want))) (hh : ∀ H, aopE [] (some d) i (fun o => o.ev A) L.get H = some ⟨c, x, { kill := some t, slot := some (t, none) }⟩) (hc : c) (k : RW P l N r (acc ++ [⟨some d, x, { tmps := g :: opdTmps i.opds, slots := lpSlots A i.opds ++ newSlot i (some d), heap := false }, { kill := some t, slot := some (t, none) }⟩]) R ⟨(d, x) :: A.kill t, L.del t, H⟩) : RW P l N (⟨some d, some (g, want), i⟩ :: r) acc R ⟨A, L, H⟩ :=
  RW.cons _ (good_guard hg (gi_p hh hc)) k
theorem rw_hvg' {R : List It → St → Prop} {acc : List It} {d : Nat} (G : List Nat) {g : Nat} {want : Bool} (hg : A.get g = .v (.lit (.bool want))) (hh : aopE G (some d) i (fun o => o.ev A) L.get H = some ⟨c, x, {}⟩) (hc : c) (k : RW P l N r (acc ++ [⟨some d, x, { tmps := g :: opdTmps i.opds, slots := lpSlots A i.opds ++ newSlot i (some d), heap := true }, {}⟩]) R ⟨(d, x) :: A, L, H⟩) : RW P l N (⟨some d, some (g, want), i⟩ :: r) acc R ⟨A, L, H⟩ :=
  RW.cons _ (good_guard hg (gi_h hh hc)) k
theorem rw_hlg' {R : List It → St → Prop} {acc : List It} {d : Nat} {t : Nat} {z : List V} (G : List Nat) {g : Nat} {want : Bool} (hg : A.get g = .v (.lit (.bool want))) (hh : aopE G (some d) i (fun o => o.ev A) L.get H = some ⟨c, x, { slot := some (t, some z) }⟩) (hc : c) (k : RW P l N r (acc ++ [⟨some d, x, { tmps := g :: opdTmps i.opds, slots := lpSlots A i.opds ++ newSlot i (some d), heap := true }, { slot := some (t, some z) }⟩]) R ⟨(d, x) :: A, (t, z) :: L, H⟩) : RW P l N (⟨some d, some (g, want), i⟩ :: r) acc R ⟨A, L, H⟩ :=
  RW.cons _ (good_guard hg (gi_h hh hc)) k
theorem rw_hlng' {R : List It → St → Prop} {acc : List It} {t : Nat} {z : List V} (G : List Nat) {g : Nat} {want : Bool} (hg : A.get g = .v (.lit (.bool want))) (hh : aopE G (none) i (fun o => o.ev A) L.get H = some ⟨c, x, { slot := some (t, some z) }⟩) (hc : c) (k : RW P l N r (acc ++ [⟨none, x, { tmps := g :: opdTmps i.opds, slots := lpSlots A i.opds ++ newSlot i (none), heap := true }, { slot := some (t, some z) }⟩]) R ⟨A, (t, z) :: L, H⟩) : RW P l N (⟨none, some (g, want), i⟩ :: r) acc R ⟨A, L, H⟩ :=
  RW.cons _ (good_guard hg (gi_h hh hc)) k
theorem rw_hhg' {R : List It → St → Prop} {acc : List It} {d : Nat} {K : AH} (G : List Nat) {g : Nat} {want : Bool} (hg : A.get g = .v (.lit (.bool want))) (hh : aopE G (some d) i (fun o => o.ev A) L.get H = some ⟨c, x, { heap := some K }⟩) (hc : c) (k : RW P l N r (acc ++ [⟨some d, x, { tmps := g :: opdTmps i.opds, slots := lpSlots A i.opds ++ newSlot i (some d), heap := true }, { heap := some K }⟩]) R ⟨(d, x) :: A, L, K⟩) : RW P l N (⟨some d, some (g, want), i⟩ :: r) acc R ⟨A, L, H⟩ :=
  RW.cons _ (good_guard hg (gi_h hh hc)) k
theorem rw_hhng' {R : List It → St → Prop} {acc : List It} {K : AH} (G : List Nat) {g : Nat} {want : Bool} (hg : A.get g = .v (.lit (.bool want))) (hh : aopE G (none) i (fun o => o.ev A) L.get H = some ⟨c, x, { heap := some K }⟩) (hc : c) (k : RW P l N r (acc ++ [⟨none, x, { tmps := g :: opdTmps i.opds, slots := lpSlots A i.opds ++ newSlot i (none), heap := true }, { heap := some K }⟩]) R ⟨A, L, K⟩) : RW P l N (⟨none, some (g, want), i⟩ :: r) acc R ⟨A, L, H⟩ :=
  RW.cons _ (good_guard hg (gi_h hh hc)) k
theorem rw_sk' {R : List It → St → Prop} {acc : List It} {d g : Nat} {want b : Bool} (hg : A.get g = .v (.lit (.bool b))) (hne : b = !want) (k : RW P l N r (acc ++ [⟨some d, .v .any, { tmps := [g] }, {}⟩]) R ⟨(d, .v .any) :: A, L, H⟩) : RW P l N (⟨some d, some (g, want), i⟩ :: r) acc R ⟨A, L, H⟩ :=
  RW.cons _ (good_skip hg (by subst hne; cases want <;> decide)) k
theorem rw_call' {R : List It → St → Prop} {acc : List It} {d : Nat} {f : Nat} {args : List Opd} {vs : List V} {v : V} (hargs : evs A args = some vs) (hf : FN P f vs H v H) (k : RW P l N r (acc ++ [⟨some d, .v v, { tmps := opdTmps args, heap := true }, {}⟩]) R ⟨(d, .v v) :: A, L, H⟩) : RW P l N (⟨some d, none, .call f args⟩ :: r) acc R ⟨A, L, H⟩ :=
  RW.cons _ (good_plain (goodI_call hargs hf rfl)) k
theorem rw_callg' {R : List It → St → Prop} {acc : List It} {d : Nat} {f : Nat} {args : List Opd} {vs : List V} {v : V} {g : Nat} {want : Bool} (hg : A.get g = .v (.lit (.bool want))) (hargs : evs A args = some vs) (hf : FN P f vs H v H) (k : RW P l N r (acc ++ [⟨some d, .v v, { tmps := g :: opdTmps args, heap := true }, {}⟩]) R ⟨(d, .v v) :: A, L, H⟩) : RW P l N (⟨some d, some (g, want), .call f args⟩ :: r) acc R ⟨A, L, H⟩ :=
  RW.cons _ (good_guard hg (goodI_call hargs hf rfl)) k
theorem rw_loud' {R : List It → St → Prop} {acc : List It} {d : Nat} {f : Nat} {args : List Opd} {vs : List V} {v : V} {K : AH} (hargs : evs A args = some vs) (hf : FN P f vs H v K) (k : RW P l N r (acc ++ [⟨some d, .v v, { tmps := opdTmps args, heap := true }, { heap := some K }⟩]) R ⟨(d, .v v) :: A, L, K⟩) : RW P l N (⟨some d, none, .call f args⟩ :: r) acc R ⟨A, L, H⟩ :=
  RW.cons _ (good_plain (goodI_call hargs hf rfl)) k
theorem rw_callv' {R : List It → St → Prop} {acc : List It} {d : Nat} {fo : Opd} {f : Nat} {caps : List V} {args : List Opd} {vs : List V} {v : V} (hfo : fo.ev A = .v (.fn f caps)) (hargs : evs A args = some vs) (hb : hasBody P f = true) (hf : FN P f (vs ++ caps) H v H) (k : RW P l N r (acc ++ [⟨some d, .v v, { tmps := opdTmps (fo :: args), heap := true }, {}⟩]) R ⟨(d, .v v) :: A, L, H⟩) : RW P l N (⟨some d, none, .callv fo args⟩ :: r) acc R ⟨A, L, H⟩ :=
  RW.cons _ (good_plain (goodI_callv hfo hargs hb hf rfl)) k

/-! ### Wrapping -/
theorem wrap_i64 {x : Int} (h1 : -9223372036854775808 ≤ x) (h2 : x < 9223372036854775808) : IntKind.i64.wrap x = x := by
  rw [IntKind.wrap_i64]; omega
theorem wrap_u64 {x : Int} (h1 : 0 ≤ x) (h2 : x < 18446744073709551616) : IntKind.u64.wrap x = x := by
  rw [IntKind.wrap_u64]; omega

end
end Iso

/- The abstract layer, twenty-first part: ranges over functions: the rounds, the statement. Nothing of a program. -/
namespace Iso
open Go Go.RowKit

/-- The code of a loop's rounds. -/
def RC (P : Program) (N : Nat) (x y : AC) : Code → Code → Prop := fun a b => compC P N a = some x ∧ compC P N b = some y
def snapG (A : Env) : Nat → Nat → List V
  | _, 0 => []
  | k, n + 1 => (match A.get k with | .v x => x | .lp _ _ => .any) :: snapG A (k + 1) n
/-- What all temporaries hold. -/
def snap (A : Env) (N : Nat) : List V := snapG A 0 N
def setPs : List Nat → List V → List V → List V
  | p :: ps, a :: as, vs => setPs ps as (vs.set p a)
  | _, _, vs => vs

theorem snapG_get (A : Env) : ∀ (n k i : Nat) (v : V), (snapG A k n)[i]? = some v → i < n ∧ v = (match A.get (k + i) with | .v x => x | .lp _ _ => .any)
  | 0, k, i, v, h => by simp [snapG] at h
  | n + 1, k, 0, v, h => by simp [snapG] at h; exact ⟨by omega, h.symm⟩
  | n + 1, k, i + 1, v, h => by
    simp [snapG] at h
    obtain ⟨h1, h2⟩ := snapG_get A n (k + 1) i v h
    exact ⟨by omega, by rw [show k + (i + 1) = k + 1 + i by omega]; exact h2⟩
theorem snapG_len (A : Env) : ∀ (n k : Nat), (snapG A k n).length = n
  | 0, _ => rfl
  | n + 1, k => by simp [snapG, snapG_len A n (k + 1)]
theorem snap_len (A : Env) (N : Nat) : (snap A N).length = N := snapG_len A N 0

section
variable {E : Entry} {ρ ρ' : Rn} {β : Nat → Option Nat} {s : St} {a : Act} {w w' : World} {P : Program} {N : Nat}

theorem snap_VRs (hs : SR E ρ β s a w) (hN : a.tmps.size = N) : VRs ρ w (snap s.A N) a.tmps.toList := by
  refine VRs.of_get (by rw [snap_len]; simpa using hN) fun i v hv => ?_
  obtain ⟨h1, h2⟩ := snapG_get _ _ _ _ _ hv
  have h3 := hs.tmps (0 + i)
  have hlt : i < a.tmps.size := by omega
  refine ⟨a.tmps[i], by simp [hlt], ?_⟩
  rw [Nat.zero_add] at h2 h3
  rw [h2]
  have he : a.tmps.getD i undef = a.tmps[i] := by simp [Array.getD, hlt]
  rw [he] at h3
  cases hx : s.A.get i with
  | v x => rw [hx] at h3; exact h3
  | lp t o => simp [VR]

theorem setPs_VRs : ∀ {ps : List Nat} {as vs : List V} {xs : List Value} {T : Array Value}, VRs ρ w vs T.toList → VRs ρ w as xs → VRs ρ w (setPs ps as vs) ((ps.zip xs).foldl (fun t (p : Nat × Value) => t.setIfInBounds p.1 p.2) T).toList
  | [], as, vs, xs, T, h, _ => by simpa [setPs] using h
  | p :: ps, [], vs, xs, T, h, k => by simp only [VRs] at k; subst k; simpa [setPs] using h
  | p :: ps, a :: as, vs, xs, T, h, k => by
    simp only [VRs] at k
    obtain ⟨x, r, rfl, k1, k2⟩ := k
    simp only [setPs, List.zip_cons_cons, List.foldl_cons]
    exact setPs_VRs (by rw [Array.toList_setIfInBounds]; exact VRs.set h p k1) k2

theorem argsA_tmps {vs : List V} {T : Array Value} (h : VRs ρ w vs T.toList) (t : Nat) : TR ρ β w ((argsA 0 vs).get t) (T.getD t undef) := by
  rw [argsA_get]
  simp only [Nat.zero_le, if_true, Nat.sub_zero, TR]
  cases hv : vs[t]? with
  | none => simp [VR]
  | some v =>
    obtain ⟨x, hx, hvr⟩ := h.get t v hv
    have hlt : t < T.size := by have := (List.getElem?_eq_some_iff.1 hx).1; simpa using this
    have : T.getD t undef = x := by
      simp [hlt] at hx
      simp [Array.getD, hlt, hx]
    rw [this]; simpa using hvr

/-- One round: the assignments, the body. -/
def Rnd (P : Program) (N : Nat) (x y : AC) (ps : List Nat) (vs as : List V) (b : Nat) (H : AH) (r : Bool) (H' : AH) : Prop :=
  ∃ s1 C1 ps1 vs1 pe1, BS P (some 0) N x ⟨argsA 0 (setPs ps as vs), [], H⟩ .normal s1 ∧ s1.H.get b = some (.loop C1 .ready pe1 ps1 vs1) ∧
  ∃ e s3, BS P (some 0) N y ⟨s1.A, s1.L, s1.H.set b (.loop C1 .busy pe1 ps1 vs1)⟩ e s3 ∧
  ∃ C3 st3 pe3 ps3 vs3, s3.H.get b = some (.loop C3 st3 pe3 ps3 vs3) ∧
    ((e = .normal ∧ r = true ∧ H' = s3.H.set b (.loop C3 .ready none ps3 vs3)) ∨ (e = .ret ∧ r = false ∧ H' = s3.H.set b (.loop C3 .done (some .ret) ps3 vs3)) ∨
      (∃ id, e = .exit id ∧ r = false ∧ H' = s3.H.set b (.loop C3 .done (some (.exit id)) ps3 vs3)))

theorem putLoop (h : SR E ρ β s a w) {b B : Nat} {C : Code → Code → Prop} {st : LoopState} {pe : Option Code} {ps : List Nat} {vs : List V} (hb : s.H.get b = some (.loop C st pe ps vs)) (hB : ρ.φ b = some B) :
    ∃ r : Loop, w.heap[B]? = some (.loop r) ∧ r.state = st ∧ r.pending = pe ∧ r.params.toList = ps ∧ C r.assign r.body ∧ VRs ρ w vs r.tmps.toList ∧
      ∀ st' pe', SR E ρ β ⟨s.A, s.L, s.H.set b (.loop C st' pe' ps vs)⟩ a (w.putObj B (.loop { r with state := st', pending := pe' })) := by
  obtain ⟨B', h1, r, h2, h3, h4, h5, h6, h7⟩ := h.heap b _ hb
  rw [hB] at h1; cases h1
  refine ⟨r, h2, h3, h4, h5, h6, h7, fun st' pe' => ?_⟩
  have hlt : B < w.heap.size := (Array.getElem?_eq_some_iff.1 h2).1
  refine h.writeH hB (Wrote.putObj _ h2 (by intros; simp)) fun k => ?_
  exact ⟨_, World.putObj_heap_same hlt, rfl, rfl, h5, h6, VRs.keep k _ _ h7⟩

theorem goodI_yield {l : Option Nat} {M : Nat} {dst : Option Nat} {fo : Opd} {args : List Opd} {as : List V} {b : Nat} {x y : AC} {st : LoopState} {pe : Option Code} {ps : List Nat} {vs : List V} {r : Bool} {H' : AH}
    (hfo : fo.ev s.A = .v (.yl b)) (hargs : evs s.A args = some as) (hb : s.H.get b = some (.loop (RC P N x y) st pe ps vs)) (hl : as.length = ps.length) (hv : vs.length = N) (hr : Rnd P N x y ps vs as b s.H r H') :
    GoodI P l M dst (.callv fo args) ⟨dst, .v (.lit (.bool r)), { tmps := opdTmps (fo :: args), heap := true }, { heap := some H' }⟩ s := by
  intro o hc ho hd t ht hwf
  obtain ⟨hc, hcall⟩ := comp1_comp hc
  obtain ⟨c, hop⟩ := hcall rfl
  obtain ⟨g, h1, h2, h3⟩ := comp_call_val hop hc
  have htH : s.H = t.H := ht.H rfl
  refine ⟨fun n e o hn => ?_, fun E ρ β a w hs hN Q K hK => ?_⟩
  · simp only [It.app, killA, Env.get_put?] at hn
    split at hn
    · cases hn
    · exact hwf n e o hn
  have hxs := cOpds_eval hs h3 ((evs_agree fun n hn => ht.A n (by cases fo <;> simp [opdTmps] at hn ⊢ <;> simp [hn])).trans hargs)
  have hg := hs.opd h2
  rw [ev_agree (x := fo) (s := s) (t := t) (fun n hn => ht.A n (by cases fo <;> simp [opdTmps] at hn ⊢; simp [hn])), hfo] at hg
  rw [htH] at hb hr
  obtain ⟨B, hB, rec, h4, h5, h6, h7, h8, h9⟩ := hs.heap b _ hb
  have hg := VR.yl_at (w := w) hg hB
  have hbn : b < t.H.next := hs.φlt hB
  have hnd : ∀ c', o.op ≠ .defer c' := fun c' => by simp [hop]
  have hxl := hxs.length
  have hrun : (execOp a.eval o).run P w = .ok (.round B rec.fn ((rec.params.zip (c.args.map a.eval)).foldl (fun tmps (t, a) => tmps.setIfInBounds t a) rec.tmps) rec.assign rec.body) w := by
    have hy := run_yield (P := P) (args := c.args.map a.eval) h4 (by
      have : rec.params.size = ps.length := by rw [← h7]; simp
      simp only [List.length_map, Array.length_toList, Array.size_map] at hxl ⊢
      omega)
    simp only [execOp, hop, resolve, h1]
    simpa [hg, Deferred.ofValue, invoke] using hy
  refine ⟨fun f hf => trivial, ?_⟩
  rw [Oper.semAt_eq _ _ _ hnd, hrun]
  rw [Oper.uponIn_round]
  refine ⟨fun h => by simp [FW] at h, ?_⟩
  obtain ⟨s1, C1, ps1, vs1, pe1, b1, g1, e, s3, b2, C3, st3, pe3, ps3, vs3, g3, hend⟩ := hr
  have hrec := hs.hr
  let Er : Entry := ⟨ρ.φ, t.H.next, ρ.Y, w, some B⟩
  have hT : VRs ρ w (setPs ps as vs) (((rec.params.zip (c.args.map a.eval)).foldl (fun tmps (t, a) => tmps.setIfInBounds t a) rec.tmps)).toList := by
    have h := setPs_VRs (ps := ps) h9 hxs
    rw [← Array.foldl_toList, Array.toList_zip, h7]
    simpa using h
  have hsz : ((rec.params.zip (c.args.map a.eval)).foldl (fun tmps (t, a) => tmps.setIfInBounds t a) rec.tmps).size = N := by
    have h10 := h9.length
    have : ∀ (zs : List (Nat × Value)) (T : Array Value), (zs.foldl (fun tmps (p : Nat × Value) => tmps.setIfInBounds p.1 p.2) T).size = T.size := by
      intro zs
      induction zs with
      | nil => intro T; rfl
      | cons z zs ih => intro T; simp [List.foldl_cons, ih]
    rw [← Array.foldl_toList]
    have h11 := this (rec.params.zip (c.args.map a.eval)).toList rec.tmps
    simp only [Array.length_toList] at h10
    exact h11.trans (h10.trans hv)
  have hs0 : SR Er ρ (fun _ => none) ⟨argsA 0 (setPs ps as vs), [], t.H⟩ ⟨(rec.params.zip (c.args.map a.eval)).foldl (fun tmps (t, a) => tmps.setIfInBounds t a) rec.tmps, []⟩ w :=
    { hrec with tmps := fun u => argsA_tmps hT u, loc := fun u cs hc => by simp [Loc.get] at hc, dfr := trivial }
  have wf0 : WF ⟨argsA 0 (setPs ps as vs), [], t.H⟩ := fun n d o hd => by simp [argsA_get] at hd
  have hin : (FW E.e.l).inRound B = FW (some B) := rfl
  obtain ⟨wf1, q1⟩ := b1 _ h8.1 wf0
  refine RoundIn.mono (roundIn_of_wpIn (R := fun e' w'' => ∃ v, e' = .returned v ∧ K (a.put o.dst v) w'') trivial ?_) ?_
  · refine wpIn_mono (q1 ⟨Er, fun h => by cases h⟩ ρ _ _ w hs0 hsz) ?_
    rintro e1 a1 w1 ⟨rfl, hN1, ρ1, β1, hs1⟩
    have nm : ∀ {ρ2 : Rn} {β2 : Nat → Option Nat} {s2 : St} {a2 : Act} {w2 : World} {kb : Blk}, SR Er ρ2 β2 s2 a2 w2 → s2.H.get b = some kb → ρ2.φ b = some B := by
      intro ρ2 β2 s2 a2 w2 kb hs2 hk
      obtain ⟨B2, h10, _⟩ := hs2.heap b _ hk
      have : ρ.φ b = some B2 := hs2.names b B2 hbn h10
      rw [hB] at this; cases this; exact h10
    obtain ⟨r1, k1, k2, k3, k4, k5, k6, k7⟩ := putLoop hs1 g1 (nm hs1 g1)
    refine ⟨_, run_beginRound k1 k2, ?_⟩
    have hs2 := k7 .busy pe1
    rw [← k3] at hs2
    have wf2 : WF ⟨s1.A, s1.L, s1.H.set b (.loop C1 .busy pe1 ps1 vs1)⟩ := wf1
    obtain ⟨wf3, q2⟩ := b2 _ h8.2 wf2
    subst k3
    refine wpIn_mono (q2 ⟨Er, fun h => by cases h⟩ ρ1 β1 a1 _ hs2 hN1) ?_
    rintro e3 a3 w3 ⟨rfl, hN3, ρ3, β3, hs3⟩
    obtain ⟨r3, m1, m2, m3, m4, m5, m6, m7⟩ := putLoop hs3 g3 (nm hs3 g3)
    have fin : ∀ (j : Option Code) (rr : Bool), j.isNone = rr → rr = r → H' = s3.H.set b (.loop C3 (if j.isNone then .ready else .done) j ps3 vs3) →
        ∃ v w', (Instr.endRound B j).run P w3 = .ok v w' ∧ ∃ v', Ending.returned v = .returned v' ∧ K (a.put o.dst v') w' := by
      intro j rr h10 h11 h12
      refine ⟨_, _, run_endRound j m1, _, rfl, ?_⟩
      have hs4 := m7 (if j.isNone then .ready else .done) j
      obtain ⟨ρ5, hs5, _⟩ := hs4.dropAll
      have hs6 : SR (E0 ρ t.H w) ρ5 (fun _ => none) ⟨[], [], H'⟩ ⟨#[], []⟩ (w3.putObj B (.loop { r3 with state := if j.isNone then .ready else .done, pending := j })) := by
        rw [h12]; exact { hs5 with dfr := trivial }
      have hs7 := (hs.called hs6).put o.dst (fun d h => by rw [hN]; rw [ho] at h; exact hd d h) (x := .v (.lit (.bool r))) (y := .bool j.isNone) (by simp [TR, VR, h10, h11])
      refine hK _ _ ρ5 β ?_ (by rw [put_size]; exact hN)
      subst ho
      exact hs7
    rcases hend with ⟨rfl, hr1, hr2⟩ | ⟨rfl, hr1, hr2⟩ | ⟨id, rfl, hr1, hr2⟩
    · exact fin none true rfl hr1.symm hr2
    · exact fin (some .ret) false rfl hr1.symm hr2
    · exact fin (some (.exit id)) false rfl hr1.symm hr2
  · rintro e' w'' ⟨v, rfl, hk⟩
    exact hk

variable {Q : Exit → St → Prop}

/-- Where one goes on behind the loop. -/
def After (Q : Exit → St → Prop) : Option Code → St → Prop
  | none, s => Q .normal s
  | some .ret, s => Q .ret s
  | some (.exit id), s => Q (.exit id) s
  | _, _ => False

/-- 'for .. := range f': the function is called with what makes a round. -/
theorem awp_rng {f : Opd} {ps ps' : List Nat} {x y : AC} {gf : Nat} {caps : List V} {v : V} {H2 : AH} {C : Code → Code → Prop} {st : LoopState} {pe : Option Code} {vs' : List V}
    (hf : f.ev s.A = .v (.fn gf caps)) (hb : hasBody P gf = true) (hit : FN P gf (.yl s.H.next :: caps) (s.H.push (.loop (RC P N x y) .ready none ps (snap s.A N))) v H2)
    (hl : H2.get s.H.next = some (.loop C st pe ps' vs')) (hst : st ≠ .busy) (hq : After Q pe ⟨s.A, s.L, H2.set s.H.next (.loop C .exhausted pe ps' vs')⟩) : AWp P none N (.rng f ps x y) Q s := by
  obtain ⟨e, hqe, hpe⟩ : ∃ e, Q e ⟨s.A, s.L, H2.set s.H.next (.loop C .exhausted pe ps' vs')⟩ ∧ ((pe = none ∧ e = .normal) ∨ (pe = some .ret ∧ e = .ret) ∨ ∃ id, pe = some (.exit id) ∧ e = .exit id) := by
    cases pe with
    | none => exact ⟨_, hq, .inl ⟨rfl, rfl⟩⟩
    | some c =>
      cases c with
      | ret => exact ⟨_, hq, .inr (.inl ⟨rfl, rfl⟩)⟩
      | exit id => exact ⟨_, hq, .inr (.inr ⟨id, rfl, rfl⟩)⟩
      | _ => exact hq.elim
  refine ⟨e, _, fun c hc hwf => ?_, hqe⟩
  obtain ⟨g, qs, ca, cb, rfl, h1, h2, h3, h4⟩ := compC_rng hc
  refine ⟨hwf, fun E ρ β a w hs hN => wpIn_rangeFunc fun fn _ => ?_⟩
  have hEl : E.e.l = none := E.ok rfl
  have hg := hs.opd h1
  rw [hf] at hg
  simp only [TR, VR] at hg
  obtain ⟨lb0, hg0, _⟩ := hg
  let rec0 : Loop := { state := .ready, pending := none, fn, tmps := a.tmps, params := qs, assign := ca, body := cb, defers := w.heap.size }
  let a1 : Act := { a with defers := { target := .collected w.heap.size, args := #[] } :: a.defers }
  have hold : ∀ {ds : List Deferred}, Marks E.e.w0.heap.size ρ w ds → ∀ d' ∈ ds, d' ≠ { target := .collected w.heap.size, args := #[] } := by
    intro ds
    induction ds with
    | nil => intro _ d' hd'; cases hd'
    | cons d ds ih =>
      rintro ⟨⟨D, q0, q1, q2, q3, q4⟩, hm⟩ d' hd'
      rcases List.mem_cons.1 hd' with rfl | hd'
      · rw [q1]
        intro he
        have : D = w.heap.size := by injection he with h1 _; injection h1
        have := q2.1
        omega
      · exact ih hm d' hd'
  have hs0 := hs.alloc (.deferred (some []))
  have hs1 : SR E.e ρ β s a1 (w.alloc (.deferred (some []))) := { hs0 with tmps := hs0.tmps, dfr := ⟨⟨w.heap.size, hs.size, rfl, ⟨by simp, fun hy => by
      rcases (hs.Y _).1 hy with hx | ⟨t, ht⟩
      · have := hs.ltX hx; omega
      · have := hs.ltβ ht; omega, fun b hb => by have := hs.ltφ hb; omega⟩, World.alloc_heap_new _ _, hold hs.dfr⟩, hs0.dfr⟩ }
  obtain ⟨ρ2, hs2, hφ2, hn2⟩ := hs1.push (.loop (RC P N x y) .ready none ps (snap s.A N)) (.loop rec0) (fun ρ' k => ⟨rec0, World.alloc_heap_new _ _, rfl, rfl, h2, ⟨h3, h4⟩, VRs.keep k _ _ (snap_VRs (a := a1) hs1 hN)⟩)
  rw [World.size_alloc] at hφ2
  have hg2 := hs2.opd h1
  rw [hf] at hg2
  simp only [TR, VR] at hg2
  obtain ⟨lb, hg, hlb⟩ := hg2
  have hga : a.eval g = .func (.func gf) #[] lb := hg
  have hcall := hit ρ2 _ (.func (.yield (w.heap.size + 1)) #[] #[] :: lb.toList) hs2.hr (by
    simp only [VRs]
    refine ⟨_, _, rfl, ?_, hlb⟩
    simp only [VR]
    exact ⟨by rw [hn2]; exact Nat.lt_succ_self _, _, rfl, one_name hφ2⟩)
  refine ⟨w.heap.size + 1, [{ target := .collected w.heap.size, args := #[] }], (w.alloc (.deferred (some []))).alloc (.loop rec0), { target := .fn (.func gf) lb, args := #[.func (.yield (w.heap.size + 1)) #[] #[]] }, (w.alloc (.deferred (some []))).alloc (.loop rec0), gf,
    #[.func (.yield (w.heap.size + 1)) #[] #[]] ++ lb, (w.alloc (.deferred (some []))).alloc (.loop rec0), ?_, ?_, fun _ _ => trivial, ?_, fun h => by simp [FW] at h, ?_⟩
  · show (Instr.enterLoop fn a.tmps qs ca cb E.e.l).run P w = _
    rw [hEl]; exact run_enterLoop_outer _ _ _ _ _
  · simp only [resolve, hga]
    simp [go_sem]
  · simp only [invoke]
    exact run_enter hb _ _
  · have hxa : (Value.func (.yield (w.heap.size + 1)) #[] #[] :: lb.toList).toArray = #[.func (.yield (w.heap.size + 1)) #[] #[]] ++ lb := by
      apply Array.toList_inj.1; simp
    rw [hxa] at hcall
    refine (FW_calls hcall).mono ?_
    rintro e' w3 ⟨v', ρ3, rfl, hs3, hv3⟩
    have hs4 := hs2.called hs3
    obtain ⟨B3, h5, _⟩ := hs3.heap _ _ hl
    have h6 : ρ3.φ s.H.next = some (w.heap.size + 1) := by
      have := hs3.names s.H.next B3 (Nat.lt_succ_self _) h5
      have h7 : ρ2.φ s.H.next = some B3 := this
      rw [hφ2] at h7; cases h7; exact h5
    obtain ⟨r, k1, k2, k3, k4, k5, k6, k7⟩ := putLoop hs4 hl h6
    have hs5 := k7 .exhausted r.pending
    refine ⟨r.pending, _, run_endLoop k1 (by rw [k2]; exact hst), ?_⟩
    rw [k3] at hs5 ⊢
    have fin : ∀ e', e' = e → (e' = e ∧ a1.tmps.size = N ∧ ∃ ρ' β', SR E.e ρ' β' ⟨s.A, s.L, H2.set s.H.next (.loop C .exhausted pe ps' vs')⟩ a1 (w3.putObj (w.heap.size + 1) (.loop { r with state := .exhausted, pending := pe }))) := fun e' he => ⟨he, hN, ρ3, β, hs5⟩
    rcases hpe with ⟨rfl, rfl⟩ | ⟨rfl, rfl⟩ | ⟨id, rfl, rfl⟩
    · exact fin _ rfl
    · exact wpIn_ret (fin _ rfl)
    · exact wpIn_exit (fin _ rfl)

end
end Iso
