import PyProof.Rows.All
import Wide.All
import OpenK.AllK
import Wide.FinOn
import KE.GoesEnum
import HandS.ForMost
import HandS.Evl
import HandS.Star
import HandS.Style
import HandS.Slots
import HandS.SlotsOwn
import HandS.DictComp
import HandS.IsInst
import HandS.Wide
import HandS.WideBits
import HandS.TupAny
import HandS.Codes
import HandS.Strs
import HandS.Walk
import KE.KStateDown
import HandS.Head0
import HandS.Head1
import HandS.Head2
import HandS.HeadEnd
import HandS.HeadHook1
import HandS.HeadWalk
import PySem.Challenge.RW_fallranks_k31_whole_known_bounds
section
set_option Elab.async false
set_option linter.all false
set_option maxHeartbeats 4000000
/-! FrGen: the mirror of the program's straight conditions, over any numbers and any monad. -/
namespace FR

structure Num (M : Type → Type) (A : Type) where
  lit : Int → A
  add : A → A → A
  sub : A → A → A
  mul : A → A → A
  /-- part, by, lead, own, bottom: (part * by - lead * own) // bottom -/
  comb : A → A → A → A → A → M A
  pos : A → M Bool
  fit : A → M Unit
  /-- a bottom: above 0, and it fits -/
  okb : A → M Unit
  fail : (α : Type) → M α

section
variable {M : Type → Type} [Monad M] {A : Type} (N : Num M A)

def neg (x : A) : A := N.sub (N.lit 0) x
def fitAll : List A → M Unit
  | [] => pure ()
  | x :: r => do
    N.fit x
    fitAll r
def fitTab : List (List A) → M Unit
  | [] => pure ()
  | x :: r => do
    fitAll N x
    fitTab r
def elimRow (by_ lead b : A) : List A → List A → M (List A)
  | p :: ps, o :: os => do
    let q ← N.comb p by_ lead o b
    let r ← elimRow by_ lead b ps os
    pure (q :: r)
  | _, _ => pure []
def elimLine (own : List A) (by_ b : A) (r c i : Nat) (line : List A) : M (List A) := if i = r then pure own else elimRow N by_ (line.getD c (N.lit 0)) b line own
def elimAll (own : List A) (by_ b : A) (r c : Nat) : Nat → List (List A) → M (List (List A))
  | _, [] => pure []
  | i, line :: rest => do
    let new ← elimLine N own by_ b r c i line
    let more ← elimAll own by_ b r c (i + 1) rest
    pure (new :: more)
def turned (T : List (List A)) (b : A) (r c : Nat) : M (List (List A) × A) := do
  N.okb b
  let ng ← N.pos (neg N ((T.getD r []).getD c (N.lit 0)))
  let own := if ng then (T.getD r []).map (neg N) else T.getD r []
  let T' ← elimAll N own (own.getD c (N.lit 0)) b r c 0 T
  pure (T', own.getD c (N.lit 0))
def lastOf (row : List A) : A := row.getLastD (N.lit 0)
def leaveStep (T : List (List A)) (base : List Nat) (c : Nat) (best : Option Nat) (i : Nat) : M (Option Nat) := do
  let p ← N.pos ((T.getD i []).getD c (N.lit 0))
  if p then
    match best with
    | none => pure (some i)
    | some j => do
      let l := N.mul (lastOf N (T.getD i [])) ((T.getD j []).getD c (N.lit 0))
      let r := N.mul (lastOf N (T.getD j [])) ((T.getD i []).getD c (N.lit 0))
      let lt ← N.pos (N.sub r l)
      if lt then pure (some i) else do
        let gt ← N.pos (N.sub l r)
        if gt then pure (some j) else pure (if base.getD i 0 < base.getD j 0 then some i else some j)
  else pure best
def leaveLoop (T : List (List A)) (base : List Nat) (c : Nat) : Nat → Nat → Option Nat → M (Option Nat)
  | 0, _, best => pure best
  | n + 1, i, best => do
    let b ← leaveStep N T base c best i
    leaveLoop T base c n (i + 1) b
def firstPos : List A → Nat → M (Option Nat)
  | [], _ => pure none
  | x :: r, i => do
    let p ← N.pos x
    if p then pure (some i) else firstPos r (i + 1)
def nz (x : A) : M Bool := do
  let p ← N.pos x
  if p then pure true else N.pos (neg N x)
def firstNz : List A → Nat → M (Option Nat)
  | [], _ => pure none
  | x :: r, i => do
    let p ← nz N x
    if p then pure (some i) else firstNz r (i + 1)
def climb (many wide : Nat) : Nat → List (List A) → List Nat → A → M (Option A × List (List A) × List Nat)
  | 0, _, _, _ => N.fail _
  | n + 1, T, base, b => do
    let f ← firstPos N ((T.getD many []).take wide) 0
    match f with
    | none => pure (some b, T, base)
    | some c => do
      let l ← leaveLoop N T base c many 0 none
      match l with
      | none => pure (none, T, base)
      | some r => do
        let tb ← turned N T b r c
        climb many wide n tb.1 (base.set r c) tb.2
def signs : List (List A) → M (List (List A))
  | [] => pure []
  | row :: rest => do
    let ng ← N.pos (neg N (lastOf N row))
    let more ← signs rest
    pure ((if ng then row.map (neg N) else row) :: more)
def colSum (T : List (List A)) (c : Nat) : A := T.foldl (fun z row => N.add z (row.getD c (N.lit 0))) (N.lit 0)
def drive (wide : Nat) : Nat → Nat → List (List A) → List Nat → A → M (List (List A) × List Nat × A)
  | 0, _, T, base, b => pure (T, base, b)
  | n + 1, i, T, base, b =>
    if wide ≤ base.getD i 0 then do
      let f ← firstNz N ((T.getD i []).take wide) 0
      match f with
      | none => drive wide n (i + 1) T base b
      | some c => do
        let tb ← turned N T b i c
        drive wide n (i + 1) tb.1 (base.set i c) tb.2
    else drive wide n (i + 1) T base b
/-- enough turns for all the law's tables -/
def FUEL : Nat := 64
def begunKeep (m wide : Nat) (d : List (List A) × List Nat × A) : List (List A) × List Nat × A :=
  (((List.range m).filter (fun i => decide (d.2.1.getD i 0 < wide))).map (fun i => d.1.getD i []), ((List.range m).filter (fun i => decide (d.2.1.getD i 0 < wide))).map (fun i => d.2.1.getD i 0), d.2.2)
def begunZ (m wide : Nat) (T : List (List A)) (base : List Nat) (b : A) : M (Option (List (List A) × List Nat × A)) := do
  let z ← nz N (lastOf N (T.getD m []))
  if z then pure none else do
    let d ← drive N wide m 0 T.dropLast base b
    pure (some (begunKeep m wide d))
def begunEnd (m wide : Nat) (cl : Option A × List (List A) × List Nat) : M (Option (List (List A) × List Nat × A)) := match cl.1 with
  | none => N.fail _
  | some b => begunZ N m wide cl.2.1 cl.2.2 b
def begunT (m wide : Nat) (T0 : List (List A)) : M (Option (List (List A) × List Nat × A)) := do
  fitTab N T0
  fitAll N ((List.range (wide + 1)).map (colSum N T0))
  let cl ← climb N m wide FUEL (T0 ++ [(List.range (wide + 1)).map (colSum N T0)]) ((List.range m).map (wide + ·)) (N.lit 1)
  begunEnd N m wide cl
def begun (rows : List (List A)) (wide : Nat) : M (Option (List (List A) × List Nat × A)) := do
  let T0 ← signs N rows
  begunT N rows.length wide T0
/-- the goal's row: part - goal[base[at]] * table[at][k], row by row -/
def priced (goal : List A) : List (List A) → List Nat → List A → List A
  | row :: T, k :: base, last => priced goal T base (List.zipWith (fun part x => N.sub part (N.mul (goal.getD k (N.lit 0)) x)) last row)
  | _, _, last => last
def topsOf : List (List A) → List Nat → List A → List A
  | row :: T, k :: base, tops => topsOf T base (tops.set k (lastOf N row))
  | _, _, tops => tops
def pricedRow (goal : List A) (T : List (List A)) (base : List Nat) (b : A) : List A := priced N goal T base (goal.map (fun p => N.mul p b) ++ [N.lit 0])
def mostEnd (many wide : Nat) (cl : Option A × List (List A) × List Nat) : M (Option (Option (List A × A))) := match cl.1 with
  | none => pure (some none)
  | some d => do
    N.okb d
    pure (some (some (topsOf N (cl.2.1.take many) cl.2.2 (List.replicate wide (N.lit 0)), d)))
def mostFrom (goal : List A) (T : List (List A)) (base : List Nat) (b : A) : M (Option (Option (List A × A))) := do
  N.okb b
  fitAll N (pricedRow N goal T base b)
  let cl ← climb N T.length goal.length FUEL (T ++ [pricedRow N goal T base b]) base b
  mostEnd N T.length goal.length cl
def most (rows : List (List A)) (goal : List A) : M (Option (Option (List A × A))) := do
  fitAll N goal
  let first ← begun N rows goal.length
  match first with
  | none => pure none
  | some x => mostFrom N goal x.1 x.2.1 x.2.2

/-! ### programs, by places' numbers -/
end
structure Br (A : Type) where
  src : Nat
  tgt : Nat
  tests : List (List A)
  changes : List (List A)
structure CProg (A : Type) where
  nv : Nat
  np : Nat
  brs : List (Br A)
section
variable {M : Type → Type} [Monad M] {A : Type} (N : Num M A)

def testRows (tests : List (List A)) (many : Nat) : List (List A) :=
  (List.range tests.length).map fun at_ =>
    (tests.getD at_ []).take many ++ ((tests.getD at_ []).take many).map (neg N) ++ (List.range tests.length).map (fun o => if o = at_ then N.lit (-1) else N.lit 0)
      ++ [neg N ((tests.getD at_ []).getD many (N.lit 0))]
def isDead (tests : List (List A)) (many : Nat) : M Bool := do
  let r ← most N (testRows N tests many) (List.replicate (2 * many + tests.length) (N.lit 0))
  pure r.isNone
def Br.size (b : Br A) : Nat := b.tests.length + 1
def sizeAt (brs : List (Br A)) (i : Nat) : Nat := match brs[i]? with
  | some b => b.size
  | none => 0
/-- the columns: for each index its three places -/
def lay (brs : List (Br A)) : List Nat → Nat → List (Nat × Nat × Nat × Nat)
  | [], _ => []
  | i :: r, w => (i, w, w + sizeAt brs i, w + 2 * sizeAt brs i) :: lay brs r (w + 2 * sizeAt brs i + 2)
def wideOf (brs : List (Br A)) : List Nat → Nat → Nat
  | [], w => w
  | i :: r, w => wideOf brs r (w + 2 * sizeAt brs i + 2)
def addAt (row : List A) (k : Nat) (v : A) : List A := row.set k (N.add (row.getD k (N.lit 0)) v)
def subAt (row : List A) (k : Nat) (v : A) : List A := row.set k (N.sub (row.getD k (N.lit 0)) v)
def placeInto (step : Nat) (row : List A) (place part : Nat) (v : A) : List A := subAt N (addAt N row (2 * place * step + part) v) (2 * place * step + step + part) v
def testsInto (part : Nat) : List (List A) → List A → Nat → List A
  | [], row, _ => row
  | t :: r, row, k => testsInto part r (subAt N row k (t.getD part (N.lit 0))) (k + 1)
def weightInto (row : List A) (tests : List (List A)) (begin_ part step : Nat) : List A :=
  let r := testsInto N part tests row begin_
  if part + 1 = step then subAt N r (begin_ + tests.length) (N.lit 1) else r
def zeros (n : Nat) : List A := List.replicate n (N.lit 0)
def standRows (cp : CProg A) (wide : Nat) (b : Br A) (begin_ : Nat) : List (List A) :=
  (List.range (cp.nv + 1)).map fun part => weightInto N (placeInto N (cp.nv + 1) (zeros N (wide + 1)) b.src part (N.lit 1)) b.tests begin_ part (cp.nv + 1)
def sumOf (l : List A) : A := l.foldl N.add (N.lit 0)
def behind (form : List A) (changes : List (List A)) : List A :=
  let found := (List.range (changes.length + 1)).map fun at_ => sumOf N ((List.range changes.length).map fun k => N.mul (form.getD k (N.lit 0)) ((changes.getD k []).getD at_ (N.lit 0)))
  found.take changes.length ++ [N.add (found.getD changes.length (N.lit 0)) (form.getD changes.length (N.lit 0))]
def unitAt (step other : Nat) : List A := (List.range step).map fun at_ => if at_ = other then N.lit 1 else N.lit 0
def targetInto (cp : CProg A) (b : Br A) (part : Nat) : Nat → Nat → List A → List A
  | 0, _, row => row
  | n + 1, other, row => targetInto cp b part n (other + 1) (placeInto N (cp.nv + 1) row b.tgt other (neg N ((behind N (unitAt N (cp.nv + 1) other) b.changes).getD part (N.lit 0))))
def fallRow (cp : CProg A) (wide : Nat) (b : Br A) (begin_ fall part : Nat) : List A :=
  let r0 := placeInto N (cp.nv + 1) (zeros N (wide + 1)) b.src part (N.lit 1)
  let r1 := targetInto N cp b part (cp.nv + 1) 0 r0
  let r2 := weightInto N r1 b.tests begin_ part (cp.nv + 1)
  if part + 1 = cp.nv + 1 then subAt N r2 fall (N.lit 1) else r2
def fallRows (cp : CProg A) (wide : Nat) (b : Br A) (begin_ fall : Nat) : List (List A) :=
  (List.range (cp.nv + 1)).map (fallRow N cp wide b begin_ fall) ++ [(((zeros N (wide + 1)).set fall (N.lit 1)).set (fall + 1) (N.lit 1)).set wide (N.lit 1)]
def wide0 (cp : CProg A) : Nat := 2 * (cp.nv + 1) * cp.np
def rowsAt (cp : CProg A) (wide : Nat) (q : Nat × Nat × Nat × Nat) : List (List A) := match cp.brs[q.1]? with
  | some b => standRows N cp wide b q.2.1 ++ fallRows N cp wide b q.2.2.1 q.2.2.2
  | none => []
def rankRows (cp : CProg A) (wide : Nat) : List (Nat × Nat × Nat × Nat) → List (List A)
  | [] => []
  | q :: r => rowsAt N cp wide q ++ rankRows cp wide r
def bestG (cp : CProg A) (idx : List Nat) : M (List Nat) := do
  let cols := lay cp.brs idx (wide0 cp)
  let wide := wideOf cp.brs idx (wide0 cp)
  let goal := (List.range wide).map fun c => if cols.any (fun q => q.2.2.2 == c) then N.lit 1 else N.lit 0
  let r ← most N (rankRows N cp wide cols) goal
  match r with
  | some (some (tops, b)) => takenOf tops cols
  | _ => N.fail _
where takenOf (tops : List A) : List (Nat × Nat × Nat × Nat) → M (List Nat)
  | [] => pure []
  | q :: r => do
    let p ← N.pos (tops.getD q.2.2.2 (N.lit 0))
    let more ← takenOf tops r
    pure (if p then q.1 :: more else more)
inductive Out (A : Type) where
  | none
  | endless
  | val (num den : A)
def goalInto (step place : Nat) : List A → Nat → List A → List A
  | [], _, goal => goal
  | p :: r, at_, goal => goalInto step place r (at_ + 1) (placeInto N step goal place at_ (neg N p))
/-- the form of a place, by the numbers -/
def formOf (step : Nat) (tops : List A) (place : Nat) : List A := (List.range step).map fun part => N.sub (tops.getD (2 * place * step + part) (N.lit 0)) (tops.getD (2 * place * step + step + part) (N.lit 0))
def valueAt (form point : List A) : A := N.add (sumOf N ((List.range point.length).map fun k => N.mul (form.getD k (N.lit 0)) (point.getD k (N.lit 0)))) (form.getD point.length (N.lit 0))
def lowRows (cp : CProg A) (idx : List Nat) : List (List A) :=
  let cols := lay cp.brs idx (wide0 cp)
  let wide := wideOf cp.brs idx (wide0 cp)
  rankRows N cp wide cols ++ cols.map fun q => ((zeros N (wide + 1)).set q.2.2.2 (N.lit 1)).set wide (N.lit 1)
def lowG (cp : CProg A) (idx : List Nat) (place : Nat) (point : List A) : M (Out A) := do
  let wide := wideOf cp.brs idx (wide0 cp)
  let r ← most N (lowRows N cp idx) (goalInto N (cp.nv + 1) place (point ++ [N.lit 1]) 0 (zeros N wide))
  match r with
  | some (some (tops, b)) => pure (Out.val (valueAt N (formOf N (cp.nv + 1) tops place) point) b)
  | some none => pure Out.endless
  | none => N.fail _
end
end FR
end

section
set_option Elab.async false
set_option linter.all false
set_option maxHeartbeats 4000000
/-! FrSym: the same over whole numbers, and over polynomials with a list of facts: what the second tells holds of the first. -/
namespace FR
/-! ### whole numbers -/
@[irreducible] def FITN : Nat := 2 ^ 4000
@[irreducible] def SUMN : Nat := 2 ^ 1000
@[irreducible] def LENN : Nat := 2 ^ 2000
def Fit (n : Int) : Prop := n.natAbs < FITN
instance (n : Int) : Decidable (Fit n) := by unfold Fit; exact inferInstance
def intN : Num Option Int where
  lit := fun n => n
  add := fun a b => a + b
  sub := fun a b => a - b
  mul := fun a b => a * b
  comb := fun p by_ l o b => if Fit ((p * by_ - l * o).fdiv b) then some ((p * by_ - l * o).fdiv b) else none
  pos := fun x => some (decide (0 < x))
  fit := fun x => if Fit x then some () else none
  okb := fun b => if 0 < b ∧ Fit b then some () else none
  fail := fun _ => none
/-! ### polynomials -/
abbrev Mono := List Nat
abbrev Poly := List (Mono × Int)
def mins (x : Nat) : Mono → Mono
  | [] => [x]
  | y :: r => match Nat.ble x y with
    | true => x :: y :: r
    | false => y :: mins x r
def mmul : Mono → Mono → Mono
  | [], n => n
  | x :: r, n => mins x (mmul r n)
def mcmp : Mono → Mono → Ordering
  | [], [] => .eq
  | [], _ :: _ => .lt
  | _ :: _, [] => .gt
  | x :: xs, y :: ys => match Nat.beq x y with
    | true => mcmp xs ys
    | false => match Nat.ble x y with
      | true => .gt
      | false => .lt
def isZ : Int → Bool
  | .ofNat n => Nat.beq n 0
  | .negSucc _ => false
def padd1 (m : Mono) (c : Int) : Poly → Poly
  | [] => [(m, c)]
  | (m', c') :: r => match mcmp m m' with
    | .eq => match isZ (c + c') with
      | true => r
      | false => (m, c + c') :: r
    | .gt => (m, c) :: (m', c') :: r
    | .lt => (m', c') :: padd1 m c r
def padd : Poly → Poly → Poly
  | [], q => q
  | (m, c) :: r, q => padd1 m c (padd r q)
def pneg : Poly → Poly
  | [] => []
  | (m, c) :: r => (m, -c) :: pneg r
def psub (p q : Poly) : Poly := padd p (pneg q)
def pscale (m : Mono) (c : Int) : Poly → Poly
  | [] => []
  | (n, d) :: r => (mmul m n, c * d) :: pscale m c r
def pmul : Poly → Poly → Poly
  | [], _ => []
  | (m, c) :: r, q => padd (pscale m c q) (pmul r q)
def plit (n : Int) : Poly := match isZ n with
  | true => []
  | false => [([], n)]
def mev (e : Nat → Int) : Mono → Int
  | [] => 1
  | x :: r => e x * mev e r
def pev (e : Nat → Int) : Poly → Int
  | [] => 0
  | (m, c) :: r => c * mev e m + pev e r
section
variable {e : Nat → Int}
theorem mev_mins (x : Nat) : ∀ m : Mono, mev e (mins x m) = e x * mev e m
  | [] => rfl
  | y :: r => by
    unfold mins
    split
    · rfl
    · show e y * mev e (mins x r) = e x * (e y * mev e r)
      rw [mev_mins x r, ← Int.mul_assoc, ← Int.mul_assoc, Int.mul_comm (e y)]
theorem mev_mul : ∀ m n : Mono, mev e (mmul m n) = mev e m * mev e n
  | [], n => (Int.one_mul _).symm
  | x :: r, n => by
    show mev e (mins x (mmul r n)) = e x * mev e r * mev e n
    rw [mev_mins, mev_mul r n, Int.mul_assoc]
theorem mcmp_eq : ∀ {m n : Mono}, mcmp m n = .eq → m = n
  | [], [], _ => rfl
  | [], _ :: _, h => by cases h
  | _ :: _, [], h => by cases h
  | x :: xs, y :: ys, h => by
    unfold mcmp at h
    split at h
    · rename_i hb
      rw [Nat.eq_of_beq_eq_true hb, mcmp_eq h]
    · split at h <;> cases h
theorem isZ_eq : ∀ {n : Int}, isZ n = true → n = 0
  | .ofNat n, h => by
    have := Nat.eq_of_beq_eq_true h
    subst this
    rfl
  | .negSucc _, h => by cases h
theorem pev_padd1 (m : Mono) (c : Int) : ∀ p : Poly, pev e (padd1 m c p) = c * mev e m + pev e p
  | [] => rfl
  | (m', c') :: r => by
    unfold padd1
    split
    · rename_i h
      have hm := mcmp_eq h
      subst hm
      split
      · rename_i hz
        have hz := isZ_eq hz
        show pev e r = c * mev e m + (c' * mev e m + pev e r)
        rw [← Int.add_assoc, ← Int.add_mul, hz, Int.zero_mul, Int.zero_add]
      · show (c + c') * mev e m + pev e r = c * mev e m + (c' * mev e m + pev e r)
        rw [← Int.add_assoc, ← Int.add_mul]
    · rfl
    · show c' * mev e m' + pev e (padd1 m c r) = c * mev e m + (c' * mev e m' + pev e r)
      rw [pev_padd1 m c r]
      omega
theorem pev_padd : ∀ p q : Poly, pev e (padd p q) = pev e p + pev e q
  | [], q => (Int.zero_add _).symm
  | (m, c) :: r, q => by
    show pev e (padd1 m c (padd r q)) = c * mev e m + pev e r + pev e q
    rw [pev_padd1, pev_padd r q, Int.add_assoc]
theorem pev_neg : ∀ p : Poly, pev e (pneg p) = - pev e p
  | [] => rfl
  | (m, c) :: r => by
    show -c * mev e m + pev e (pneg r) = -(c * mev e m + pev e r)
    rw [pev_neg r, Int.neg_mul]
    omega
theorem pev_sub (p q : Poly) : pev e (psub p q) = pev e p - pev e q := by
  unfold psub
  rw [pev_padd, pev_neg]
  omega
theorem pev_scale (m : Mono) (c : Int) : ∀ p : Poly, pev e (pscale m c p) = c * mev e m * pev e p
  | [] => (Int.mul_zero _).symm
  | (n, d) :: r => by
    show c * d * mev e (mmul m n) + pev e (pscale m c r) = c * mev e m * (d * mev e n + pev e r)
    rw [pev_scale m c r, mev_mul, Int.mul_add]
    congr 1
    simp only [Int.mul_assoc, Int.mul_left_comm]
theorem pev_mul : ∀ p q : Poly, pev e (pmul p q) = pev e p * pev e q
  | [], q => (Int.zero_mul _).symm
  | (m, c) :: r, q => by
    show pev e (padd (pscale m c q) (pmul r q)) = (c * mev e m + pev e r) * pev e q
    rw [pev_padd, pev_scale, pev_mul r q, Int.add_mul]
theorem pev_lit (n : Int) : pev e (plit n) = n := by
  unfold plit
  split
  · rename_i h
    exact (isZ_eq h).symm
  · show n * 1 + 0 = n
    omega
end
/-! ### signs -/
def mrem (x : Nat) : Mono → Option Mono
  | [] => none
  | y :: r => match Nat.beq x y with
    | true => some r
    | false => match mrem x r with
      | none => none
      | some r' => some (y :: r')
def mdiv : Mono → Mono → Option Mono
  | m, [] => some m
  | m, x :: r => match mrem x m with
    | none => none
    | some m' => mdiv m' r
def firstNeg : Poly → Option (Mono × Nat)
  | [] => none
  | (m, .ofNat _) :: r => firstNeg r
  | (m, .negSucc n) :: _ => some (m, n)
def anyB {α : Type} (f : α → Bool) : List α → Bool
  | [] => false
  | x :: r => match f x with
    | true => true
    | false => anyB f r
theorem anyB_some {α : Type} {f : α → Bool} : ∀ {l : List α}, anyB f l = true → ∃ x ∈ l, f x = true
  | [], h => by cases h
  | x :: r, h => by
    unfold anyB at h
    split at h
    · rename_i hx
      exact ⟨x, List.mem_cons_self, hx⟩
    · obtain ⟨y, hy, e⟩ := anyB_some h
      exact ⟨y, List.mem_cons_of_mem _ hy, e⟩
/-- p is at least 0 where the facts are -/
def prove : Nat → List Poly → Poly → Bool
  | 0, _, p => match firstNeg p with
    | none => true
    | some _ => false
  | d + 1, F, p => match firstNeg p with
    | none => true
    | some (nm, n) => anyB (fun f => anyB (fun t => match t.2 with
      | .ofNat _ => false
      | .negSucc c => match mdiv nm t.1 with
        | none => false
        | some k => prove d F (psub p (pscale k (Int.ofNat ((n + c + 1) / (c + 1))) f))) f) F
def Holds (e : Nat → Int) (F : List Poly) : Prop := ∀ f ∈ F, 0 ≤ pev e f
structure EnvOk (e : Nat → Int) : Prop where
  nn : ∀ i, 0 ≤ e i
  pos : ∀ i, i < 3 → 1 ≤ e i
  lt : ∀ i, e i < 2 ^ 100
section
variable {e : Nat → Int} {F : List Poly}
theorem mev_nn (E : EnvOk e) : ∀ m : Mono, 0 ≤ mev e m
  | [] => (show (0 : Int) ≤ 1 by decide)
  | x :: r => Int.mul_nonneg (E.nn x) (mev_nn E r)
theorem firstNeg_none (E : EnvOk e) : ∀ {p : Poly}, firstNeg p = none → 0 ≤ pev e p
  | [], _ => Int.le_refl 0
  | (m, .ofNat n) :: r, h => by
    have h1 := firstNeg_none E (p := r) h
    have h2 : 0 ≤ (Int.ofNat n) * mev e m := Int.mul_nonneg (Int.natCast_nonneg n) (mev_nn E m)
    show 0 ≤ Int.ofNat n * mev e m + pev e r
    omega
  | (m, .negSucc n) :: r, h => by cases h
theorem prove_ok (E : EnvOk e) (hF : Holds e F) : ∀ {d : Nat} {p : Poly}, prove d F p = true → 0 ≤ pev e p
  | 0, p, h => by
    unfold prove at h
    split at h
    · rename_i hn
      exact firstNeg_none E hn
    · cases h
  | d + 1, p, h => by
    unfold prove at h
    split at h
    · rename_i hn
      exact firstNeg_none E hn
    · rename_i nm n hn
      obtain ⟨f, hf, h⟩ := anyB_some h
      obtain ⟨t, ht, h⟩ := anyB_some h
      split at h
      · cases h
      · rename_i c hc
        split at h
        · cases h
        · rename_i k hk
          have h1 := prove_ok E hF h
          rw [pev_sub, pev_scale] at h1
          have h2 : 0 ≤ Int.ofNat ((n + c + 1) / (c + 1)) * mev e k * pev e f := Int.mul_nonneg (Int.mul_nonneg (Int.natCast_nonneg _) (mev_nn E k)) (hF f hf)
          omega
end
/-- equal, as written -/
def peq : Poly → Poly → Bool
  | [], [] => true
  | (m, c) :: r, (n, d) :: q => match mcmp m n with
    | .eq => match isZ (c - d) with
      | true => peq r q
      | false => false
    | _ => false
  | _, _ => false
theorem peq_eq : ∀ {p q : Poly}, peq p q = true → p = q
  | [], [], _ => rfl
  | (m, c) :: r, (n, d) :: q, h => by
    unfold peq at h
    split at h
    · rename_i hm
      split at h
      · rename_i hz
        have hz := isZ_eq hz
        have e1 := mcmp_eq hm
        have e2 := peq_eq h
        have e3 : c = d := by omega
        rw [e1, e2, e3]
      · cases h
    · cases h
  | [], _ :: _, h => by cases h
  | _ :: _, [], h => by cases h
def pgcd : Poly → Nat → Nat
  | [], g => g
  | (_, c) :: r, g => pgcd r (Nat.gcd c.natAbs g)
/-- the common part of two monomials, of the variables above 0 alone -/
def mcom : Mono → Mono → Mono
  | [], _ => []
  | x :: r, n => match Nat.ble 3 x with
    | true => mcom r n
    | false => match mrem x n with
      | none => mcom r n
      | some n' => x :: mcom r n'
def pcom : Poly → Mono → Mono
  | [], m => m
  | (n, _) :: r, m => pcom r (mcom m n)
def pdown (k : Mono) (g : Nat) : Poly → Poly
  | [] => []
  | (m, c) :: r => match mdiv m k with
    | none => []
    | some m' => (m', c / (g : Int)) :: pdown k g r
def allPos : Mono → Bool
  | [] => true
  | x :: r => match Nat.ble 3 x with
    | true => false
    | false => allPos r
/-- the same sign, smaller -/
def stripBy (p : Poly) (g : Nat) (k : Mono) : Poly := match Nat.beq g 0 with
  | true => p
  | false => match allPos k with
    | false => p
    | true => match peq (pscale k (Int.ofNat g) (pdown k g p)) p with
      | true => pdown k g p
      | false => p
def strip (p : Poly) : Poly := match p with
  | [] => []
  | (m, _) :: r => stripBy p (pgcd p 0) (pcom r (mcom m m))
theorem allPos_ok {e : Nat → Int} (E : EnvOk e) : ∀ {k : Mono}, allPos k = true → 0 < mev e k
  | [], _ => (show (0 : Int) < 1 by decide)
  | x :: r, h => by
    unfold allPos at h
    split at h
    · cases h
    · rename_i hx
      have h3 : x < 3 := by
        rcases Nat.lt_or_ge x 3 with q | q
        · exact q
        · rw [Nat.ble_eq_true_of_le q] at hx
          cases hx
      exact Int.mul_pos (by have := E.pos x h3; omega) (allPos_ok E h)
theorem stripBy_pos {e : Nat → Int} (E : EnvOk e) (p : Poly) (g : Nat) (k : Mono) : (0 < pev e p ↔ 0 < pev e (stripBy p g k)) := by
  unfold stripBy
  split
  · exact Iff.rfl
  · rename_i g0
    split
    · exact Iff.rfl
    · rename_i ha
      split
      · rename_i hq
        have e1 := peq_eq hq
        generalize pdown k g p = q at *
        have hgp : 0 < g := by
          rcases Nat.eq_zero_or_pos g with z | z
          · rw [z] at g0
            cases g0
          · exact z
        have e2 := pev_scale (e := e) k (Int.ofNat g) q
        rw [e1] at e2
        rw [e2]
        have hp : 0 < Int.ofNat g * mev e k := Int.mul_pos (by show (0 : Int) < (g : Int); omega) (allPos_ok E ha)
        constructor
        · intro z
          rcases Int.lt_or_le 0 (pev e q) with w | w
          · exact w
          · have h1 := Int.mul_nonneg (Int.le_of_lt hp) (show 0 ≤ - pev e q by omega)
            rw [Int.mul_neg] at h1
            omega
        · intro z
          exact Int.mul_pos hp z
      · exact Iff.rfl
theorem strip_pos {e : Nat → Int} (E : EnvOk e) (p : Poly) : (0 < pev e p ↔ 0 < pev e (strip p)) := by
  unfold strip
  split
  · exact Iff.rfl
  · exact stripBy_pos E _ _ _

/-! ### the runs that split -/
def S (α : Type) : Type := List Poly → Option (List (List Poly × α))
def bindL {α β : Type} (f : α → S β) : List (List Poly × α) → Option (List (List Poly × β))
  | [] => some []
  | (F, a) :: r => match f a F with
    | none => none
    | some l => match bindL f r with
      | none => none
      | some l2 => some (l ++ l2)
def S.bind {α β : Type} (x : S α) (f : α → S β) : S β := fun F => match x F with
  | none => none
  | some l => bindL f l
instance : Monad S where
  pure a := fun F => some [(F, a)]
  bind := S.bind
def DEPTH : Nat := 2
def posIn (F : List Poly) (p : Poly) : Option (List (List Poly × Bool)) := match prove 0 F (pneg p) with
  | true => some [(F, false)]
  | false => match prove DEPTH F (psub p [([], 1)]) with
  | true => some [(F, true)]
  | false => match prove DEPTH F (pneg p) with
    | true => some [(F, false)]
    | false => some [(psub p [([], 1)] :: F, true), (pneg p :: F, false)]
def posS (p : Poly) : S Bool := fun F => match p with
  | [] => some [(F, false)]
  | _ => posIn F (strip p)
def sumAbs : Poly → Nat
  | [] => 0
  | (_, c) :: r => c.natAbs + sumAbs r
def lenAll (n : Nat) : Poly → Bool
  | [] => true
  | (m, _) :: r => match Nat.ble m.length n with
    | true => lenAll n r
    | false => false
def pfit (p : Poly) : Bool := match Nat.blt (sumAbs p) SUMN with
  | true => lenAll 20 p
  | false => false
def fitS (p : Poly) : S Unit := fun F => match pfit p with
  | true => some [(F, ())]
  | false => none
def okbS (b : Poly) : S Unit := fun F => match pfit b with
  | true => match prove DEPTH F (psub (strip b) [([], 1)]) with
    | true => some [(F, ())]
    | false => none
  | false => none
def pdivQ (b : Poly) (mb : Mono) (cb : Int) : Nat → Poly → Poly
  | 0, _ => []
  | _ + 1, [] => []
  | n + 1, (m, c) :: r => match mdiv m mb with
    | none => []
    | some k => padd1 k (c / cb) (pdivQ b mb cb n (psub ((m, c) :: r) (pscale k (c / cb) b)))
def quo (num b : Poly) : Option Poly := match num with
  | [] => some []
  | _ => match b with
    | [] => none
    | (mb, cb) :: _ => match peq (pmul (pdivQ b mb cb 12 num) b) num with
      | true => some (pdivQ b mb cb 12 num)
      | false => none
def combQ (p by_ l o b : Poly) : Option Poly := match l, o with
  | [], _ => (match peq by_ b with
    | true => some p
    | false => quo (pmul p by_) b)
  | _, [] => (match peq by_ b with
    | true => some p
    | false => quo (pmul p by_) b)
  | _, _ => quo (psub (pmul p by_) (pmul l o)) b
def combS (p by_ l o b : Poly) : S Poly := fun F => match combQ p by_ l o b with
  | none => none
  | some q => match pfit q with
    | true => some [(F, q)]
    | false => none
def polyN : Num S Poly where
  lit := plit
  add := padd
  sub := psub
  mul := pmul
  comb := combS
  pos := posS
  fit := fitS
  okb := okbS
  fail := fun _ _ => none
/-- what the runs that split tell of the run at e -/
def Sim (e : Nat → Int) {α β : Type} (x : S α) (y : Option β) (φ : α → β) : Prop :=
  ∀ F l, x F = some l → Holds e F → ∃ F' a, (F', a) ∈ l ∧ Holds e F' ∧ y = some (φ a)
section
variable {e : Nat → Int} {α β γ δ : Type}
theorem Sim.pure {φ : α → β} {a : α} {b : β} (h : φ a = b) : Sim e (Pure.pure a : S α) (Pure.pure b) φ := fun F l hl hF => by
  have e1 : some [(F, a)] = some l := hl
  have e2 := Option.some.inj e1
  subst e2
  exact ⟨F, a, List.mem_cons_self, hF, by rw [h]; rfl⟩
theorem bindL_mem {f : α → S β} : ∀ {l : List (List Poly × α)} {l2 : List (List Poly × β)}, bindL f l = some l2 → ∀ {F : List Poly} {a : α}, (F, a) ∈ l → ∃ l1, f a F = some l1 ∧ ∀ z ∈ l1, z ∈ l2
  | [], _, _, _, _, hm => by cases hm
  | (F0, a0) :: r, l2, h, F, a, hm => by
    unfold bindL at h
    split at h
    · cases h
    · rename_i l1 h1
      split at h
      · cases h
      · rename_i l3 h3
        have e2 := Option.some.inj h
        subst e2
        rcases List.mem_cons.mp hm with q | q
        · cases q
          exact ⟨l1, h1, fun z hz => List.mem_append_left _ hz⟩
        · obtain ⟨l4, h4, hz⟩ := bindL_mem h3 q
          exact ⟨l4, h4, fun z q => List.mem_append_right _ (hz z q)⟩
theorem Sim.bind {x : S α} {y : Option β} {φ : α → β} {f : α → S γ} {g : β → Option δ} {ψ : γ → δ} (h : Sim e x y φ) (k : ∀ a, y = some (φ a) → Sim e (f a) (g (φ a)) ψ) : Sim e (x >>= f) (y >>= g) ψ := fun F l hl hF => by
  have e1 : S.bind x f F = some l := hl
  unfold S.bind at e1
  split at e1
  · cases e1
  · rename_i l1 h1
    obtain ⟨F1, a, hm, hF1, hy⟩ := h F l1 h1 hF
    obtain ⟨l2, h2, hz⟩ := bindL_mem e1 hm
    obtain ⟨F2, c, hm2, hF2, hg⟩ := k a hy F1 l2 h2 hF1
    refine ⟨F2, c, hz _ hm2, hF2, ?_⟩
    rw [hy]
    exact hg
theorem Sim.ite {c : Bool} {x1 x2 : S α} {y1 y2 : Option β} {φ : α → β} (h1 : c = true → Sim e x1 y1 φ) (h2 : c = false → Sim e x2 y2 φ) : Sim e (if c = true then x1 else x2) (if c = true then y1 else y2) φ := by
  cases c with
  | true => simpa using h1 rfl
  | false => simpa using h2 rfl
theorem Sim.iteP {c : Prop} [Decidable c] {x1 x2 : S α} {y1 y2 : Option β} {φ : α → β} (h1 : c → Sim e x1 y1 φ) (h2 : ¬ c → Sim e x2 y2 φ) : Sim e (if c then x1 else x2) (if c then y1 else y2) φ := by
  by_cases h : c
  · rw [if_pos h, if_pos h]
    exact h1 h
  · rw [if_neg h, if_neg h]
    exact h2 h
theorem Sim.fail {y : Option β} {φ : α → β} : Sim e (polyN.fail α) y φ := fun F l hl => by
  have h : (none : Option (List (List Poly × α))) = some l := hl
  cases h
theorem posIn_ok (E : EnvOk e) {F : List Poly} {q : Poly} {l : List (List Poly × Bool)} (hF : Holds e F) (hl : posIn F q = some l) : ∃ F' a, (F', a) ∈ l ∧ Holds e F' ∧ decide (0 < pev e q) = a := by
  have e0 : pev e (psub q [([], 1)]) = pev e q - 1 := by
    rw [pev_sub]
    show pev e q - (1 * 1 + 0) = _
    omega
  unfold posIn at hl
  split at hl
  · rename_i h
    have e1 := Option.some.inj hl
    subst e1
    have h1 := prove_ok E hF h
    rw [pev_neg] at h1
    exact ⟨F, false, List.mem_cons_self, hF, decide_eq_false (by omega)⟩
  split at hl
  · rename_i h
    have e1 := Option.some.inj hl
    subst e1
    have h1 := prove_ok E hF h
    rw [e0] at h1
    exact ⟨F, true, List.mem_cons_self, hF, decide_eq_true (by omega)⟩
  · split at hl
    · rename_i h
      have e1 := Option.some.inj hl
      subst e1
      have h1 := prove_ok E hF h
      rw [pev_neg] at h1
      exact ⟨F, false, List.mem_cons_self, hF, decide_eq_false (by omega)⟩
    · have e1 := Option.some.inj hl
      subst e1
      by_cases hp : 0 < pev e q
      · refine ⟨_, true, List.mem_cons_self, ?_, decide_eq_true hp⟩
        intro f hf
        rcases List.mem_cons.mp hf with z | z
        · rw [z, e0]
          omega
        · exact hF f z
      · refine ⟨_, false, List.mem_cons_of_mem _ List.mem_cons_self, ?_, decide_eq_false hp⟩
        intro f hf
        rcases List.mem_cons.mp hf with z | z
        · rw [z, pev_neg]
          omega
        · exact hF f z
theorem posS_ok (E : EnvOk e) {F : List Poly} {p : Poly} {l : List (List Poly × Bool)} (hF : Holds e F) (hl : posS p F = some l) : ∃ F' a, (F', a) ∈ l ∧ Holds e F' ∧ decide (0 < pev e p) = a := by
  unfold posS at hl
  split at hl
  · have e1 := Option.some.inj hl
    subst e1
    exact ⟨F, false, List.mem_cons_self, hF, rfl⟩
  · rw [decide_eq_decide.mpr (strip_pos E p)]
    exact posIn_ok E hF hl
theorem sim_pos (E : EnvOk e) (p : Poly) : Sim e (polyN.pos p) (intN.pos (pev e p)) id := fun F l hl hF => by
  obtain ⟨F', a, h1, h2, h3⟩ := posS_ok E hF hl
  exact ⟨F', a, h1, h2, congrArg some h3⟩
/-! sizes -/
theorem natAbs_mul_lt {a b : Int} {m n : Nat} (h1 : a.natAbs ≤ m) (h2 : b.natAbs ≤ n) : (a * b).natAbs ≤ m * n := by
  rw [Int.natAbs_mul]
  exact Nat.mul_le_mul h1 h2
theorem mev_le (E : EnvOk e) : ∀ m : Mono, (mev e m).natAbs ≤ 2 ^ (100 * m.length)
  | [] => by
    show (1 : Int).natAbs ≤ 2 ^ (100 * 0)
    decide
  | x :: r => by
    have h1 : (e x).natAbs ≤ 2 ^ 100 := by
      have a := E.nn x
      have b := E.lt x
      have c : (2 : Int) ^ 100 = ((2 ^ 100 : Nat) : Int) := by norm_cast
      omega
    have h2 := natAbs_mul_lt h1 (mev_le E r)
    show (e x * mev e r).natAbs ≤ 2 ^ (100 * (r.length + 1))
    rw [Nat.mul_add, Nat.mul_one, Nat.pow_add, Nat.mul_comm]
    exact Nat.le_trans h2 (Nat.le_of_eq (by rw [Nat.mul_comm]))
theorem pev_le (E : EnvOk e) {n : Nat} : ∀ {p : Poly}, lenAll n p = true → (pev e p).natAbs ≤ sumAbs p * (2 ^ (100 * n))
  | [], _ => by
    show (0 : Int).natAbs ≤ 0 * _
    rw [Nat.zero_mul]
    decide
  | (m, c) :: r, h => by
    unfold lenAll at h
    split at h
    · rename_i hm
      have hm := Nat.le_of_ble_eq_true hm
      have h1 := pev_le E (p := r) h
      have h2 := natAbs_mul_lt (Nat.le_refl c.natAbs) (Nat.le_trans (mev_le E m) (Nat.pow_le_pow_right (by decide : 0 < 2) (Nat.mul_le_mul_left 100 hm)))
      show (c * mev e m + pev e r).natAbs ≤ (c.natAbs + sumAbs r) * 2 ^ (100 * n)
      rw [Nat.add_mul]
      have h3 := Int.natAbs_add_le (c * mev e m) (pev e r)
      omega
    · cases h
theorem len_eq : LENN = 2 ^ (100 * 20) := by unfold LENN; rfl
theorem len_pos : 0 < LENN := by decide +kernel
theorem sum_fit : SUMN * LENN ≤ FITN := by decide +kernel
theorem fit_of (E : EnvOk e) {p : Poly} (h : pfit p = true) : Fit (pev e p) := by
  unfold pfit at h
  split at h
  · rename_i h1
    have h1 : sumAbs p < SUMN := Nat.le_of_ble_eq_true h1
    have h2 := pev_le E h
    rw [← len_eq] at h2
    have h3 : sumAbs p * LENN < SUMN * LENN := Nat.mul_lt_mul_of_pos_right h1 len_pos
    exact Nat.lt_of_lt_of_le (Nat.lt_of_le_of_lt h2 h3) sum_fit
  · cases h
theorem sim_fit (E : EnvOk e) (p : Poly) : Sim e (polyN.fit p) (intN.fit (pev e p)) id := fun F l hl hF => by
  have hl : fitS p F = some l := hl
  unfold fitS at hl
  split at hl
  · rename_i h
    have e1 := Option.some.inj hl
    subst e1
    refine ⟨F, (), List.mem_cons_self, hF, ?_⟩
    show (if Fit (pev e p) then some () else none) = some ()
    rw [if_pos (fit_of E h)]
  · cases hl
theorem sim_okb (E : EnvOk e) (p : Poly) : Sim e (polyN.okb p) (intN.okb (pev e p)) id := fun F l hl hF => by
  have hl : okbS p F = some l := hl
  unfold okbS at hl
  split at hl
  · rename_i h
    split at hl
    · rename_i h2
      have e1 := Option.some.inj hl
      subst e1
      refine ⟨F, (), List.mem_cons_self, hF, ?_⟩
      have h1 := prove_ok E hF h2
      have e0 : pev e (psub (strip p) [([], 1)]) = pev e (strip p) - 1 := by
        rw [pev_sub]
        show pev e _ - (1 * 1 + 0) = _
        omega
      rw [e0] at h1
      have hp : 0 < pev e p := (strip_pos E p).mpr (by omega)
      show (if 0 < pev e p ∧ Fit (pev e p) then some () else none) = some ()
      rw [if_pos ⟨hp, fit_of E h⟩]
    · cases hl
  · cases hl
theorem quo_ok {num b q : Poly} (h : quo num b = some q) : pev e q * pev e b = pev e num := by
  unfold quo at h
  split at h
  · have e1 := Option.some.inj h
    subst e1
    exact Int.zero_mul _
  · split at h
    · cases h
    · split at h
      · rename_i hq
        have e1 := Option.some.inj h
        subst e1
        rw [← pev_mul, peq_eq hq]
      · cases h
theorem combQ_ok {p by_ l o b q : Poly} (h : combQ p by_ l o b = some q) : pev e q * pev e b = pev e p * pev e by_ - pev e l * pev e o := by
  unfold combQ at h
  split at h
  · have e0 : pev e p * pev e by_ - pev e ([] : Poly) * pev e o = pev e p * pev e by_ := by
      show _ - 0 * _ = _
      rw [Int.zero_mul, Int.sub_zero]
    rw [e0]
    split at h
    · rename_i hb
      rw [← peq_eq hb, Option.some.inj h]
    · rw [quo_ok h, pev_mul]
  · have e0 : pev e p * pev e by_ - pev e l * pev e ([] : Poly) = pev e p * pev e by_ := by
      show _ - _ * 0 = _
      rw [Int.mul_zero, Int.sub_zero]
    rw [e0]
    split at h
    · rename_i hb
      rw [← peq_eq hb, Option.some.inj h]
    · rw [quo_ok h, pev_mul]
  · rw [quo_ok h, pev_sub, pev_mul, pev_mul]
theorem sim_comb (E : EnvOk e) {b : Poly} (hb : 0 < pev e b) (p by_ l o : Poly) : Sim e (polyN.comb p by_ l o b) (intN.comb (pev e p) (pev e by_) (pev e l) (pev e o) (pev e b)) (pev e) := fun F l' hl hF => by
  have hl : combS p by_ l o b F = some l' := hl
  unfold combS at hl
  split at hl
  · cases hl
  · rename_i q hq
    split at hl
    · rename_i h
      have e1 := Option.some.inj hl
      subst e1
      refine ⟨F, q, List.mem_cons_self, hF, ?_⟩
      have e2 := combQ_ok (e := e) hq
      have e3 : (pev e p * pev e by_ - pev e l * pev e o).fdiv (pev e b) = pev e q := by
        rw [← e2]
        exact Int.mul_fdiv_cancel _ (by omega)
      show (if Fit ((pev e p * pev e by_ - pev e l * pev e o).fdiv (pev e b)) then some ((pev e p * pev e by_ - pev e l * pev e o).fdiv (pev e b)) else none) = some (pev e q)
      rw [e3, if_pos (fit_of E h)]
    · cases hl
end
end FR
end

section
set_option Elab.async false
set_option linter.all false
set_option maxHeartbeats 4000000
/-! FrSim: each function of the mirror, run over polynomials, tells its run over whole numbers. -/
namespace FR
abbrev tm (e : Nat → Int) : List Poly → List Int := List.map (pev e)
abbrev tt (e : Nat → Int) : List (List Poly) → List (List Int) := List.map (tm e)
section
variable {e : Nat → Int}
theorem getD_map {α β : Type} (f : α → β) (l : List α) (c : Nat) (d : α) : (l.map f).getD c (f d) = f (l.getD c d) := by
  rw [List.getD_eq_getElem?_getD, List.getD_eq_getElem?_getD, List.getElem?_map]
  cases l[c]? <;> rfl
theorem p_lit (n : Int) : pev e (polyN.lit n) = n := pev_lit n
theorem p_lit' (n : Int) : pev e (polyN.lit n) = intN.lit n := pev_lit n
theorem p_add (a b : Poly) : pev e (polyN.add a b) = intN.add (pev e a) (pev e b) := pev_padd a b
theorem p_sub (a b : Poly) : pev e (polyN.sub a b) = intN.sub (pev e a) (pev e b) := pev_sub a b
theorem p_mul (a b : Poly) : pev e (polyN.mul a b) = intN.mul (pev e a) (pev e b) := pev_mul a b
theorem p_neg (a : Poly) : pev e (neg polyN a) = neg intN (pev e a) := by
  unfold neg
  rw [p_sub, p_lit']
theorem at_tm (l : List Poly) (c : Nat) : (tm e l).getD c (intN.lit 0) = pev e (l.getD c (polyN.lit 0)) := by
  rw [← p_lit' (e := e)]
  exact getD_map _ l c _
theorem at_tt (T : List (List Poly)) (r : Nat) : (tt e T).getD r [] = tm e (T.getD r []) := getD_map (tm e) T r []
theorem neg_tm (l : List Poly) : tm e (l.map (neg polyN)) = (tm e l).map (neg intN) := by
  unfold tm
  rw [List.map_map, List.map_map]
  exact List.map_congr_left fun a _ => p_neg a
theorem last_tm (l : List Poly) : lastOf intN (tm e l) = pev e (lastOf polyN l) := by
  unfold lastOf
  rw [List.getLastD_eq_getLast?, List.getLastD_eq_getLast?, List.getLast?_map]
  cases l.getLast? with
  | none => exact (p_lit' 0).symm
  | some x => rfl
theorem if_map {α β : Type} (f : α → β) (c : Bool) (a b : α) : f (if c = true then a else b) = if c = true then f a else f b := by cases c <;> rfl
theorem okb_pos {b : Int} {u : Unit} (h : intN.okb b = some u) : 0 < b := by
  have h1 : (if 0 < b ∧ Fit b then some () else none) = some u := h
  by_cases q : 0 < b ∧ Fit b
  · exact q.1
  · rw [if_neg q] at h1
    cases h1
theorem sim_fitAll (E : EnvOk e) : ∀ l : List Poly, Sim e (fitAll polyN l) (fitAll intN (tm e l)) id
  | [] => Sim.pure rfl
  | x :: r => Sim.bind (sim_fit E x) fun _ _ => sim_fitAll E r
theorem sim_fitTab (E : EnvOk e) : ∀ T : List (List Poly), Sim e (fitTab polyN T) (fitTab intN (tt e T)) id
  | [] => Sim.pure rfl
  | x :: r => Sim.bind (sim_fitAll E x) fun _ _ => sim_fitTab E r
theorem sim_elimRow (E : EnvOk e) {b : Poly} (hb : 0 < pev e b) (by_ lead : Poly) : ∀ ps os : List Poly, Sim e (elimRow polyN by_ lead b ps os) (elimRow intN (pev e by_) (pev e lead) (pev e b) (tm e ps) (tm e os)) (tm e)
  | [], os => by
    show Sim e (Pure.pure []) (Pure.pure []) _
    exact Sim.pure rfl
  | p :: ps, [] => by
    show Sim e (Pure.pure []) (Pure.pure []) _
    exact Sim.pure rfl
  | p :: ps, o :: os => Sim.bind (sim_comb E hb p by_ lead o) fun q _ => Sim.bind (sim_elimRow E hb by_ lead ps os) fun r _ => Sim.pure rfl
theorem sim_elimAll (E : EnvOk e) {b : Poly} (hb : 0 < pev e b) (own : List Poly) (by_ : Poly) (r c : Nat) : ∀ (i : Nat) (T : List (List Poly)), Sim e (elimAll polyN own by_ b r c i T) (elimAll intN (tm e own) (pev e by_) (pev e b) r c i (tt e T)) (tt e)
  | _, [] => Sim.pure rfl
  | i, line :: rest => by
    refine Sim.bind (φ := tm e) (x := elimLine polyN own by_ b r c i line) (y := elimLine intN (tm e own) (pev e by_) (pev e b) r c i (tm e line)) ?_ fun new _ => Sim.bind (sim_elimAll E hb own by_ r c (i + 1) rest) fun more _ => Sim.pure rfl
    unfold elimLine
    refine Sim.iteP (fun _ => Sim.pure rfl) fun _ => ?_
    rw [at_tm]
    exact sim_elimRow E hb _ _ _ _
theorem sim_turned (E : EnvOk e) (T : List (List Poly)) (b : Poly) (r c : Nat) : Sim e (turned polyN T b r c) (turned intN (tt e T) (pev e b) r c) (fun x => (tt e x.1, pev e x.2)) := by
  unfold turned
  refine Sim.bind (sim_okb E b) fun _ hb => ?_
  have hb := okb_pos hb
  rw [at_tt, at_tm, ← p_neg]
  refine Sim.bind (sim_pos E _) fun ng _ => ?_
  show Sim e _ (do
    let T' ← elimAll intN (if ng = true then (tm e (T.getD r [])).map (neg intN) else tm e (T.getD r [])) ((if ng = true then (tm e (T.getD r [])).map (neg intN) else tm e (T.getD r [])).getD c (intN.lit 0)) (pev e b) r c 0 (tt e T)
    Pure.pure (T', (if ng = true then (tm e (T.getD r [])).map (neg intN) else tm e (T.getD r [])).getD c (intN.lit 0))) _
  have e1 : (if ng = true then (tm e (T.getD r [])).map (neg intN) else tm e (T.getD r [])) = tm e (if ng = true then (T.getD r []).map (neg polyN) else T.getD r []) := by
    rw [if_map (tm e), neg_tm]
  rw [e1, at_tm]
  exact Sim.bind (sim_elimAll E hb _ _ r c 0 T) fun T' _ => Sim.pure rfl
theorem sim_leaveStep (E : EnvOk e) (T : List (List Poly)) (base : List Nat) (c : Nat) (best : Option Nat) (i : Nat) : Sim e (leaveStep polyN T base c best i) (leaveStep intN (tt e T) base c best i) id := by
  unfold leaveStep
  rw [at_tt, at_tm]
  refine Sim.bind (sim_pos E _) fun p _ => ?_
  refine Sim.ite (fun _ => ?_) fun _ => Sim.pure rfl
  cases best with
  | none => exact Sim.pure rfl
  | some j =>
    show Sim e (do
      let lt ← polyN.pos (polyN.sub (polyN.mul (lastOf polyN (T.getD j [])) ((T.getD i []).getD c (polyN.lit 0))) (polyN.mul (lastOf polyN (T.getD i [])) ((T.getD j []).getD c (polyN.lit 0))))
      if lt then pure (some i) else do
        let gt ← polyN.pos (polyN.sub (polyN.mul (lastOf polyN (T.getD i [])) ((T.getD j []).getD c (polyN.lit 0))) (polyN.mul (lastOf polyN (T.getD j [])) ((T.getD i []).getD c (polyN.lit 0))))
        if gt then pure (some j) else pure (if base.getD i 0 < base.getD j 0 then some i else some j)) (do
      let lt ← intN.pos (intN.sub (intN.mul (lastOf intN ((tt e T).getD j [])) (pev e ((T.getD i []).getD c (polyN.lit 0)))) (intN.mul (lastOf intN (tm e (T.getD i []))) (((tt e T).getD j []).getD c (intN.lit 0))))
      if lt then pure (some i) else do
        let gt ← intN.pos (intN.sub (intN.mul (lastOf intN (tm e (T.getD i []))) (((tt e T).getD j []).getD c (intN.lit 0))) (intN.mul (lastOf intN ((tt e T).getD j [])) (pev e ((T.getD i []).getD c (polyN.lit 0)))))
        if gt then pure (some j) else pure (if base.getD i 0 < base.getD j 0 then some i else some j)) id
    rw [at_tt, at_tm, last_tm, last_tm, ← p_mul, ← p_mul, ← p_sub, ← p_sub]
    refine Sim.bind (sim_pos E _) fun lt _ => Sim.ite (fun _ => Sim.pure rfl) fun _ => ?_
    exact Sim.bind (sim_pos E _) fun gt _ => Sim.ite (fun _ => Sim.pure rfl) fun _ => Sim.pure rfl
theorem sim_leaveLoop (E : EnvOk e) (T : List (List Poly)) (base : List Nat) (c : Nat) : ∀ (n i : Nat) (best : Option Nat), Sim e (leaveLoop polyN T base c n i best) (leaveLoop intN (tt e T) base c n i best) id
  | 0, _, _ => Sim.pure rfl
  | n + 1, i, best => Sim.bind (sim_leaveStep E T base c best i) fun b _ => sim_leaveLoop E T base c n (i + 1) b
theorem sim_firstPos (E : EnvOk e) : ∀ (l : List Poly) (i : Nat), Sim e (firstPos polyN l i) (firstPos intN (tm e l) i) id
  | [], _ => Sim.pure rfl
  | x :: r, i => Sim.bind (sim_pos E x) fun p _ => Sim.ite (fun _ => Sim.pure rfl) fun _ => sim_firstPos E r (i + 1)
theorem sim_nz (E : EnvOk e) (x : Poly) : Sim e (nz polyN x) (nz intN (pev e x)) id := by
  unfold nz
  rw [← p_neg]
  exact Sim.bind (sim_pos E x) fun p _ => Sim.ite (fun _ => Sim.pure rfl) fun _ => sim_pos E _
theorem sim_firstNz (E : EnvOk e) : ∀ (l : List Poly) (i : Nat), Sim e (firstNz polyN l i) (firstNz intN (tm e l) i) id
  | [], _ => Sim.pure rfl
  | x :: r, i => Sim.bind (sim_nz E x) fun p _ => Sim.ite (fun _ => Sim.pure rfl) fun _ => sim_firstNz E r (i + 1)
abbrev f3 (e : Nat → Int) : Option Poly × List (List Poly) × List Nat → Option Int × List (List Int) × List Nat := fun x => (x.1.map (pev e), tt e x.2.1, x.2.2)
theorem take_tm (l : List Poly) (n : Nat) : (tm e l).take n = tm e (l.take n) := List.map_take.symm
theorem sim_climb (E : EnvOk e) (many wide : Nat) : ∀ (n : Nat) (T : List (List Poly)) (base : List Nat) (b : Poly), Sim e (climb polyN many wide n T base b) (climb intN many wide n (tt e T) base (pev e b)) (f3 e)
  | 0, _, _, _ => Sim.fail
  | n + 1, T, base, b => by
    unfold climb
    rw [at_tt, take_tm]
    refine Sim.bind (sim_firstPos E _ _) fun f _ => ?_
    cases f with
    | none => exact Sim.pure rfl
    | some c =>
      refine Sim.bind (sim_leaveLoop E T base c many 0 none) fun l _ => ?_
      cases l with
      | none => exact Sim.pure rfl
      | some r => exact Sim.bind (sim_turned E T b r c) fun tb _ => sim_climb E many wide n tb.1 (base.set r c) tb.2
theorem sim_signs (E : EnvOk e) : ∀ T : List (List Poly), Sim e (signs polyN T) (signs intN (tt e T)) (tt e)
  | [] => Sim.pure rfl
  | row :: rest => by
    show Sim e (do
      let ng ← polyN.pos (neg polyN (lastOf polyN row))
      let more ← signs polyN rest
      pure ((if ng then row.map (neg polyN) else row) :: more)) (do
      let ng ← intN.pos (neg intN (lastOf intN (tm e row)))
      let more ← signs intN (tt e rest)
      pure ((if ng then (tm e row).map (neg intN) else (tm e row)) :: more)) _
    rw [last_tm, ← p_neg]
    refine Sim.bind (sim_pos E _) fun ng _ => Sim.bind (sim_signs E rest) fun more _ => Sim.pure ?_
    show tm e (if ng = true then row.map (neg polyN) else row) :: tt e more = (if ng = true then (tm e row).map (neg intN) else (tm e row)) :: tt e more
    rw [if_map (tm e), neg_tm]
theorem colSum_go (c : Nat) : ∀ (T : List (List Poly)) (z : Poly), (tt e T).foldl (fun z row => intN.add z (row.getD c (intN.lit 0))) (pev e z) = pev e (T.foldl (fun z row => polyN.add z (row.getD c (polyN.lit 0))) z)
  | [], _ => rfl
  | row :: T, z => by
    show (tt e T).foldl _ (intN.add (pev e z) ((tm e row).getD c (intN.lit 0))) = _
    rw [at_tm, ← p_add]
    exact colSum_go c T _
theorem colSum_tt (T : List (List Poly)) (c : Nat) : colSum intN (tt e T) c = pev e (colSum polyN T c) := by
  unfold colSum
  rw [← p_lit' (e := e)]
  exact colSum_go c T _
theorem sim_drive (E : EnvOk e) (wide : Nat) : ∀ (n i : Nat) (T : List (List Poly)) (base : List Nat) (b : Poly), Sim e (drive polyN wide n i T base b) (drive intN wide n i (tt e T) base (pev e b)) (fun x => (tt e x.1, x.2.1, pev e x.2.2))
  | 0, _, _, _, _ => Sim.pure rfl
  | n + 1, i, T, base, b => by
    unfold drive
    refine Sim.iteP (fun _ => ?_) fun _ => sim_drive E wide n (i + 1) T base b
    rw [at_tt, take_tm]
    refine Sim.bind (sim_firstNz E _ _) fun f _ => ?_
    cases f with
    | none => exact sim_drive E wide n (i + 1) T base b
    | some c => exact Sim.bind (sim_turned E T b i c) fun tb _ => sim_drive E wide n (i + 1) tb.1 (base.set i c) tb.2
abbrev fB (e : Nat → Int) : Option (List (List Poly) × List Nat × Poly) → Option (List (List Int) × List Nat × Int) := Option.map fun x => (tt e x.1, x.2.1, pev e x.2.2)
theorem len_tt (T : List (List Poly)) : (tt e T).length = T.length := List.length_map _
theorem dropLast_tt (T : List (List Poly)) : (tt e T).dropLast = tt e T.dropLast := List.map_dropLast.symm
theorem keep_tt (m wide : Nat) (d : List (List Poly) × List Nat × Poly) : begunKeep m wide (tt e d.1, d.2.1, pev e d.2.2) = (tt e (begunKeep m wide d).1, (begunKeep m wide d).2.1, pev e (begunKeep m wide d).2.2) := by
  unfold begunKeep
  congr 1
  unfold tt
  rw [List.map_map]
  exact List.map_congr_left fun i _ => at_tt d.1 i
theorem sim_begunZ (E : EnvOk e) (m wide : Nat) (T : List (List Poly)) (base : List Nat) (b : Poly) : Sim e (begunZ polyN m wide T base b) (begunZ intN m wide (tt e T) base (pev e b)) (fB e) := by
  unfold begunZ
  rw [at_tt, last_tm, dropLast_tt]
  refine Sim.bind (sim_nz E _) fun z _ => Sim.ite (fun _ => Sim.pure rfl) fun _ => ?_
  refine Sim.bind (sim_drive E wide _ _ _ _ _) fun d _ => Sim.pure ?_
  exact (congrArg some (keep_tt m wide d)).symm
theorem sim_begunEnd (E : EnvOk e) (m wide : Nat) (cl : Option Poly × List (List Poly) × List Nat) : Sim e (begunEnd polyN m wide cl) (begunEnd intN m wide (f3 e cl)) (fB e) := by
  obtain ⟨b, T1, base⟩ := cl
  cases b with
  | none => exact Sim.fail
  | some b => exact sim_begunZ E m wide T1 base b
theorem sim_begunT (E : EnvOk e) (m wide : Nat) (T0 : List (List Poly)) : Sim e (begunT polyN m wide T0) (begunT intN m wide (tt e T0)) (fB e) := by
  have e1 : (List.range (wide + 1)).map (colSum intN (tt e T0)) = tm e ((List.range (wide + 1)).map (colSum polyN T0)) := by
    unfold tm
    rw [List.map_map]
    exact List.map_congr_left fun c _ => colSum_tt T0 c
  have e2 : tt e T0 ++ [tm e ((List.range (wide + 1)).map (colSum polyN T0))] = tt e (T0 ++ [(List.range (wide + 1)).map (colSum polyN T0)]) := by
    unfold tt
    rw [List.map_append]
    rfl
  unfold begunT
  rw [e1, e2, ← p_lit' (e := e)]
  exact Sim.bind (sim_fitTab E T0) fun _ _ => Sim.bind (sim_fitAll E _) fun _ _ => Sim.bind (sim_climb E _ _ _ _ _ _) fun cl _ => sim_begunEnd E m wide cl
theorem sim_begun (E : EnvOk e) (rows : List (List Poly)) (wide : Nat) : Sim e (begun polyN rows wide) (begun intN (tt e rows) wide) (fB e) := by
  unfold begun
  rw [len_tt]
  exact Sim.bind (sim_signs E rows) fun T0 _ => sim_begunT E rows.length wide T0
theorem zip_tm (k : Poly) : ∀ (l row : List Poly), List.zipWith (fun part x => intN.sub part (intN.mul (pev e k) x)) (tm e l) (tm e row) = tm e (List.zipWith (fun part x => polyN.sub part (polyN.mul k x)) l row)
  | [], _ => by simp
  | _ :: _, [] => by simp
  | a :: l, x :: row => by
    show intN.sub (pev e a) (intN.mul (pev e k) (pev e x)) :: _ = pev e (polyN.sub a (polyN.mul k x)) :: _
    rw [p_sub, p_mul, zip_tm k l row]
theorem priced_tm (goal : List Poly) : ∀ (T : List (List Poly)) (base : List Nat) (last : List Poly), priced intN (tm e goal) (tt e T) base (tm e last) = tm e (priced polyN goal T base last)
  | [], _, _ => by
    unfold priced
    rfl
  | _ :: _, [], _ => by
    unfold priced
    rfl
  | row :: T, k :: base, last => by
    show priced intN (tm e goal) (tt e T) base (List.zipWith (fun part x => intN.sub part (intN.mul ((tm e goal).getD k (intN.lit 0)) x)) (tm e last) (tm e row)) = tm e (priced polyN goal T base (List.zipWith (fun part x => polyN.sub part (polyN.mul (goal.getD k (polyN.lit 0)) x)) last row))
    rw [at_tm, zip_tm]
    exact priced_tm goal T base _
theorem set_tm (l : List Poly) (k : Nat) (v : Poly) : (tm e l).set k (pev e v) = tm e (l.set k v) := List.map_set.symm
theorem topsOf_tm : ∀ (T : List (List Poly)) (base : List Nat) (tops : List Poly), topsOf intN (tt e T) base (tm e tops) = tm e (topsOf polyN T base tops)
  | [], _, _ => by
    unfold topsOf
    rfl
  | _ :: _, [], _ => by
    unfold topsOf
    rfl
  | row :: T, k :: base, tops => by
    show topsOf intN (tt e T) base ((tm e tops).set k (lastOf intN (tm e row))) = tm e (topsOf polyN T base (tops.set k (lastOf polyN row)))
    rw [last_tm, set_tm]
    exact topsOf_tm T base _
theorem rep_tm (n : Nat) (z : Int) : List.replicate n (intN.lit z) = tm e (List.replicate n (polyN.lit z)) := by
  unfold tm
  rw [List.map_replicate, p_lit']
abbrev fM (e : Nat → Int) : Option (Option (List Poly × Poly)) → Option (Option (List Int × Int)) := Option.map (Option.map fun x => (tm e x.1, pev e x.2))
theorem pricedRow_tm (goal : List Poly) (T : List (List Poly)) (base : List Nat) (b : Poly) : pricedRow intN (tm e goal) (tt e T) base (pev e b) = tm e (pricedRow polyN goal T base b) := by
  have e1 : (tm e goal).map (fun p => intN.mul p (pev e b)) ++ [intN.lit 0] = tm e (goal.map (fun p => polyN.mul p b) ++ [polyN.lit 0]) := by
    unfold tm
    rw [List.map_append, List.map_map, List.map_map, List.map_singleton, p_lit']
    congr 1
    exact List.map_congr_left fun a _ => (p_mul a b).symm
  unfold pricedRow
  rw [e1, priced_tm]
theorem sim_mostEnd (E : EnvOk e) (many wide : Nat) (cl : Option Poly × List (List Poly) × List Nat) : Sim e (mostEnd polyN many wide cl) (mostEnd intN many wide (f3 e cl)) (fM e) := by
  obtain ⟨d, T1, base1⟩ := cl
  cases d with
  | none => exact Sim.pure rfl
  | some d =>
    refine Sim.bind (sim_okb E d) fun _ _ => Sim.pure ?_
    show some (some (tm e (topsOf polyN (T1.take many) base1 (List.replicate wide (polyN.lit 0))), pev e d)) = some (some (topsOf intN ((tt e T1).take many) base1 (List.replicate wide (intN.lit 0)), pev e d))
    have e3 : (tt e T1).take many = tt e (T1.take many) := List.map_take.symm
    rw [e3, rep_tm (e := e), topsOf_tm]
theorem app_tt (T : List (List Poly)) (l : List Poly) : tt e T ++ [tm e l] = tt e (T ++ [l]) := by
  unfold tt
  rw [List.map_append]
  rfl
theorem sim_mostFrom (E : EnvOk e) (goal : List Poly) (T : List (List Poly)) (base : List Nat) (b : Poly) : Sim e (mostFrom polyN goal T base b) (mostFrom intN (tm e goal) (tt e T) base (pev e b)) (fM e) := by
  unfold mostFrom
  have hl : (tm e goal).length = goal.length := List.length_map _
  rw [pricedRow_tm, len_tt, hl, app_tt]
  exact Sim.bind (sim_okb E b) fun _ _ => Sim.bind (sim_fitAll E _) fun _ _ => Sim.bind (sim_climb E _ _ _ _ _ _) fun cl _ => sim_mostEnd E _ _ cl
theorem sim_most (E : EnvOk e) (rows : List (List Poly)) (goal : List Poly) : Sim e (most polyN rows goal) (most intN (tt e rows) (tm e goal)) (fM e) := by
  unfold most
  have hl : (tm e goal).length = goal.length := List.length_map _
  rw [hl]
  refine Sim.bind (sim_fitAll E goal) fun _ _ => Sim.bind (sim_begun E rows goal.length) fun first _ => ?_
  cases first with
  | none => exact Sim.pure rfl
  | some x => exact sim_mostFrom E goal x.1 x.2.1 x.2.2
end
end FR
end

section
set_option Elab.async false
set_option linter.all false
set_option maxHeartbeats 4000000
/-! FrRows: the rows of conditions, built over polynomials, tell those over whole numbers; the three questions of a bound. -/
namespace FR
def Br.ev (e : Nat → Int) (b : Br Poly) : Br Int := ⟨b.src, b.tgt, tt e b.tests, tt e b.changes⟩
def CProg.ev (e : Nat → Int) (c : CProg Poly) : CProg Int := ⟨c.nv, c.np, c.brs.map (Br.ev e)⟩
section
variable {e : Nat → Int}
theorem map_range_tm {n : Nat} {f : Nat → Poly} {g : Nat → Int} (h : ∀ i, g i = pev e (f i)) : (List.range n).map g = tm e ((List.range n).map f) := by
  unfold tm
  rw [List.map_map]
  exact List.map_congr_left fun i _ => h i
theorem map_range_tt {n : Nat} {f : Nat → List Poly} {g : Nat → List Int} (h : ∀ i, g i = tm e (f i)) : (List.range n).map g = tt e ((List.range n).map f) := by
  unfold tt
  rw [List.map_map]
  exact List.map_congr_left fun i _ => h i
theorem app_tm (a b : List Poly) : tm e a ++ tm e b = tm e (a ++ b) := List.map_append.symm
theorem testRows_tt (tests : List (List Poly)) (many : Nat) : testRows intN (tt e tests) many = tt e (testRows polyN tests many) := by
  unfold testRows
  rw [len_tt]
  refine map_range_tt fun i => ?_
  rw [at_tt, take_tm, at_tm, ← neg_tm, ← p_neg]
  have e1 : (List.range tests.length).map (fun o => if o = i then intN.lit (-1) else intN.lit 0) = tm e ((List.range tests.length).map (fun o => if o = i then polyN.lit (-1) else polyN.lit 0)) := map_range_tm fun o => by
    by_cases h : o = i
    · rw [if_pos h, if_pos h, p_lit']
    · rw [if_neg h, if_neg h, p_lit']
  have e2 : [pev e (neg polyN ((tests.getD i []).getD many (polyN.lit 0)))] = tm e [neg polyN ((tests.getD i []).getD many (polyN.lit 0))] := rfl
  rw [e1, e2, app_tm, app_tm, app_tm]
theorem sim_isDead (E : EnvOk e) (tests : List (List Poly)) (many : Nat) : Sim e (isDead polyN tests many) (isDead intN (tt e tests) many) id := by
  unfold isDead
  rw [testRows_tt, len_tt, rep_tm (e := e)]
  refine Sim.bind (sim_most E _ _) fun r _ => Sim.pure ?_
  cases r <;> rfl
theorem br_at (brs : List (Br Poly)) (i : Nat) : (brs.map (Br.ev e))[i]? = brs[i]?.map (Br.ev e) := List.getElem?_map
theorem size_ev (b : Br Poly) : (b.ev e).size = b.size := by
  unfold Br.size
  show (tt e b.tests).length + 1 = _
  rw [len_tt]
theorem sizeAt_ev (brs : List (Br Poly)) (i : Nat) : sizeAt (brs.map (Br.ev e)) i = sizeAt brs i := by
  unfold sizeAt
  rw [br_at]
  cases brs[i]? with
  | none => rfl
  | some b => exact size_ev b
theorem lay_ev (brs : List (Br Poly)) : ∀ (idx : List Nat) (w : Nat), lay (brs.map (Br.ev e)) idx w = lay brs idx w
  | [], _ => rfl
  | i :: r, w => by
    unfold lay
    rw [sizeAt_ev, lay_ev brs r]
theorem wideOf_ev (brs : List (Br Poly)) : ∀ (idx : List Nat) (w : Nat), wideOf (brs.map (Br.ev e)) idx w = wideOf brs idx w
  | [], _ => rfl
  | i :: r, w => by
    unfold wideOf
    rw [sizeAt_ev, wideOf_ev brs r]
theorem addAt_tm (row : List Poly) (k : Nat) (v : Poly) : addAt intN (tm e row) k (pev e v) = tm e (addAt polyN row k v) := by
  unfold addAt
  rw [at_tm, ← p_add, set_tm]
theorem subAt_tm (row : List Poly) (k : Nat) (v : Poly) : subAt intN (tm e row) k (pev e v) = tm e (subAt polyN row k v) := by
  unfold subAt
  rw [at_tm, ← p_sub, set_tm]
theorem placeInto_tm (step : Nat) (row : List Poly) (place part : Nat) (v : Poly) : placeInto intN step (tm e row) place part (pev e v) = tm e (placeInto polyN step row place part v) := by
  unfold placeInto
  rw [addAt_tm, subAt_tm]
theorem testsInto_tm (part : Nat) : ∀ (tests : List (List Poly)) (row : List Poly) (k : Nat), testsInto intN part (tt e tests) (tm e row) k = tm e (testsInto polyN part tests row k)
  | [], _, _ => rfl
  | t :: r, row, k => by
    show testsInto intN part (tt e r) (subAt intN (tm e row) k ((tm e t).getD part (intN.lit 0))) (k + 1) = _
    rw [at_tm, subAt_tm]
    exact testsInto_tm part r _ _
theorem weightInto_tm (row : List Poly) (tests : List (List Poly)) (b part step : Nat) : weightInto intN (tm e row) (tt e tests) b part step = tm e (weightInto polyN row tests b part step) := by
  unfold weightInto
  rw [testsInto_tm, len_tt, ← p_lit' (e := e)]
  by_cases h : part + 1 = step
  · simp only [if_pos h]
    exact subAt_tm _ _ _
  · simp only [if_neg h]
theorem zeros_tm (n : Nat) : zeros intN n = tm e (zeros polyN n) := rep_tm n 0
theorem standRows_tt (cp : CProg Poly) (wide : Nat) (b : Br Poly) (w : Nat) : standRows intN (cp.ev e) wide (b.ev e) w = tt e (standRows polyN cp wide b w) := by
  unfold standRows
  refine map_range_tt fun part => ?_
  show weightInto intN (placeInto intN (cp.nv + 1) (zeros intN (wide + 1)) b.src part (intN.lit 1)) (tt e b.tests) w part (cp.nv + 1) = _
  rw [zeros_tm (e := e), ← p_lit' (e := e), placeInto_tm, weightInto_tm]
theorem sumOf_go : ∀ (l : List Poly) (z : Poly), (tm e l).foldl intN.add (pev e z) = pev e (l.foldl polyN.add z)
  | [], _ => rfl
  | a :: l, z => by
    show (tm e l).foldl intN.add (intN.add (pev e z) (pev e a)) = _
    rw [← p_add]
    exact sumOf_go l _
theorem sumOf_tm (l : List Poly) : sumOf intN (tm e l) = pev e (sumOf polyN l) := by
  unfold sumOf
  rw [← p_lit' (e := e)]
  exact sumOf_go l _
theorem behind_tm (form : List Poly) (changes : List (List Poly)) : behind intN (tm e form) (tt e changes) = tm e (behind polyN form changes) := by
  unfold behind
  simp only [len_tt]
  have e1 : (List.range (changes.length + 1)).map (fun at_ => sumOf intN ((List.range changes.length).map fun k => intN.mul ((tm e form).getD k (intN.lit 0)) (((tt e changes).getD k []).getD at_ (intN.lit 0)))) =
      tm e ((List.range (changes.length + 1)).map (fun at_ => sumOf polyN ((List.range changes.length).map fun k => polyN.mul (form.getD k (polyN.lit 0)) ((changes.getD k []).getD at_ (polyN.lit 0))))) := map_range_tm fun i => by
    rw [← sumOf_tm]
    congr 1
    exact map_range_tm fun k => by rw [at_tm, at_tt, at_tm, p_mul]
  rw [e1, take_tm, at_tm, at_tm, ← p_add, ← app_tm]
  rfl
theorem unitAt_tm (step other : Nat) : unitAt intN step other = tm e (unitAt polyN step other) := by
  unfold unitAt
  refine map_range_tm fun o => ?_
  by_cases h : o = other
  · rw [if_pos h, if_pos h, p_lit']
  · rw [if_neg h, if_neg h, p_lit']
theorem targetInto_tm (cp : CProg Poly) (b : Br Poly) (part : Nat) : ∀ (n other : Nat) (row : List Poly), targetInto intN (cp.ev e) (b.ev e) part n other (tm e row) = tm e (targetInto polyN cp b part n other row)
  | 0, _, _ => rfl
  | n + 1, other, row => by
    show targetInto intN (cp.ev e) (b.ev e) part n (other + 1) (placeInto intN (cp.nv + 1) (tm e row) b.tgt other (neg intN ((behind intN (unitAt intN (cp.nv + 1) other) (tt e b.changes)).getD part (intN.lit 0)))) = _
    rw [unitAt_tm (e := e), behind_tm, at_tm, ← p_neg, placeInto_tm]
    exact targetInto_tm cp b part n (other + 1) _
theorem fallRow_tm (cp : CProg Poly) (wide : Nat) (b : Br Poly) (w fall part : Nat) : fallRow intN (cp.ev e) wide (b.ev e) w fall part = tm e (fallRow polyN cp wide b w fall part) := by
  have e0 : placeInto intN (cp.nv + 1) (zeros intN (wide + 1)) b.src part (intN.lit 1) = tm e (placeInto polyN (cp.nv + 1) (zeros polyN (wide + 1)) b.src part (polyN.lit 1)) := by
    rw [zeros_tm (e := e), ← p_lit' (e := e), placeInto_tm]
  have e1 : targetInto intN (cp.ev e) (b.ev e) part (cp.nv + 1) 0 (placeInto intN (cp.nv + 1) (zeros intN (wide + 1)) b.src part (intN.lit 1)) = tm e (targetInto polyN cp b part (cp.nv + 1) 0 (placeInto polyN (cp.nv + 1) (zeros polyN (wide + 1)) b.src part (polyN.lit 1))) := by
    rw [e0, targetInto_tm]
  show (if part + 1 = cp.nv + 1 then subAt intN (weightInto intN (targetInto intN (cp.ev e) (b.ev e) part (cp.nv + 1) 0 (placeInto intN (cp.nv + 1) (zeros intN (wide + 1)) b.src part (intN.lit 1))) (tt e b.tests) w part (cp.nv + 1)) fall (intN.lit 1)
    else weightInto intN (targetInto intN (cp.ev e) (b.ev e) part (cp.nv + 1) 0 (placeInto intN (cp.nv + 1) (zeros intN (wide + 1)) b.src part (intN.lit 1))) (tt e b.tests) w part (cp.nv + 1)) = _
  unfold fallRow
  rw [e1, weightInto_tm, ← p_lit' (e := e), subAt_tm]
  by_cases h : part + 1 = cp.nv + 1
  · simp only [if_pos h]
  · simp only [if_neg h]
theorem one_tm (l : List Poly) (k : Nat) : (tm e l).set k (intN.lit 1) = tm e (l.set k (polyN.lit 1)) := by rw [← p_lit' (e := e), set_tm]
theorem fallRows_tt (cp : CProg Poly) (wide : Nat) (b : Br Poly) (w fall : Nat) : fallRows intN (cp.ev e) wide (b.ev e) w fall = tt e (fallRows polyN cp wide b w fall) := by
  unfold fallRows
  rw [zeros_tm (e := e), one_tm, one_tm, one_tm, ← app_tt]
  congr 1
  exact map_range_tt fun part => fallRow_tm cp wide b w fall part
theorem wide0_ev (cp : CProg Poly) : wide0 (cp.ev e) = wide0 cp := rfl
theorem rowsAt_tt (cp : CProg Poly) (wide : Nat) (q : Nat × Nat × Nat × Nat) : rowsAt intN (cp.ev e) wide q = tt e (rowsAt polyN cp wide q) := by
  have h : (cp.ev e).brs[q.1]? = cp.brs[q.1]?.map (Br.ev e) := br_at cp.brs q.1
  unfold rowsAt
  rw [h]
  cases cp.brs[q.1]? with
  | none => rfl
  | some b =>
    show standRows intN (cp.ev e) wide (b.ev e) q.2.1 ++ fallRows intN (cp.ev e) wide (b.ev e) q.2.2.1 q.2.2.2 = tt e (standRows polyN cp wide b q.2.1 ++ fallRows polyN cp wide b q.2.2.1 q.2.2.2)
    rw [standRows_tt, fallRows_tt]
    unfold tt
    rw [List.map_append]
theorem rankRows_tt (cp : CProg Poly) (wide : Nat) : ∀ cols : List (Nat × Nat × Nat × Nat), rankRows intN (cp.ev e) wide cols = tt e (rankRows polyN cp wide cols)
  | [] => rfl
  | q :: r => by
    show rowsAt intN (cp.ev e) wide q ++ rankRows intN (cp.ev e) wide r = tt e (rowsAt polyN cp wide q ++ rankRows polyN cp wide r)
    rw [rankRows_tt cp wide r, rowsAt_tt]
    unfold tt
    rw [List.map_append]
theorem sim_taken (E : EnvOk e) (tops : List Poly) : ∀ cols : List (Nat × Nat × Nat × Nat), Sim e (bestG.takenOf polyN tops cols) (bestG.takenOf intN (tm e tops) cols) id
  | [] => Sim.pure rfl
  | q :: r => by
    show Sim e (do
      let p ← polyN.pos (tops.getD q.2.2.2 (polyN.lit 0))
      let more ← bestG.takenOf polyN tops r
      pure (if p then q.1 :: more else more)) (do
      let p ← intN.pos ((tm e tops).getD q.2.2.2 (intN.lit 0))
      let more ← bestG.takenOf intN (tm e tops) r
      pure (if p then q.1 :: more else more)) id
    rw [at_tm]
    exact Sim.bind (sim_pos E _) fun p _ => Sim.bind (sim_taken E tops r) fun more _ => Sim.pure rfl
theorem sim_best (E : EnvOk e) (cp : CProg Poly) (idx : List Nat) : Sim e (bestG polyN cp idx) (bestG intN (cp.ev e) idx) id := by
  have e1 : lay (cp.ev e).brs idx (wide0 cp) = lay cp.brs idx (wide0 cp) := lay_ev cp.brs idx _
  have e2 : wideOf (cp.ev e).brs idx (wide0 cp) = wideOf cp.brs idx (wide0 cp) := wideOf_ev cp.brs idx _
  unfold bestG
  simp only [wide0_ev, e1, e2]
  have e3 : (List.range (wideOf cp.brs idx (wide0 cp))).map (fun c => if ((lay cp.brs idx (wide0 cp)).any fun q => q.2.2.2 == c) = true then intN.lit 1 else intN.lit 0) =
      tm e ((List.range (wideOf cp.brs idx (wide0 cp))).map (fun c => if ((lay cp.brs idx (wide0 cp)).any fun q => q.2.2.2 == c) = true then polyN.lit 1 else polyN.lit 0)) := map_range_tm fun c => by
    rw [if_map (pev e), p_lit', p_lit']
  rw [e3, rankRows_tt]
  refine Sim.bind (sim_most E _ _) fun r _ => ?_
  cases r with
  | none => exact Sim.fail
  | some r =>
    cases r with
    | none => exact Sim.fail
    | some x => exact sim_taken E x.1 _
def Out.ev (e : Nat → Int) : Out Poly → Out Int
  | .none => .none
  | .endless => .endless
  | .val n d => .val (pev e n) (pev e d)
theorem goalInto_tm (step place : Nat) : ∀ (ps : List Poly) (k : Nat) (goal : List Poly), goalInto intN step place (tm e ps) k (tm e goal) = tm e (goalInto polyN step place ps k goal)
  | [], _, _ => rfl
  | p :: r, k, goal => by
    show goalInto intN step place (tm e r) (k + 1) (placeInto intN step (tm e goal) place k (neg intN (pev e p))) = _
    rw [← p_neg, placeInto_tm]
    exact goalInto_tm step place r (k + 1) _
theorem formOf_tm (step : Nat) (tops : List Poly) (place : Nat) : formOf intN step (tm e tops) place = tm e (formOf polyN step tops place) := by
  unfold formOf
  exact map_range_tm fun part => by rw [at_tm, at_tm, p_sub]
theorem valueAt_tm (form point : List Poly) : valueAt intN (tm e form) (tm e point) = pev e (valueAt polyN form point) := by
  unfold valueAt
  have hl : (tm e point).length = point.length := List.length_map _
  rw [hl, at_tm, p_add, ← sumOf_tm]
  congr 2
  exact map_range_tm fun k => by rw [at_tm, at_tm, p_mul]
theorem lowRows_tt (cp : CProg Poly) (idx : List Nat) : lowRows intN (cp.ev e) idx = tt e (lowRows polyN cp idx) := by
  have e1 : lay (cp.ev e).brs idx (wide0 cp) = lay cp.brs idx (wide0 cp) := lay_ev cp.brs idx _
  have e2 : wideOf (cp.ev e).brs idx (wide0 cp) = wideOf cp.brs idx (wide0 cp) := wideOf_ev cp.brs idx _
  unfold lowRows
  simp only [wide0_ev, e1, e2]
  rw [rankRows_tt]
  unfold tt
  rw [List.map_append, List.map_map]
  congr 1
  refine List.map_congr_left fun q _ => ?_
  show ((zeros intN _).set q.2.2.2 (intN.lit 1)).set _ (intN.lit 1) = tm e (((zeros polyN _).set q.2.2.2 (polyN.lit 1)).set _ (polyN.lit 1))
  rw [zeros_tm (e := e), one_tm, one_tm]
theorem sim_low (E : EnvOk e) (cp : CProg Poly) (idx : List Nat) (place : Nat) (point : List Poly) : Sim e (lowG polyN cp idx place point) (lowG intN (cp.ev e) idx place (tm e point)) (Out.ev e) := by
  have e2 : wideOf (cp.ev e).brs idx (wide0 cp) = wideOf cp.brs idx (wide0 cp) := wideOf_ev cp.brs idx _
  have e3 : tm e point ++ [intN.lit 1] = tm e (point ++ [polyN.lit 1]) := by
    rw [← app_tm, ← p_lit' (e := e)]
    rfl
  have e4 : (cp.ev e).nv = cp.nv := rfl
  unfold lowG
  simp only [wide0_ev, e2, e4]
  rw [lowRows_tt, e3, zeros_tm (e := e), goalInto_tm]
  refine Sim.bind (sim_most E _ _) fun r _ => ?_
  cases r with
  | none => exact Sim.fail
  | some r =>
    cases r with
    | none => exact Sim.pure rfl
    | some x =>
      refine Sim.pure ?_
      show Out.val (pev e (valueAt polyN (formOf polyN (cp.nv + 1) x.1 place) point)) (pev e x.2) = Out.val (valueAt intN (formOf intN (cp.nv + 1) (tm e x.1) place) (tm e point)) (pev e x.2)
      rw [formOf_tm, valueAt_tm]
/-! ### what a run that splits shows -/
def allL {α : Type} (f : List Poly → α → Bool) : List (List Poly × α) → Bool
  | [] => true
  | (F, a) :: r => match f F a with
    | true => allL f r
    | false => false
theorem allL_ok {α : Type} {f : List Poly → α → Bool} : ∀ {l : List (List Poly × α)}, allL f l = true → ∀ {F : List Poly} {a : α}, (F, a) ∈ l → f F a = true
  | [], _, _, _, hm => by cases hm
  | (F0, a0) :: r, h, F, a, hm => by
    unfold allL at h
    split at h
    · rename_i h0
      rcases List.mem_cons.mp hm with q | q
      · cases q
        exact h0
      · exact allL_ok h q
    · cases h
def runs {α : Type} (x : S α) (F : List Poly) (f : List Poly → α → Bool) : Bool := match x F with
  | none => false
  | some l => allL f l
theorem runs_ok {α β : Type} {x : S α} {y : Option β} {φ : α → β} {F : List Poly} {f : List Poly → α → Bool} (h : Sim e x y φ) (hr : runs x F f = true) (hF : Holds e F) : ∃ F' a, Holds e F' ∧ f F' a = true ∧ y = some (φ a) := by
  unfold runs at hr
  split at hr
  · cases hr
  · rename_i l hl
    obtain ⟨F', a, hm, hF', hy⟩ := h F l hl hF
    exact ⟨F', a, hF', allL_ok hr hm, hy⟩
end
end FR
end

section
set_option Elab.async false
set_option linter.all false
set_option maxHeartbeats 4000000
set_option maxRecDepth 100000
/-! FrChk: the law's programs, run over polynomials by the kernel. Letters: 0 a step, 1 a step, 2 the end's size, 3 the start. -/
namespace FR
def vA : Poly := [([0], 1)]
def vB : Poly := [([1], 1)]
def vL : Poly := [([2], 1)]
def vN : Poly := [([3], 1)]
def one : Poly := [([], 1)]
def F0 : List Poly := [psub vA one, psub vB one, psub vL one]
def progOne (s l : Poly) : CProg Poly := ⟨1, 1, [⟨0, 0, [[one, pneg l]], [[one, pneg s]]⟩]⟩
def progBoth (s f l : Poly) : CProg Poly := ⟨1, 1, [⟨0, 0, [[one, pneg l]], [[one, pneg s]]⟩, ⟨0, 0, [[one, pneg l]], [[one, pneg f]]⟩]⟩
def progTwo (l : Poly) : CProg Poly := ⟨1, 2, [⟨0, 1, [[one, pneg l]], [[one, plit (-1)]]⟩, ⟨1, 0, [[one, psub one l]], [[one, []]]⟩]⟩
def x3 : List Poly := [one, [], []]
def y3 : List Poly := [[], one, []]
def progBeside (s f : Poly) : CProg Poly := ⟨2, 1, [⟨0, 0, [[one, [], pneg s], x3, y3], [[one, [], pneg s], y3]⟩, ⟨0, 0, [[[], one, pneg f], x3, y3], [x3, [[], one, pneg f]]⟩]⟩
def isF (F : List Poly) (b : Bool) : Bool := !b
def isL (l : List Nat) (F : List Poly) (b : List Nat) : Bool := b == l
/-- the value is n / d -/
def isV (n d : Poly) (F : List Poly) : Out Poly → Bool
  | .val a b => peq (pmul a d) (pmul n b)
  | _ => false
def isE (F : List Poly) : Out Poly → Bool
  | .endless => true
  | _ => false
def isMin (n s f : Poly) (F : List Poly) (o : Out Poly) : Bool := match isV n s F o with
  | true => prove 2 F (psub f s)
  | false => match isV n f F o with
    | true => prove 2 F (psub s f)
    | false => false
def isBeside (top bot : Poly) (F : List Poly) : Out Poly → Bool
  | .val a b => match peq (pmul a bot) (pmul top b) with
    | true => prove 2 F top
    | false => false
  | .endless => prove 2 F (psub (pneg top) one)
  | .none => false
theorem dead1P : runs (isDead polyN [[one, pneg vL]] 1) F0 isF = true := by decide +kernel
theorem dead2P : runs (isDead polyN [[one, psub one vL]] 1) F0 isF = true := by decide +kernel
theorem oneBestP : runs (bestG polyN (progOne vA vL) [0]) F0 (isL [0]) = true := by decide +kernel
theorem oneLowP : runs (lowG polyN (progOne vA vL) [0] 0 [padd vL vN]) F0 (isV vN vA) = true := by decide +kernel
theorem oneEndP : runs (lowG polyN (progOne vA vL) [0] 0 [psub (psub vL one) vN]) F0 isE = true := by decide +kernel
theorem twoBestP : runs (bestG polyN (progTwo vL) [0, 1]) F0 (isL [0, 1]) = true := by decide +kernel
theorem twoLowP0 : runs (lowG polyN (progTwo vL) [0, 1] 0 [padd vL (plit 5)]) F0 (isV (plit 11) one) = true := by decide +kernel
theorem twoLowP1 : runs (lowG polyN (progTwo vL) [0, 1] 1 [padd vL (plit 5)]) F0 (isV (plit 12) one) = true := by decide +kernel
theorem twoLowP2 : runs (lowG polyN (progTwo vL) [0, 1] 0 [vL]) F0 (isV (plit 1) one) = true := by decide +kernel
theorem twoLowP3 : runs (lowG polyN (progTwo vL) [0, 1] 1 [psub vL one]) F0 (isV (plit 0) one) = true := by decide +kernel
theorem bothBestP : runs (bestG polyN (progBoth vA vB vL) [0, 1]) F0 (isL [0, 1]) = true := by decide +kernel
theorem bothLowP : runs (lowG polyN (progBoth vA vB vL) [0, 1] 0 [padd vL vN]) F0 (isMin vN vA vB) = true := by decide +kernel
theorem dead1Z : runs (isDead polyN [[one, pneg []]] 1) F0 isF = true := by decide +kernel
theorem dead2Z : runs (isDead polyN [[one, psub one []]] 1) F0 isF = true := by decide +kernel
theorem oneBestZ : runs (bestG polyN (progOne vA []) [0]) F0 (isL [0]) = true := by decide +kernel
theorem oneLowZ : runs (lowG polyN (progOne vA []) [0] 0 [padd [] vN]) F0 (isV vN vA) = true := by decide +kernel
theorem oneEndZ : runs (lowG polyN (progOne vA []) [0] 0 [psub (psub [] one) vN]) F0 isE = true := by decide +kernel
theorem twoBestZ : runs (bestG polyN (progTwo []) [0, 1]) F0 (isL [0, 1]) = true := by decide +kernel
theorem twoLowZ0 : runs (lowG polyN (progTwo []) [0, 1] 0 [padd [] (plit 5)]) F0 (isV (plit 11) one) = true := by decide +kernel
theorem twoLowZ1 : runs (lowG polyN (progTwo []) [0, 1] 1 [padd [] (plit 5)]) F0 (isV (plit 12) one) = true := by decide +kernel
theorem twoLowZ2 : runs (lowG polyN (progTwo []) [0, 1] 0 [[]]) F0 (isV (plit 1) one) = true := by decide +kernel
theorem twoLowZ3 : runs (lowG polyN (progTwo []) [0, 1] 1 [psub [] one]) F0 (isV (plit 0) one) = true := by decide +kernel
theorem bothBestZ : runs (bestG polyN (progBoth vA vB []) [0, 1]) F0 (isL [0, 1]) = true := by decide +kernel
theorem bothLowZ : runs (lowG polyN (progBoth vA vB []) [0, 1] 0 [padd [] vN]) F0 (isMin vN vA vB) = true := by decide +kernel
theorem dead1N : runs (isDead polyN [[one, pneg (pneg vL)]] 1) F0 isF = true := by decide +kernel
theorem dead2N : runs (isDead polyN [[one, psub one (pneg vL)]] 1) F0 isF = true := by decide +kernel
theorem oneBestN : runs (bestG polyN (progOne vA (pneg vL)) [0]) F0 (isL [0]) = true := by decide +kernel
theorem oneLowN : runs (lowG polyN (progOne vA (pneg vL)) [0] 0 [padd (pneg vL) vN]) F0 (isV vN vA) = true := by decide +kernel
theorem oneEndN : runs (lowG polyN (progOne vA (pneg vL)) [0] 0 [psub (psub (pneg vL) one) vN]) F0 isE = true := by decide +kernel
theorem twoBestN : runs (bestG polyN (progTwo (pneg vL)) [0, 1]) F0 (isL [0, 1]) = true := by decide +kernel
theorem twoLowN0 : runs (lowG polyN (progTwo (pneg vL)) [0, 1] 0 [padd (pneg vL) (plit 5)]) F0 (isV (plit 11) one) = true := by decide +kernel
theorem twoLowN1 : runs (lowG polyN (progTwo (pneg vL)) [0, 1] 1 [padd (pneg vL) (plit 5)]) F0 (isV (plit 12) one) = true := by decide +kernel
theorem twoLowN2 : runs (lowG polyN (progTwo (pneg vL)) [0, 1] 0 [(pneg vL)]) F0 (isV (plit 1) one) = true := by decide +kernel
theorem twoLowN3 : runs (lowG polyN (progTwo (pneg vL)) [0, 1] 1 [psub (pneg vL) one]) F0 (isV (plit 0) one) = true := by decide +kernel
theorem bothBestN : runs (bestG polyN (progBoth vA vB (pneg vL)) [0, 1]) F0 (isL [0, 1]) = true := by decide +kernel
theorem bothLowN : runs (lowG polyN (progBoth vA vB (pneg vL)) [0, 1] 0 [padd (pneg vL) vN]) F0 (isMin vN vA vB) = true := by decide +kernel
theorem besideDead0 : runs (isDead polyN [[one, [], pneg vA], x3, y3] 2) F0 isF = true := by decide +kernel
theorem besideDead1 : runs (isDead polyN [[[], one, pneg vB], x3, y3] 2) F0 isF = true := by decide +kernel
theorem besideBest : runs (bestG polyN (progBeside vA vB) [0, 1]) F0 (isL [0, 1]) = true := by decide +kernel
def topP : Poly := psub (padd (pmul vN vB) (pmul (pmul (plit 7) vN) vA)) (pmul vA vB)
theorem besideLow : runs (lowG polyN (progBeside vA vB) [0, 1] 0 [vN, pmul (plit 7) vN]) F0 (isBeside topP (pmul vA vB)) = true := by decide +kernel
end FR
end

section
set_option Elab.async false
set_option linter.all false
set_option maxHeartbeats 4000000
/-! FrInt: the mirror over whole numbers, read plainly. -/
namespace FR
abbrev Row := List Int
theorem neg_int (x : Int) : neg intN x = -x := by
  show (0 : Int) - x = -x
  omega
theorem pos_int (x : Int) : intN.pos x = some (decide (0 < x)) := rfl
theorem okb_some {b : Int} {u : Unit} (h : intN.okb b = some u) : 0 < b ∧ Fit b := by
  have h1 : (if 0 < b ∧ Fit b then some () else none) = some u := h
  by_cases q : 0 < b ∧ Fit b
  · exact q
  · rw [if_neg q] at h1
    cases h1
theorem fit_some {b : Int} {u : Unit} (h : intN.fit b = some u) : Fit b := by
  have h1 : (if Fit b then some () else none) = some u := h
  by_cases q : Fit b
  · exact q
  · rw [if_neg q] at h1
    cases h1
theorem fit_neg {x : Int} (h : Fit x) : Fit (-x) := by
  unfold Fit at *
  rw [Int.natAbs_neg]
  exact h
/-- width and sizes of a row, of a table -/
def RowOk (n : Nat) (r : Row) : Prop := r.length = n ∧ ∀ x ∈ r, Fit x
def TabOk (n : Nat) (T : List Row) : Prop := ∀ r ∈ T, RowOk n r
theorem fitAll_some : ∀ {l : Row} {u : Unit}, fitAll intN l = some u → ∀ x ∈ l, Fit x
  | [], _, _, x, hx => by cases hx
  | a :: l, u, h, x, hx => by
    obtain ⟨u1, h1, h2⟩ := Option.bind_eq_some_iff.mp (show (intN.fit a).bind (fun _ => fitAll intN l) = some u from h)
    rcases List.mem_cons.mp hx with z | z
    · rw [z]
      exact fit_some h1
    · exact fitAll_some h2 x z
theorem fitTab_some : ∀ {T : List Row} {u : Unit}, fitTab intN T = some u → ∀ r ∈ T, ∀ x ∈ r, Fit x
  | [], _, _, x, hx => by cases hx
  | a :: l, u, h, x, hx => by
    obtain ⟨u1, h1, h2⟩ := Option.bind_eq_some_iff.mp (show (fitAll intN a).bind (fun _ => fitTab intN l) = some u from h)
    rcases List.mem_cons.mp hx with z | z
    · rw [z]
      exact fitAll_some h1
    · exact fitTab_some h2 x z
/-! ### a row's elimination -/
def elimV (by_ lead b p o : Int) : Int := (p * by_ - lead * o).fdiv b
theorem elimRow_some {by_ lead b : Int} : ∀ {ps os r : Row}, elimRow intN by_ lead b ps os = some r → r = List.zipWith (elimV by_ lead b) ps os ∧ ∀ x ∈ r, Fit x
  | [], os, r, h => by
    have e : some [] = some r := h
    rw [← Option.some.inj e]
    exact ⟨by simp, fun x hx => by cases hx⟩
  | p :: ps, [], r, h => by
    have e : some [] = some r := h
    rw [← Option.some.inj e]
    exact ⟨by simp, fun x hx => by cases hx⟩
  | p :: ps, o :: os, r, h => by
    obtain ⟨q, h1, h2⟩ := Option.bind_eq_some_iff.mp (show (intN.comb p by_ lead o b).bind (fun q => (elimRow intN by_ lead b ps os).bind (fun r => some (q :: r))) = some r from h)
    obtain ⟨r2, h3, h4⟩ := Option.bind_eq_some_iff.mp h2
    have e := Option.some.inj h4
    have h5 : (if Fit ((p * by_ - lead * o).fdiv b) then some ((p * by_ - lead * o).fdiv b) else none) = some q := h1
    by_cases hf : Fit ((p * by_ - lead * o).fdiv b)
    · rw [if_pos hf] at h5
      have e2 := Option.some.inj h5
      obtain ⟨i1, i2⟩ := elimRow_some h3
      subst e
      refine ⟨?_, fun x hx => ?_⟩
      · rw [i1, ← e2]
        rfl
      · rcases List.mem_cons.mp hx with z | z
        · rw [z, ← e2]
          exact hf
        · exact i2 x z
    · rw [if_neg hf] at h5
      cases h5
def lineI (own : Row) (by_ b : Int) (r c i : Nat) (line : Row) : Row := if i = r then own else List.zipWith (elimV by_ (line.getD c 0) b) line own
theorem elimLine_some {own : Row} {by_ b : Int} {r c i : Nat} {line q : Row} (h : elimLine intN own by_ b r c i line = some q) : q = lineI own by_ b r c i line ∧ (i = r ∨ ∀ x ∈ q, Fit x) := by
  unfold elimLine at h
  unfold lineI
  by_cases e : i = r
  · rw [if_pos e] at h
    rw [if_pos e]
    exact ⟨(Option.some.inj h).symm, .inl e⟩
  · rw [if_neg e] at h
    rw [if_neg e]
    obtain ⟨h1, h2⟩ := elimRow_some h
    exact ⟨h1, .inr h2⟩
theorem elimAll_some {own : Row} {by_ b : Int} {r c : Nat} : ∀ {i : Nat} {T T' : List Row}, elimAll intN own by_ b r c i T = some T' → T'.length = T.length ∧ ∀ j, j < T.length → T'.getD j [] = lineI own by_ b r c (i + j) (T.getD j []) ∧ (i + j = r ∨ ∀ x ∈ T'.getD j [], Fit x)
  | i, [], T', h => by
    have e : some [] = some T' := h
    rw [← Option.some.inj e]
    exact ⟨rfl, fun j hj => absurd hj (Nat.not_lt_zero j)⟩
  | i, line :: rest, T', h => by
    obtain ⟨q, h1, h2⟩ := Option.bind_eq_some_iff.mp (show (elimLine intN own by_ b r c i line).bind (fun q => (elimAll intN own by_ b r c (i + 1) rest).bind (fun m => some (q :: m))) = some T' from h)
    obtain ⟨m, h3, h4⟩ := Option.bind_eq_some_iff.mp h2
    have e := Option.some.inj h4
    subst e
    obtain ⟨i1, i2⟩ := elimAll_some h3
    obtain ⟨l1, l2⟩ := elimLine_some h1
    refine ⟨by simp [i1], fun j hj => ?_⟩
    cases j with
    | zero => exact ⟨l1, l2⟩
    | succ j =>
      obtain ⟨k1, k2⟩ := i2 j (by simpa using hj)
      have e2 : i + (j + 1) = i + 1 + j := by omega
      rw [e2]
      exact ⟨k1, k2⟩
def ownI (T : List Row) (r c : Nat) : Row := if (T.getD r []).getD c 0 < 0 then (T.getD r []).map (fun x => -x) else T.getD r []
theorem turned_some {T : List Row} {b : Int} {r c : Nat} {x : List Row × Int} (h : turned intN T b r c = some x) : 0 < b ∧ Fit b ∧ x.2 = (ownI T r c).getD c 0 ∧ elimAll intN (ownI T r c) x.2 b r c 0 T = some x.1 := by
  unfold turned at h
  obtain ⟨u, h1, h2⟩ := Option.bind_eq_some_iff.mp (show (intN.okb b).bind _ = some x from h)
  obtain ⟨b1, b2⟩ := okb_some h1
  have h3 : (elimAll intN (if decide (0 < neg intN ((T.getD r []).getD c 0)) = true then (T.getD r []).map (neg intN) else T.getD r []) ((if decide (0 < neg intN ((T.getD r []).getD c 0)) = true then (T.getD r []).map (neg intN) else T.getD r []).getD c 0) b r c 0 T).bind
      (fun T' => some (T', (if decide (0 < neg intN ((T.getD r []).getD c 0)) = true then (T.getD r []).map (neg intN) else T.getD r []).getD c 0)) = some x := h2
  have e1 : (if decide (0 < neg intN ((T.getD r []).getD c 0)) = true then (T.getD r []).map (neg intN) else T.getD r []) = ownI T r c := by
    unfold ownI
    have e2 : (T.getD r []).map (neg intN) = (T.getD r []).map (fun x => -x) := List.map_congr_left fun y _ => neg_int y
    rw [e2, neg_int]
    by_cases q : (T.getD r []).getD c 0 < 0
    · rw [if_pos q, if_pos (decide_eq_true (by omega))]
    · rw [if_neg q, if_neg (by
        intro z
        have := of_decide_eq_true z
        omega)]
  rw [e1] at h3
  obtain ⟨T', h4, h5⟩ := Option.bind_eq_some_iff.mp h3
  have e := Option.some.inj h5
  subst e
  exact ⟨b1, b2, rfl, h4⟩
theorem getD_mem {T : List Row} {i : Nat} (h : i < T.length) : T.getD i [] ∈ T := by
  rw [List.getD_eq_getElem?_getD, List.getElem?_eq_getElem h]
  exact List.getElem_mem h
theorem own_ok {n : Nat} {T : List Row} {r c : Nat} (h : TabOk n T) (hr : r < T.length) : RowOk n (ownI T r c) := by
  have h1 := h _ (getD_mem hr)
  unfold ownI
  split
  · refine ⟨by rw [List.length_map]; exact h1.1, fun x hx => ?_⟩
    obtain ⟨y, hy, rfl⟩ := List.mem_map.mp hx
    exact fit_neg (h1.2 y hy)
  · exact h1
theorem tab_at {n : Nat} {T : List Row} (h : ∀ j, j < T.length → RowOk n (T.getD j [])) : TabOk n T := fun r hr => by
  obtain ⟨j, hj, e⟩ := List.mem_iff_getElem.mp hr
  have := h j hj
  rw [List.getD_eq_getElem?_getD, List.getElem?_eq_getElem hj] at this
  rw [← e]
  exact this
theorem turned_ok {n : Nat} {T : List Row} {b : Int} {r c : Nat} {x : List Row × Int} (h : turned intN T b r c = some x) (hT : TabOk n T) (hr : r < T.length) : TabOk n x.1 ∧ x.1.length = T.length := by
  obtain ⟨h1, h2, h3, h4⟩ := turned_some h
  obtain ⟨l, k⟩ := elimAll_some h4
  refine ⟨tab_at fun j hj => ?_, l⟩
  obtain ⟨k1, k2⟩ := k j (by omega)
  have ho := own_ok (c := c) hT hr
  rw [Nat.zero_add] at k1 k2
  by_cases e : j = r
  · rw [k1]
    unfold lineI
    rw [if_pos e]
    exact ho
  · refine ⟨?_, (k2.resolve_left e)⟩
    rw [k1]
    unfold lineI
    rw [if_neg e, List.length_zipWith, (hT _ (getD_mem (show j < T.length by omega))).1, ho.1, Nat.min_self]
/-! ### the row that bounds a column first -/
def lvStep (T : List Row) (base : List Nat) (c : Nat) (best : Option Nat) (i : Nat) : Option Nat :=
  if 0 < (T.getD i []).getD c 0 then
    match best with
    | none => some i
    | some j =>
      if (T.getD i []).getLastD 0 * (T.getD j []).getD c 0 < (T.getD j []).getLastD 0 * (T.getD i []).getD c 0 ∨
        ((T.getD i []).getLastD 0 * (T.getD j []).getD c 0 = (T.getD j []).getLastD 0 * (T.getD i []).getD c 0 ∧ base.getD i 0 < base.getD j 0) then some i else some j
  else best
theorem leaveStep_int (T : List Row) (base : List Nat) (c : Nat) (best : Option Nat) (i : Nat) : leaveStep intN T base c best i = some (lvStep T base c best i) := by
  unfold leaveStep lvStep
  show (some (decide (0 < (T.getD i []).getD c 0))).bind (fun p => if p = true then _ else some best) = _
  rw [Option.bind_some]
  by_cases h : 0 < (T.getD i []).getD c 0
  · rw [if_pos h, if_pos (decide_eq_true h)]
    cases best with
    | none => rfl
    | some j =>
      show (some (decide (0 < (T.getD j []).getLastD 0 * (T.getD i []).getD c 0 - (T.getD i []).getLastD 0 * (T.getD j []).getD c 0))).bind (fun lt => if lt = true then some (some i) else
        (some (decide (0 < (T.getD i []).getLastD 0 * (T.getD j []).getD c 0 - (T.getD j []).getLastD 0 * (T.getD i []).getD c 0))).bind (fun gt => if gt = true then some (some j) else some (if base.getD i 0 < base.getD j 0 then some i else some j))) = _
      simp only [Option.bind_some]
      generalize (T.getD j []).getLastD 0 * (T.getD i []).getD c 0 = R
      generalize (T.getD i []).getLastD 0 * (T.getD j []).getD c 0 = L
      by_cases h1 : L < R
      · rw [if_pos (decide_eq_true (by omega)), if_pos (.inl h1)]
      · rw [if_neg (by
          intro z
          have := of_decide_eq_true z
          omega)]
        by_cases h2 : R < L
        · rw [if_pos (decide_eq_true (by omega)), if_neg (by
            intro z
            rcases z with z | z
            · exact h1 z
            · omega)]
        · rw [if_neg (by
            intro z
            have := of_decide_eq_true z
            omega)]
          by_cases h3 : base.getD i 0 < base.getD j 0
          · rw [if_pos h3, if_pos (.inr ⟨by omega, h3⟩)]
          · rw [if_neg h3, if_neg (by
              intro z
              rcases z with z | z
              · exact h1 z
              · exact h3 z.2)]
  · rw [if_neg h, if_neg (by
      intro z
      exact h (of_decide_eq_true z))]
def lvLoop (T : List Row) (base : List Nat) (c : Nat) : Nat → Nat → Option Nat → Option Nat
  | 0, _, best => best
  | n + 1, i, best => lvLoop T base c n (i + 1) (lvStep T base c best i)
theorem leaveLoop_int (T : List Row) (base : List Nat) (c : Nat) : ∀ (n i : Nat) (best : Option Nat), leaveLoop intN T base c n i best = some (lvLoop T base c n i best)
  | 0, _, _ => rfl
  | n + 1, i, best => by
    show (leaveStep intN T base c best i).bind (fun b => leaveLoop intN T base c n (i + 1) b) = _
    rw [leaveStep_int, Option.bind_some, leaveLoop_int T base c n (i + 1)]
    rfl
/-- the best after i rows -/
def lvAt (T : List Row) (base : List Nat) (c : Nat) (n : Nat) : Option Nat := lvLoop T base c n 0 none
theorem lvLoop_succ (T : List Row) (base : List Nat) (c : Nat) : ∀ (n i : Nat) (best : Option Nat), lvLoop T base c (n + 1) i best = lvStep T base c (lvLoop T base c n i best) (i + n)
  | 0, i, best => rfl
  | n + 1, i, best => by
    show lvLoop T base c (n + 1) (i + 1) (lvStep T base c best i) = _
    rw [lvLoop_succ T base c n (i + 1)]
    have e : i + 1 + n = i + (n + 1) := by omega
    rw [e]
    rfl
theorem lvAt_succ (T : List Row) (base : List Nat) (c n : Nat) : lvAt T base c (n + 1) = lvStep T base c (lvAt T base c n) n := by
  unfold lvAt
  rw [lvLoop_succ, Nat.zero_add]
theorem lvStep_lt {T : List Row} {base : List Nat} {c i m : Nat} {best : Option Nat} (hi : i < m) (hb : ∀ j, best = some j → j < m) : ∀ j, lvStep T base c best i = some j → j < m := by
  intro j h
  unfold lvStep at h
  split at h
  · split at h
    · have e := Option.some.inj h
      omega
    · rename_i j0
      split at h
      · have e := Option.some.inj h
        omega
      · exact hb j h
  · exact hb j h
theorem lvAt_lt {T : List Row} {base : List Nat} {c : Nat} : ∀ {n : Nat} {m : Nat}, n ≤ m → ∀ j, lvAt T base c n = some j → j < m
  | 0, m, _, j, h => by cases h
  | n + 1, m, hm, j, h => by
    rw [lvAt_succ] at h
    exact lvStep_lt (by omega) (fun j q => lvAt_lt (by omega) j q) j h
/-! ### the first above 0, the first other than 0 -/
def fpI : Row → Nat → Option Nat
  | [], _ => none
  | x :: r, i => if 0 < x then some i else fpI r (i + 1)
theorem firstPos_int : ∀ (l : Row) (i : Nat), firstPos intN l i = some (fpI l i)
  | [], _ => rfl
  | x :: r, i => by
    show (some (decide (0 < x))).bind (fun p => if p = true then some (some i) else firstPos intN r (i + 1)) = _
    rw [Option.bind_some, firstPos_int r (i + 1)]
    show _ = some (if 0 < x then some i else fpI r (i + 1))
    by_cases h : 0 < x
    · rw [if_pos h, if_pos (decide_eq_true h)]
    · rw [if_neg h, if_neg (fun z => h (of_decide_eq_true z))]
theorem nz_int (x : Int) : nz intN x = some (decide (x ≠ 0)) := by
  unfold nz
  show (some (decide (0 < x))).bind (fun p => if p = true then some true else intN.pos (neg intN x)) = _
  rw [Option.bind_some, neg_int, pos_int]
  by_cases h : 0 < x
  · rw [if_pos (decide_eq_true h), decide_eq_true (by omega)]
  · rw [if_neg (fun z => h (of_decide_eq_true z))]
    by_cases h2 : x = 0
    · rw [decide_eq_false (by omega), decide_eq_false (by omega)]
    · rw [decide_eq_true (by omega), decide_eq_true (by omega)]
def fnI : Row → Nat → Option Nat
  | [], _ => none
  | x :: r, i => if x ≠ 0 then some i else fnI r (i + 1)
theorem firstNz_int : ∀ (l : Row) (i : Nat), firstNz intN l i = some (fnI l i)
  | [], _ => rfl
  | x :: r, i => by
    show (nz intN x).bind (fun p => if p = true then some (some i) else firstNz intN r (i + 1)) = _
    rw [nz_int, Option.bind_some, firstNz_int r (i + 1)]
    show _ = some (if x ≠ 0 then some i else fnI r (i + 1))
    by_cases h : x ≠ 0
    · rw [if_pos h, if_pos (decide_eq_true h)]
    · rw [if_neg h, if_neg (fun z => h (of_decide_eq_true z))]
/-- the places at which a test holds, as the program lists them -/
def spots (p : Int → Bool) (r : Row) (wide : Nat) : List Nat := (List.range wide).filter fun k => p (r.getD k 0)
theorem filter_range_succ (p : Nat → Bool) (n : Nat) : (List.range (n + 1)).filter p = (if p 0 then [0] else []) ++ ((List.range n).filter (fun k => p (k + 1))).map (· + 1) := by
  rw [List.range_succ_eq_map, List.filter_cons, List.filter_map]
  cases p 0 <;> rfl
theorem first_spot (p : Int → Bool) (f : Row → Nat → Option Nat) (h0 : ∀ i, f [] i = none) (h1 : ∀ x r i, f (x :: r) i = if p x = true then some i else f r (i + 1)) : ∀ (r : Row) (i : Nat), f r i = (spots p r r.length).head?.map (· + i)
  | [], i => by
    rw [h0]
    rfl
  | x :: r, i => by
    rw [h1, first_spot p f h0 h1 r (i + 1)]
    unfold spots
    rw [List.length_cons, filter_range_succ]
    have e1 : (x :: r).getD 0 0 = x := rfl
    have e2 : (fun k => p ((x :: r).getD (k + 1) 0)) = fun k => p (r.getD k 0) := rfl
    rw [e1, e2]
    by_cases h : p x = true
    · rw [if_pos h, if_pos h]
      simp
    · rw [if_neg h, if_neg h, List.nil_append, List.head?_map]
      cases ((List.range r.length).filter fun k => p (r.getD k 0)).head? with
      | none => rfl
      | some k =>
        show some (k + (i + 1)) = some (k + 1 + i)
        congr 1
        omega
theorem fpI_spots (r : Row) : fpI r 0 = (spots (fun x => decide (0 < x)) r r.length).head? := by
  rw [first_spot (fun x => decide (0 < x)) fpI (fun _ => rfl) (fun x r i => by
    by_cases h : 0 < x
    · rw [if_pos (decide_eq_true h)]
      unfold fpI
      rw [if_pos h]
    · rw [if_neg (fun z => h (of_decide_eq_true z))]
      conv => lhs; unfold fpI
      rw [if_neg h]) r 0]
  cases (spots (fun x => decide (0 < x)) r r.length).head? <;> rfl
theorem fnI_spots (r : Row) : fnI r 0 = (spots (fun x => decide (x ≠ 0)) r r.length).head? := by
  rw [first_spot (fun x => decide (x ≠ 0)) fnI (fun _ => rfl) (fun x r i => by
    by_cases h : x ≠ 0
    · rw [if_pos (decide_eq_true h)]
      unfold fnI
      rw [if_pos h]
    · rw [if_neg (fun z => h (of_decide_eq_true z))]
      conv => lhs; unfold fnI
      rw [if_neg h]) r 0]
  cases (spots (fun x => decide (x ≠ 0)) r r.length).head? <;> rfl
theorem spots_take (p : Int → Bool) (r : Row) (wide : Nat) (h : wide ≤ r.length) : spots p (r.take wide) wide = spots p r wide := by
  unfold spots
  refine List.filter_congr fun k hk => ?_
  have hk := List.mem_range.mp hk
  congr 1
  rw [List.getD_eq_getElem?_getD, List.getD_eq_getElem?_getD, List.getElem?_take, if_pos hk]
end FR
namespace FR
/-! ### the climb -/
theorem climb_succ (many wide n : Nat) (T : List Row) (base : List Nat) (b : Int) : climb intN many wide (n + 1) T base b =
    match fpI ((T.getD many []).take wide) 0 with
    | none => some (some b, T, base)
    | some c => match lvAt T base c many with
      | none => some (none, T, base)
      | some r => (turned intN T b r c).bind fun tb => climb intN many wide n tb.1 (base.set r c) tb.2 := by
  show (firstPos intN ((T.getD many []).take wide) 0).bind (fun f => match f with
    | none => some (some b, T, base)
    | some c => (leaveLoop intN T base c many 0 none).bind fun l => match l with
      | none => some (none, T, base)
      | some r => (turned intN T b r c).bind fun tb => climb intN many wide n tb.1 (base.set r c) tb.2) = _
  rw [firstPos_int, Option.bind_some]
  cases fpI ((T.getD many []).take wide) 0 with
  | none => rfl
  | some c =>
    show (leaveLoop intN T base c many 0 none).bind _ = _
    rw [leaveLoop_int, Option.bind_some]
    rfl
end FR
namespace FR
theorem climb_done {many wide n : Nat} {T : List Row} {base : List Nat} {b : Int} (h : fpI ((T.getD many []).take wide) 0 = none) : climb intN many wide (n + 1) T base b = some (some b, T, base) := by
  rw [climb_succ, h]
theorem climb_open {many wide n c : Nat} {T : List Row} {base : List Nat} {b : Int} (h : fpI ((T.getD many []).take wide) 0 = some c) (h2 : lvAt T base c many = none) : climb intN many wide (n + 1) T base b = some (none, T, base) := by
  rw [climb_succ, h]
  show (match lvAt T base c many with
    | none => some (none, T, base)
    | some r => (turned intN T b r c).bind fun tb => climb intN many wide n tb.1 (base.set r c) tb.2) = _
  rw [h2]
theorem climb_turn {many wide n c r : Nat} {T : List Row} {base : List Nat} {b : Int} (h : fpI ((T.getD many []).take wide) 0 = some c) (h2 : lvAt T base c many = some r) : climb intN many wide (n + 1) T base b = (turned intN T b r c).bind fun tb => climb intN many wide n tb.1 (base.set r c) tb.2 := by
  rw [climb_succ, h]
  show (match lvAt T base c many with
    | none => some (none, T, base)
    | some r => (turned intN T b r c).bind fun tb => climb intN many wide n tb.1 (base.set r c) tb.2) = _
  rw [h2]
theorem fp_take {r : Row} {wide : Nat} (h : r.length = wide + 1) : fpI (r.take wide) 0 = (spots (fun x => decide (0 < x)) r wide).head? := by
  rw [fpI_spots]
  have e : (r.take wide).length = wide := by
    rw [List.length_take]
    omega
  rw [e, spots_take _ _ _ (by omega)]
theorem fn_take {r : Row} {wide : Nat} (h : r.length = wide + 1) : fnI (r.take wide) 0 = (spots (fun x => decide (x ≠ 0)) r wide).head? := by
  rw [fnI_spots]
  have e : (r.take wide).length = wide := by
    rw [List.length_take]
    omega
  rw [e, spots_take _ _ _ (by omega)]
theorem spots_lt {p : Int → Bool} {r : Row} {wide k : Nat} (h : (spots p r wide).head? = some k) : k < wide := by
  have h1 : k ∈ spots p r wide := List.mem_of_mem_head? h
  exact List.mem_range.mp (List.mem_filter.mp h1).1
end FR
namespace FR
/-! ### begun -/
def signI (r : Row) : Row := if r.getLastD 0 < 0 then r.map (fun x => -x) else r
theorem signs_int : ∀ R : List Row, signs intN R = some (R.map signI)
  | [] => rfl
  | r :: R => by
    show (some (decide (0 < neg intN (r.getLastD 0)))).bind (fun ng => (signs intN R).bind fun more => some ((if ng = true then r.map (neg intN) else r) :: more)) = _
    rw [signs_int R, Option.bind_some, Option.bind_some, neg_int, List.map_cons]
    congr 2
    unfold signI
    have e2 : r.map (neg intN) = r.map (fun x => -x) := List.map_congr_left fun y _ => neg_int y
    rw [e2]
    by_cases h : r.getLastD 0 < 0
    · rw [if_pos h, if_pos (decide_eq_true (by omega))]
    · rw [if_neg h, if_neg (fun z => by
        have := of_decide_eq_true z
        omega)]
theorem foldl_sum : ∀ (T : List Row) (c : Nat) (z : Int), T.foldl (fun z row => intN.add z (row.getD c (intN.lit 0))) z = z + (T.map fun r => r.getD c 0).sum
  | [], c, z => by
    show z = z + 0
    omega
  | r :: T, c, z => by
    show T.foldl _ (z + r.getD c 0) = z + ((r.getD c 0) :: T.map fun r => r.getD c 0).sum
    rw [foldl_sum T c, List.sum_cons]
    omega
theorem colSum_int (T : List Row) (c : Nat) : colSum intN T c = (T.map fun r => r.getD c 0).sum := by
  unfold colSum
  rw [foldl_sum]
  show (0 : Int) + _ = _
  omega
def sumRow (T : List Row) (wide : Nat) : Row := (List.range (wide + 1)).map fun c => (T.map fun r => r.getD c 0).sum
def base0 (m wide : Nat) : List Nat := (List.range m).map (wide + ·)
theorem drive_zero (wide i : Nat) (T : List Row) (base : List Nat) (b : Int) : drive intN wide 0 i T base b = some (T, base, b) := rfl
theorem drive_low {wide n i : Nat} {T : List Row} {base : List Nat} {b : Int} (h : ¬ wide ≤ base.getD i 0) : drive intN wide (n + 1) i T base b = drive intN wide n (i + 1) T base b := by
  show (if wide ≤ base.getD i 0 then _ else drive intN wide n (i + 1) T base b) = _
  rw [if_neg h]
theorem drive_none {wide n i : Nat} {T : List Row} {base : List Nat} {b : Int} (h : wide ≤ base.getD i 0) (h2 : fnI ((T.getD i []).take wide) 0 = none) : drive intN wide (n + 1) i T base b = drive intN wide n (i + 1) T base b := by
  show (if wide ≤ base.getD i 0 then (firstNz intN ((T.getD i []).take wide) 0).bind _ else drive intN wide n (i + 1) T base b) = _
  rw [if_pos h, firstNz_int, h2]
  rfl
theorem drive_some {wide n i c : Nat} {T : List Row} {base : List Nat} {b : Int} (h : wide ≤ base.getD i 0) (h2 : fnI ((T.getD i []).take wide) 0 = some c) : drive intN wide (n + 1) i T base b = (turned intN T b i c).bind fun tb => drive intN wide n (i + 1) tb.1 (base.set i c) tb.2 := by
  show (if wide ≤ base.getD i 0 then (firstNz intN ((T.getD i []).take wide) 0).bind _ else drive intN wide n (i + 1) T base b) = _
  rw [if_pos h, firstNz_int, h2]
  rfl
def keptOf (m wide : Nat) (base : List Nat) : List Nat := (List.range m).filter fun i => decide (base.getD i 0 < wide)
theorem begun_some {R : List Row} {wide : Nat} {res : Option (List Row × List Nat × Int)} (h : begun intN R wide = some res) : (∀ r ∈ R.map signI, ∀ x ∈ r, Fit x) ∧ (∀ x ∈ sumRow (R.map signI) wide, Fit x) ∧
    ∃ b T1 bs1, climb intN R.length wide FUEL (R.map signI ++ [sumRow (R.map signI) wide]) (base0 R.length wide) 1 = some (some b, T1, bs1) ∧
      (((T1.getD R.length []).getLastD 0 ≠ 0 ∧ res = none) ∨ ((T1.getD R.length []).getLastD 0 = 0 ∧ ∃ T2 bs2 b2, drive intN wide R.length 0 T1.dropLast bs1 b = some (T2, bs2, b2) ∧
        res = some ((keptOf R.length wide bs2).map (fun i => T2.getD i []), (keptOf R.length wide bs2).map (fun i => bs2.getD i 0), b2))) := by
  unfold begun at h
  rw [signs_int] at h
  have h0 : begunT intN R.length wide (R.map signI) = some res := h
  unfold begunT at h0
  have es : (List.range (wide + 1)).map (colSum intN (R.map signI)) = sumRow (R.map signI) wide := List.map_congr_left fun c _ => colSum_int _ c
  rw [es] at h0
  obtain ⟨u1, f1, h2⟩ := Option.bind_eq_some_iff.mp (show (fitTab intN (R.map signI)).bind _ = some res from h0)
  obtain ⟨u2, f2, h3⟩ := Option.bind_eq_some_iff.mp (show (fitAll intN (sumRow (R.map signI) wide)).bind _ = some res from h2)
  obtain ⟨cl, f3, h4⟩ := Option.bind_eq_some_iff.mp (show (climb intN R.length wide FUEL (R.map signI ++ [sumRow (R.map signI) wide]) (base0 R.length wide) 1).bind (begunEnd intN R.length wide) = some res from h3)
  obtain ⟨bo, T1, bs1⟩ := cl
  refine ⟨fitTab_some f1, fitAll_some f2, ?_⟩
  cases bo with
  | none => cases h4
  | some b =>
    refine ⟨b, T1, bs1, f3, ?_⟩
    have h5 : (nz intN ((T1.getD R.length []).getLastD 0)).bind (fun z => if z = true then some none else
        (drive intN wide R.length 0 T1.dropLast bs1 b).bind fun d => some (some (begunKeep R.length wide d))) = some res := h4
    rw [nz_int, Option.bind_some] at h5
    by_cases hz : (T1.getD R.length []).getLastD 0 = 0
    · rw [if_neg (fun q => absurd hz (of_decide_eq_true q))] at h5
      obtain ⟨d, f4, h6⟩ := Option.bind_eq_some_iff.mp h5
      exact .inr ⟨hz, d.1, d.2.1, d.2.2, f4, (Option.some.inj h6).symm⟩
    · rw [if_pos (decide_eq_true hz)] at h5
      exact .inl ⟨hz, (Option.some.inj h5).symm⟩
theorem sign_len (r : Row) : (signI r).length = r.length := by
  unfold signI
  split
  · rw [List.length_map]
  · rfl
/-- the table at begun's start -/
theorem start_ok {R : List Row} {wide : Nat} (hR : ∀ r ∈ R, r.length = wide + 1) (h1 : ∀ r ∈ R.map signI, ∀ x ∈ r, Fit x) (h2 : ∀ x ∈ sumRow (R.map signI) wide, Fit x) : TabOk (wide + 1) (R.map signI ++ [sumRow (R.map signI) wide]) := fun r hr => by
  rcases List.mem_append.mp hr with z | z
  · refine ⟨?_, h1 r z⟩
    obtain ⟨q, hq, rfl⟩ := List.mem_map.mp z
    rw [sign_len]
    exact hR q hq
  · rw [List.mem_singleton.mp z]
    exact ⟨by unfold sumRow; rw [List.length_map, List.length_range], h2⟩
end FR
end

section
set_option Elab.async false
set_option linter.all false
set_option maxHeartbeats 4000000
/-! FrInt2: most over whole numbers. -/
namespace FR
def NatsLt (n : Nat) (l : List Nat) : Prop := ∀ k ∈ l, k < n
theorem natsLt_set {n : Nat} {l : List Nat} {i c : Nat} (h : NatsLt n l) (hc : c < n) : NatsLt n (l.set i c) := fun k hk => by
  rcases List.mem_or_eq_of_mem_set hk with z | z
  · exact h k z
  · rw [z]
    exact hc
theorem climb_lt {many wide : Nat} : ∀ {n : Nat} {T : List Row} {bs : List Nat} {b : Int} {x : Option Int × List Row × List Nat}, climb intN many wide n T bs b = some x → (∀ r ∈ T, wide ≤ r.length) → many < T.length → NatsLt wide bs → NatsLt wide x.2.2 := by
  intro n
  induction n with
  | zero =>
    intro T bs b x h
    cases h
  | succ n ih =>
    intro T bs b x h hT hm hb
    cases hf : fpI ((T.getD many []).take wide) 0 with
    | none =>
      rw [climb_done hf] at h
      rw [← Option.some.inj h]
      exact hb
    | some c =>
      have hl : ((T.getD many []).take wide).length = wide := by
        rw [List.length_take]
        exact Nat.min_eq_left (hT _ (getD_mem hm))
      have hc : c < wide := by
        rw [fpI_spots, hl] at hf
        exact spots_lt hf
      cases hr : lvAt T bs c many with
      | none =>
        rw [climb_open hf hr] at h
        rw [← Option.some.inj h]
        exact hb
      | some r =>
        rw [climb_turn hf hr] at h
        obtain ⟨tb, h1, h2⟩ := Option.bind_eq_some_iff.mp h
        have h3 := lvAt_lt (Nat.le_refl many) r hr
        obtain ⟨_, _, e2, e1⟩ := turned_some h1
        obtain ⟨hl1, hl2⟩ := elimAll_some e1
        refine ih h2 (fun q hq => ?_) (by rw [hl1]; exact hm) (natsLt_set hb hc)
        obtain ⟨j, hj, rfl⟩ := List.mem_iff_getElem.mp hq
        have h4 := (hl2 j (by omega)).1
        rw [List.getD_eq_getElem?_getD, List.getElem?_eq_getElem hj] at h4
        have h4' : tb.1[j] = lineI (ownI T r c) tb.2 b r c (0 + j) (T.getD j []) := h4
        rw [h4']
        have hown : wide ≤ (ownI T r c).length := by
          unfold ownI
          have h5 := hT _ (getD_mem (T := T) (i := r) (by omega))
          split
          · rw [List.length_map]
            exact h5
          · exact h5
        unfold lineI
        split
        · exact hown
        · rw [List.length_zipWith]
          exact Nat.le_min.mpr ⟨hT _ (getD_mem (by omega)), hown⟩
theorem most_some {R : List Row} {goal : Row} {res : Option (Option (Row × Int))} (h : most intN R goal = some res) : (∀ x ∈ goal, Fit x) ∧ ((begun intN R goal.length = some none ∧ res = none) ∨ ∃ T bs b, begun intN R goal.length = some (some (T, bs, b)) ∧ mostFrom intN goal T bs b = some res) := by
  obtain ⟨u, h1, h2⟩ := Option.bind_eq_some_iff.mp h
  obtain ⟨x, h3, h4⟩ := Option.bind_eq_some_iff.mp h2
  refine ⟨fitAll_some h1, ?_⟩
  cases x with
  | none => exact .inl ⟨h3, (Option.some.inj h4).symm⟩
  | some y => exact .inr ⟨y.1, y.2.1, y.2.2, h3, h4⟩
theorem mostFrom_some {goal : Row} {T : List Row} {bs : List Nat} {b : Int} {res : Option (Option (Row × Int))} (h : mostFrom intN goal T bs b = some res) : 0 < b ∧ Fit b ∧ (∀ x ∈ pricedRow intN goal T bs b, Fit x) ∧
    ∃ d T1 bs1, climb intN T.length goal.length FUEL (T ++ [pricedRow intN goal T bs b]) bs b = some (d, T1, bs1) ∧ ((d = none ∧ res = some none) ∨ ∃ d', d = some d' ∧ 0 < d' ∧ Fit d' ∧ res = some (some (topsOf intN (T1.take T.length) bs1 (List.replicate goal.length 0), d'))) := by
  obtain ⟨u, h1, h2⟩ := Option.bind_eq_some_iff.mp h
  obtain ⟨u2, h3, h4⟩ := Option.bind_eq_some_iff.mp h2
  obtain ⟨cl, h5, h6⟩ := Option.bind_eq_some_iff.mp h4
  obtain ⟨d, T1, bs1⟩ := cl
  refine ⟨(okb_some h1).1, (okb_some h1).2, fitAll_some h3, d, T1, bs1, h5, ?_⟩
  cases d with
  | none => exact .inl ⟨rfl, (Option.some.inj h6).symm⟩
  | some d =>
    obtain ⟨u3, h7, h8⟩ := Option.bind_eq_some_iff.mp h6
    exact .inr ⟨d, rfl, (okb_some h7).1, (okb_some h7).2, (Option.some.inj h8).symm⟩
def priceI (goal row : Row) (k : Nat) (last : Row) : Row := List.zipWith (fun part x => part - goal.getD k 0 * x) last row
theorem priced_cons {goal row last : Row} {T : List Row} {k : Nat} {bs : List Nat} : priced intN goal (row :: T) (k :: bs) last = priced intN goal T bs (priceI goal row k last) := rfl
theorem priced_nil {goal last : Row} {bs : List Nat} : priced intN goal [] bs last = last := rfl
theorem priced_drop {goal last : Row} {T : List Row} {bs : List Nat} {i : Nat} (hi : i < T.length) (hb : i < bs.length) : priced intN goal (T.drop i) (bs.drop i) last = priced intN goal (T.drop (i + 1)) (bs.drop (i + 1)) (priceI goal (T.getD i []) (bs.getD i 0) last) := by
  rw [List.drop_eq_getElem_cons hi, List.drop_eq_getElem_cons hb, priced_cons, List.getD_eq_getElem?_getD, List.getElem?_eq_getElem hi, List.getD_eq_getElem?_getD, List.getElem?_eq_getElem hb]
  rfl
theorem tops_cons {row tops : Row} {T : List Row} {k : Nat} {bs : List Nat} : topsOf intN (row :: T) (k :: bs) tops = topsOf intN T bs (tops.set k (row.getLastD 0)) := rfl
theorem tops_drop {tops : Row} {T : List Row} {bs : List Nat} {i : Nat} (hi : i < T.length) (hb : i < bs.length) : topsOf intN (T.drop i) (bs.drop i) tops = topsOf intN (T.drop (i + 1)) (bs.drop (i + 1)) (tops.set (bs.getD i 0) ((T.getD i []).getLastD 0)) := by
  rw [List.drop_eq_getElem_cons hi, List.drop_eq_getElem_cons hb, tops_cons, List.getD_eq_getElem?_getD (l := bs), List.getElem?_eq_getElem hb, List.getD_eq_getElem?_getD (l := T), List.getElem?_eq_getElem hi]
  rfl
theorem tops_len : ∀ {T : List Row} {bs : List Nat} {tops : Row}, (topsOf intN T bs tops).length = tops.length := by
  intro T
  induction T with
  | nil =>
    intro bs tops
    rfl
  | cons r T ih =>
    intro bs tops
    cases bs with
    | nil => rfl
    | cons k bs =>
      rw [tops_cons, ih, List.length_set]
theorem tops_fit : ∀ {T : List Row} {bs : List Nat} {tops : Row}, (∀ r ∈ T, r ≠ [] ∧ ∀ x ∈ r, Fit x) → (∀ x ∈ tops, Fit x) → ∀ x ∈ topsOf intN T bs tops, Fit x := by
  intro T
  induction T with
  | nil =>
    intro bs tops _ h
    exact h
  | cons r T ih =>
    intro bs tops hT h
    cases bs with
    | nil => exact h
    | cons k bs =>
      rw [tops_cons]
      refine ih (fun q hq => hT q (List.mem_cons_of_mem _ hq)) fun x hx => ?_
      rcases List.mem_or_eq_of_mem_set hx with z | z
      · exact h x z
      · obtain ⟨n1, n2⟩ := hT r List.mem_cons_self
        rw [z, List.getLastD_eq_getLast?, List.getLast?_eq_some_getLast n1]
        exact n2 _ (List.getLast_mem n1)
theorem price_len {goal row last : Row} {k n : Nat} (h1 : row.length = n) (h2 : last.length = n) : (priceI goal row k last).length = n := by
  unfold priceI
  rw [List.length_zipWith, h1, h2, Nat.min_self]
theorem price_at {goal row last : Row} {k n c : Nat} (h1 : row.length = n) (h2 : last.length = n) (hc : c < n) : (priceI goal row k last).getD c 0 = last.getD c 0 - goal.getD k 0 * row.getD c 0 := by
  unfold priceI
  rw [List.getD_eq_getElem?_getD, List.getElem?_zipWith, List.getD_eq_getElem?_getD (l := last), List.getD_eq_getElem?_getD (l := row), List.getElem?_eq_getElem (l := last) (by omega), List.getElem?_eq_getElem (l := row) (by omega)]
  rfl
def price0 (goal : Row) (b : Int) : Row := goal.map (fun p => p * b) ++ [0]
theorem pricedRow_int (goal : Row) (T : List Row) (bs : List Nat) (b : Int) : pricedRow intN goal T bs b = priced intN goal T bs (price0 goal b) := rfl
theorem price0_len {goal : Row} {b : Int} : (price0 goal b).length = goal.length + 1 := by
  unfold price0
  rw [List.length_append, List.length_map]
  rfl
end FR
end

section
set_option Elab.async false
set_option linter.all false
set_option maxHeartbeats 4000000
set_option maxRecDepth 100000
/-! MJ: the law's programs over whole numbers. Printed by genmj.py. -/
namespace FR
def env (s f m n : Int) : Nat → Int
  | 0 => s
  | 1 => f
  | 2 => m
  | 3 => n
  | _ => 0
structure Let (s f n : Int) : Prop where
  s1 : 1 ≤ s
  s2 : s < 2 ^ 100
  f1 : 1 ≤ f
  f2 : f < 2 ^ 100
  n1 : 0 ≤ n
  n2 : n < 2 ^ 100
theorem env_ok {s f m n : Int} (h : Let s f n) (h1 : 1 ≤ m) (h2 : m < 2 ^ 100) : EnvOk (env s f m n) := by
  obtain ⟨a1, a2, a3, a4, a5, a6⟩ := h
  refine ⟨fun i => ?_, fun i hi => ?_, fun i => ?_⟩
  · match i with
    | 0 => exact Int.le_trans (by decide) a1
    | 1 => exact Int.le_trans (by decide) a3
    | 2 => exact Int.le_trans (by decide) h1
    | 3 => exact a5
    | i + 4 => exact Int.le_refl _
  · match i, hi with
    | 0, _ => exact a1
    | 1, _ => exact a3
    | 2, _ => exact h1
  · match i with
    | 0 => exact a2
    | 1 => exact a4
    | 2 => exact h2
    | 3 => exact a6
    | i + 4 => exact (by decide : (0 : Int) < 2 ^ 100)
section
variable {s f m n : Int}
theorem pA : pev (env s f m n) vA = s := by
  show 1 * (s * 1) + 0 = s
  omega
theorem pB : pev (env s f m n) vB = f := by
  show 1 * (f * 1) + 0 = f
  omega
theorem pL : pev (env s f m n) vL = m := by
  show 1 * (m * 1) + 0 = m
  omega
theorem pN : pev (env s f m n) vN = n := by
  show 1 * (n * 1) + 0 = n
  omega
theorem pOne : pev (env s f m n) one = 1 := by
  show (1 : Int) * 1 + 0 = 1
  decide
theorem pNil : pev (env s f m n) [] = 0 := rfl
theorem pNL : pev (env s f m n) (pneg vL) = -m := by rw [pev_neg, pL]
theorem f0_ok (h : Let s f n) (h1 : 1 ≤ m) : Holds (env s f m n) F0 := by
  obtain ⟨a1, a2, a3, a4, a5, a6⟩ := h
  intro p hp
  rcases List.mem_cons.mp hp with z | hp
  · rw [z, pev_sub, pA, pOne]
    omega
  · rcases List.mem_cons.mp hp with z | hp
    · rw [z, pev_sub, pB, pOne]
      omega
    · rw [List.mem_singleton.mp hp, pev_sub, pL, pOne]
      omega
end
def progOneI (s l : Int) : CProg Int := ⟨1, 1, [⟨0, 0, [[1, -l]], [[1, -s]]⟩]⟩
def progBothI (s f l : Int) : CProg Int := ⟨1, 1, [⟨0, 0, [[1, -l]], [[1, -s]]⟩, ⟨0, 0, [[1, -l]], [[1, -f]]⟩]⟩
def progTwoI (l : Int) : CProg Int := ⟨1, 2, [⟨0, 1, [[1, -l]], [[1, -1]]⟩, ⟨1, 0, [[1, 1 - l]], [[1, 0]]⟩]⟩
def progBesideI (s f : Int) : CProg Int := ⟨2, 1, [⟨0, 0, [[1, 0, -s], [1, 0, 0], [0, 1, 0]], [[1, 0, -s], [0, 1, 0]]⟩, ⟨0, 0, [[0, 1, -f], [1, 0, 0], [0, 1, 0]], [[1, 0, 0], [0, 1, -f]]⟩]⟩
section
variable {s f m n : Int}
theorem one_ev (p q : Poly) : (progOne p q).ev (env s f m n) = progOneI (pev (env s f m n) p) (pev (env s f m n) q) := by
  show (⟨1, 1, [⟨0, 0, [[pev _ one, pev _ (pneg q)]], [[pev _ one, pev _ (pneg p)]]⟩]⟩ : CProg Int) = _
  rw [pOne, pev_neg, pev_neg]
  rfl
theorem both_ev (p r q : Poly) : (progBoth p r q).ev (env s f m n) = progBothI (pev (env s f m n) p) (pev (env s f m n) r) (pev (env s f m n) q) := by
  show (⟨1, 1, [⟨0, 0, [[pev _ one, pev _ (pneg q)]], [[pev _ one, pev _ (pneg p)]]⟩, ⟨0, 0, [[pev _ one, pev _ (pneg q)]], [[pev _ one, pev _ (pneg r)]]⟩]⟩ : CProg Int) = _
  rw [pOne, pev_neg, pev_neg, pev_neg]
  rfl
theorem two_ev (q : Poly) : (progTwo q).ev (env s f m n) = progTwoI (pev (env s f m n) q) := by
  show (⟨1, 2, [⟨0, 1, [[pev _ one, pev _ (pneg q)]], [[pev _ one, pev _ (plit (-1))]]⟩, ⟨1, 0, [[pev _ one, pev _ (psub one q)]], [[pev _ one, pev _ []]]⟩]⟩ : CProg Int) = _
  rw [pOne, pev_neg, pev_lit, pev_sub, pOne]
  rfl
theorem beside_ev (p r : Poly) : (progBeside p r).ev (env s f m n) = progBesideI (pev (env s f m n) p) (pev (env s f m n) r) := by
  show (⟨2, 1, [⟨0, 0, [[pev _ one, pev _ [], pev _ (pneg p)], [pev _ one, pev _ [], pev _ []], [pev _ [], pev _ one, pev _ []]], [[pev _ one, pev _ [], pev _ (pneg p)], [pev _ [], pev _ one, pev _ []]]⟩, ⟨0, 0, [[pev _ [], pev _ one, pev _ (pneg r)], [pev _ one, pev _ [], pev _ []], [pev _ [], pev _ one, pev _ []]], [[pev _ one, pev _ [], pev _ []], [pev _ [], pev _ one, pev _ (pneg r)]]⟩]⟩ : CProg Int) = _
  rw [pOne, pev_neg, pev_neg]
  rfl
theorem isV_ok {p d : Poly} {F : List Poly} {o : Out Poly} (h : isV p d F o = true) : ∃ a b, Out.ev (env s f m n) o = .val a b ∧ a * pev (env s f m n) d = pev (env s f m n) p * b := by
  cases o with
  | none => cases h
  | endless => cases h
  | val a b =>
    have h1 : pmul a d = pmul p b := peq_eq h
    have h2 := congrArg (pev (env s f m n)) h1
    rw [pev_mul, pev_mul] at h2
    exact ⟨_, _, rfl, h2⟩
theorem isE_ok {F : List Poly} {o : Out Poly} (h : isE F o = true) : Out.ev (env s f m n) o = .endless := by
  cases o with
  | none => cases h
  | endless => rfl
  | val a b => cases h
end
def Small (l : Int) : Prop := -(2 ^ 100) < l ∧ l < 2 ^ 100

theorem dead1I {s f l n : Int} (hL : Let s f n) (hl : Small l) : isDead intN [[1, -l]] 1 = some false := by
  obtain ⟨l1, l2⟩ := hl
  rcases Int.lt_trichotomy l 0 with h | h | h
  · have E := env_ok (m := -l) hL (by omega) (by omega)
    have hq : pev (env s f (-l) n) (pneg vL) = l := by rw [pNL]; omega
    obtain ⟨F', a, hF', hf, hy⟩ := runs_ok (sim_isDead E [[one, pneg (pneg vL)]] 1) dead1N (f0_ok hL (by omega))
    have hb : a = false := by
      cases a with
      | true => cases hf
      | false => rfl
    rw [hb] at hy
    have ht : tt (env s f (-l) n) [[one, pneg (pneg vL)]] = [[1, -l]] := by
      show [[pev _ one, pev _ (pneg (pneg vL))]] = _
      rw [pOne, pev_neg, hq]
    rw [ht] at hy
    exact hy
  · have E := env_ok (m := 1) hL (by omega) (by omega)
    have hq : pev (env s f (1) n) [] = l := by rw [pNil]; omega
    obtain ⟨F', a, hF', hf, hy⟩ := runs_ok (sim_isDead E [[one, pneg []]] 1) dead1Z (f0_ok hL (by omega))
    have hb : a = false := by
      cases a with
      | true => cases hf
      | false => rfl
    rw [hb] at hy
    have ht : tt (env s f (1) n) [[one, pneg []]] = [[1, -l]] := by
      show [[pev _ one, pev _ (pneg [])]] = _
      rw [pOne, pev_neg, hq]
    rw [ht] at hy
    exact hy
  · have E := env_ok (m := l) hL (by omega) (by omega)
    have hq : pev (env s f (l) n) vL = l := by rw [pL]
    obtain ⟨F', a, hF', hf, hy⟩ := runs_ok (sim_isDead E [[one, pneg vL]] 1) dead1P (f0_ok hL (by omega))
    have hb : a = false := by
      cases a with
      | true => cases hf
      | false => rfl
    rw [hb] at hy
    have ht : tt (env s f (l) n) [[one, pneg vL]] = [[1, -l]] := by
      show [[pev _ one, pev _ (pneg vL)]] = _
      rw [pOne, pev_neg, hq]
    rw [ht] at hy
    exact hy
theorem dead2I {s f l n : Int} (hL : Let s f n) (hl : Small l) : isDead intN [[1, 1 - l]] 1 = some false := by
  obtain ⟨l1, l2⟩ := hl
  rcases Int.lt_trichotomy l 0 with h | h | h
  · have E := env_ok (m := -l) hL (by omega) (by omega)
    have hq : pev (env s f (-l) n) (pneg vL) = l := by rw [pNL]; omega
    obtain ⟨F', a, hF', hf, hy⟩ := runs_ok (sim_isDead E [[one, psub one (pneg vL)]] 1) dead2N (f0_ok hL (by omega))
    have hb : a = false := by
      cases a with
      | true => cases hf
      | false => rfl
    rw [hb] at hy
    have ht : tt (env s f (-l) n) [[one, psub one (pneg vL)]] = [[1, 1 - l]] := by
      show [[pev _ one, pev _ (psub one (pneg vL))]] = _
      rw [pOne, pev_sub, pOne, hq]
    rw [ht] at hy
    exact hy
  · have E := env_ok (m := 1) hL (by omega) (by omega)
    have hq : pev (env s f (1) n) [] = l := by rw [pNil]; omega
    obtain ⟨F', a, hF', hf, hy⟩ := runs_ok (sim_isDead E [[one, psub one []]] 1) dead2Z (f0_ok hL (by omega))
    have hb : a = false := by
      cases a with
      | true => cases hf
      | false => rfl
    rw [hb] at hy
    have ht : tt (env s f (1) n) [[one, psub one []]] = [[1, 1 - l]] := by
      show [[pev _ one, pev _ (psub one [])]] = _
      rw [pOne, pev_sub, pOne, hq]
    rw [ht] at hy
    exact hy
  · have E := env_ok (m := l) hL (by omega) (by omega)
    have hq : pev (env s f (l) n) vL = l := by rw [pL]
    obtain ⟨F', a, hF', hf, hy⟩ := runs_ok (sim_isDead E [[one, psub one vL]] 1) dead2P (f0_ok hL (by omega))
    have hb : a = false := by
      cases a with
      | true => cases hf
      | false => rfl
    rw [hb] at hy
    have ht : tt (env s f (l) n) [[one, psub one vL]] = [[1, 1 - l]] := by
      show [[pev _ one, pev _ (psub one vL)]] = _
      rw [pOne, pev_sub, pOne, hq]
    rw [ht] at hy
    exact hy
theorem oneBestI {s f l n : Int} (hL : Let s f n) (hl : Small l) : bestG intN (progOneI s l) [0] = some [0] := by
  obtain ⟨l1, l2⟩ := hl
  rcases Int.lt_trichotomy l 0 with h | h | h
  · have E := env_ok (m := -l) hL (by omega) (by omega)
    have hq : pev (env s f (-l) n) (pneg vL) = l := by rw [pNL]; omega
    obtain ⟨F', a, hF', hf, hy⟩ := runs_ok (sim_best E (progOne vA (pneg vL)) [0]) oneBestN (f0_ok hL (by omega))
    have hb : a = [0] := eq_of_beq hf
    rw [hb, one_ev, hq, pA] at hy
    exact hy
  · have E := env_ok (m := 1) hL (by omega) (by omega)
    have hq : pev (env s f (1) n) [] = l := by rw [pNil]; omega
    obtain ⟨F', a, hF', hf, hy⟩ := runs_ok (sim_best E (progOne vA []) [0]) oneBestZ (f0_ok hL (by omega))
    have hb : a = [0] := eq_of_beq hf
    rw [hb, one_ev, hq, pA] at hy
    exact hy
  · have E := env_ok (m := l) hL (by omega) (by omega)
    have hq : pev (env s f (l) n) vL = l := by rw [pL]
    obtain ⟨F', a, hF', hf, hy⟩ := runs_ok (sim_best E (progOne vA vL) [0]) oneBestP (f0_ok hL (by omega))
    have hb : a = [0] := eq_of_beq hf
    rw [hb, one_ev, hq, pA] at hy
    exact hy
theorem bothBestI {s f l n : Int} (hL : Let s f n) (hl : Small l) : bestG intN (progBothI s f l) [0, 1] = some [0, 1] := by
  obtain ⟨l1, l2⟩ := hl
  rcases Int.lt_trichotomy l 0 with h | h | h
  · have E := env_ok (m := -l) hL (by omega) (by omega)
    have hq : pev (env s f (-l) n) (pneg vL) = l := by rw [pNL]; omega
    obtain ⟨F', a, hF', hf, hy⟩ := runs_ok (sim_best E (progBoth vA vB (pneg vL)) [0, 1]) bothBestN (f0_ok hL (by omega))
    have hb : a = [0, 1] := eq_of_beq hf
    rw [hb, both_ev, hq, pA, pB] at hy
    exact hy
  · have E := env_ok (m := 1) hL (by omega) (by omega)
    have hq : pev (env s f (1) n) [] = l := by rw [pNil]; omega
    obtain ⟨F', a, hF', hf, hy⟩ := runs_ok (sim_best E (progBoth vA vB []) [0, 1]) bothBestZ (f0_ok hL (by omega))
    have hb : a = [0, 1] := eq_of_beq hf
    rw [hb, both_ev, hq, pA, pB] at hy
    exact hy
  · have E := env_ok (m := l) hL (by omega) (by omega)
    have hq : pev (env s f (l) n) vL = l := by rw [pL]
    obtain ⟨F', a, hF', hf, hy⟩ := runs_ok (sim_best E (progBoth vA vB vL) [0, 1]) bothBestP (f0_ok hL (by omega))
    have hb : a = [0, 1] := eq_of_beq hf
    rw [hb, both_ev, hq, pA, pB] at hy
    exact hy
theorem twoBestI {s f l n : Int} (hL : Let s f n) (hl : Small l) : bestG intN (progTwoI l) [0, 1] = some [0, 1] := by
  obtain ⟨l1, l2⟩ := hl
  rcases Int.lt_trichotomy l 0 with h | h | h
  · have E := env_ok (m := -l) hL (by omega) (by omega)
    have hq : pev (env s f (-l) n) (pneg vL) = l := by rw [pNL]; omega
    obtain ⟨F', a, hF', hf, hy⟩ := runs_ok (sim_best E (progTwo (pneg vL)) [0, 1]) twoBestN (f0_ok hL (by omega))
    have hb : a = [0, 1] := eq_of_beq hf
    rw [hb, two_ev, hq] at hy
    exact hy
  · have E := env_ok (m := 1) hL (by omega) (by omega)
    have hq : pev (env s f (1) n) [] = l := by rw [pNil]; omega
    obtain ⟨F', a, hF', hf, hy⟩ := runs_ok (sim_best E (progTwo []) [0, 1]) twoBestZ (f0_ok hL (by omega))
    have hb : a = [0, 1] := eq_of_beq hf
    rw [hb, two_ev, hq] at hy
    exact hy
  · have E := env_ok (m := l) hL (by omega) (by omega)
    have hq : pev (env s f (l) n) vL = l := by rw [pL]
    obtain ⟨F', a, hF', hf, hy⟩ := runs_ok (sim_best E (progTwo vL) [0, 1]) twoBestP (f0_ok hL (by omega))
    have hb : a = [0, 1] := eq_of_beq hf
    rw [hb, two_ev, hq] at hy
    exact hy
theorem oneLowI {s f l n : Int} (hL : Let s f n) (hl : Small l) : ∃ a b, lowG intN (progOneI s l) [0] 0 [l + n] = some (.val a b) ∧ a * s = n * b := by
  obtain ⟨l1, l2⟩ := hl
  rcases Int.lt_trichotomy l 0 with h | h | h
  · have E := env_ok (m := -l) hL (by omega) (by omega)
    have hq : pev (env s f (-l) n) (pneg vL) = l := by rw [pNL]; omega
    obtain ⟨F', a, hF', hf, hy⟩ := runs_ok (sim_low E (progOne vA (pneg vL)) [0] 0 [padd (pneg vL) vN]) oneLowN (f0_ok hL (by omega))
    have ht : tm (env s f (-l) n) [padd (pneg vL) vN] = [l + n] := by
      show [pev _ (padd (pneg vL) vN)] = _
      rw [pev_padd, hq, pN]
    rw [ht, one_ev, hq, pA] at hy
    obtain ⟨u, v, e1, e2⟩ := isV_ok (s := s) (f := f) (m := -l) (n := n) hf
    rw [pA, pN] at e2
    rw [e1] at hy
    exact ⟨u, v, hy, e2⟩
  · have E := env_ok (m := 1) hL (by omega) (by omega)
    have hq : pev (env s f (1) n) [] = l := by rw [pNil]; omega
    obtain ⟨F', a, hF', hf, hy⟩ := runs_ok (sim_low E (progOne vA []) [0] 0 [padd [] vN]) oneLowZ (f0_ok hL (by omega))
    have ht : tm (env s f (1) n) [padd [] vN] = [l + n] := by
      show [pev _ (padd [] vN)] = _
      rw [pev_padd, hq, pN]
    rw [ht, one_ev, hq, pA] at hy
    obtain ⟨u, v, e1, e2⟩ := isV_ok (s := s) (f := f) (m := 1) (n := n) hf
    rw [pA, pN] at e2
    rw [e1] at hy
    exact ⟨u, v, hy, e2⟩
  · have E := env_ok (m := l) hL (by omega) (by omega)
    have hq : pev (env s f (l) n) vL = l := by rw [pL]
    obtain ⟨F', a, hF', hf, hy⟩ := runs_ok (sim_low E (progOne vA vL) [0] 0 [padd vL vN]) oneLowP (f0_ok hL (by omega))
    have ht : tm (env s f (l) n) [padd vL vN] = [l + n] := by
      show [pev _ (padd vL vN)] = _
      rw [pev_padd, hq, pN]
    rw [ht, one_ev, hq, pA] at hy
    obtain ⟨u, v, e1, e2⟩ := isV_ok (s := s) (f := f) (m := l) (n := n) hf
    rw [pA, pN] at e2
    rw [e1] at hy
    exact ⟨u, v, hy, e2⟩
theorem oneEndI {s f l n : Int} (hL : Let s f n) (hl : Small l) : lowG intN (progOneI s l) [0] 0 [l - 1 - n] = some .endless := by
  obtain ⟨l1, l2⟩ := hl
  rcases Int.lt_trichotomy l 0 with h | h | h
  · have E := env_ok (m := -l) hL (by omega) (by omega)
    have hq : pev (env s f (-l) n) (pneg vL) = l := by rw [pNL]; omega
    obtain ⟨F', a, hF', hf, hy⟩ := runs_ok (sim_low E (progOne vA (pneg vL)) [0] 0 [psub (psub (pneg vL) one) vN]) oneEndN (f0_ok hL (by omega))
    have ht : tm (env s f (-l) n) [psub (psub (pneg vL) one) vN] = [l - 1 - n] := by
      show [pev _ (psub (psub (pneg vL) one) vN)] = _
      rw [pev_sub, pev_sub, hq, pOne, pN]
    rw [ht, one_ev, hq, pA, isE_ok hf] at hy
    exact hy
  · have E := env_ok (m := 1) hL (by omega) (by omega)
    have hq : pev (env s f (1) n) [] = l := by rw [pNil]; omega
    obtain ⟨F', a, hF', hf, hy⟩ := runs_ok (sim_low E (progOne vA []) [0] 0 [psub (psub [] one) vN]) oneEndZ (f0_ok hL (by omega))
    have ht : tm (env s f (1) n) [psub (psub [] one) vN] = [l - 1 - n] := by
      show [pev _ (psub (psub [] one) vN)] = _
      rw [pev_sub, pev_sub, hq, pOne, pN]
    rw [ht, one_ev, hq, pA, isE_ok hf] at hy
    exact hy
  · have E := env_ok (m := l) hL (by omega) (by omega)
    have hq : pev (env s f (l) n) vL = l := by rw [pL]
    obtain ⟨F', a, hF', hf, hy⟩ := runs_ok (sim_low E (progOne vA vL) [0] 0 [psub (psub vL one) vN]) oneEndP (f0_ok hL (by omega))
    have ht : tm (env s f (l) n) [psub (psub vL one) vN] = [l - 1 - n] := by
      show [pev _ (psub (psub vL one) vN)] = _
      rw [pev_sub, pev_sub, hq, pOne, pN]
    rw [ht, one_ev, hq, pA, isE_ok hf] at hy
    exact hy
theorem twoLowI0 {s f l n : Int} (hL : Let s f n) (hl : Small l) : ∃ a b, lowG intN (progTwoI l) [0, 1] 0 [l + 5] = some (.val a b) ∧ a * 1 = 11 * b := by
  obtain ⟨l1, l2⟩ := hl
  rcases Int.lt_trichotomy l 0 with h | h | h
  · have E := env_ok (m := -l) hL (by omega) (by omega)
    have hq : pev (env s f (-l) n) (pneg vL) = l := by rw [pNL]; omega
    obtain ⟨F', a, hF', hf, hy⟩ := runs_ok (sim_low E (progTwo (pneg vL)) [0, 1] 0 [padd (pneg vL) (plit 5)]) twoLowN0 (f0_ok hL (by omega))
    have ht : tm (env s f (-l) n) [padd (pneg vL) (plit 5)] = [l + 5] := by
      show [pev _ (padd (pneg vL) (plit 5))] = _
      rw [pev_padd, hq, pev_lit]
    rw [ht, two_ev, hq] at hy
    obtain ⟨u, v, e1, e2⟩ := isV_ok (s := s) (f := f) (m := -l) (n := n) hf
    rw [pOne, pev_lit] at e2
    rw [e1] at hy
    exact ⟨u, v, hy, e2⟩
  · have E := env_ok (m := 1) hL (by omega) (by omega)
    have hq : pev (env s f (1) n) [] = l := by rw [pNil]; omega
    obtain ⟨F', a, hF', hf, hy⟩ := runs_ok (sim_low E (progTwo []) [0, 1] 0 [padd [] (plit 5)]) twoLowZ0 (f0_ok hL (by omega))
    have ht : tm (env s f (1) n) [padd [] (plit 5)] = [l + 5] := by
      show [pev _ (padd [] (plit 5))] = _
      rw [pev_padd, hq, pev_lit]
    rw [ht, two_ev, hq] at hy
    obtain ⟨u, v, e1, e2⟩ := isV_ok (s := s) (f := f) (m := 1) (n := n) hf
    rw [pOne, pev_lit] at e2
    rw [e1] at hy
    exact ⟨u, v, hy, e2⟩
  · have E := env_ok (m := l) hL (by omega) (by omega)
    have hq : pev (env s f (l) n) vL = l := by rw [pL]
    obtain ⟨F', a, hF', hf, hy⟩ := runs_ok (sim_low E (progTwo vL) [0, 1] 0 [padd vL (plit 5)]) twoLowP0 (f0_ok hL (by omega))
    have ht : tm (env s f (l) n) [padd vL (plit 5)] = [l + 5] := by
      show [pev _ (padd vL (plit 5))] = _
      rw [pev_padd, hq, pev_lit]
    rw [ht, two_ev, hq] at hy
    obtain ⟨u, v, e1, e2⟩ := isV_ok (s := s) (f := f) (m := l) (n := n) hf
    rw [pOne, pev_lit] at e2
    rw [e1] at hy
    exact ⟨u, v, hy, e2⟩
theorem twoLowI1 {s f l n : Int} (hL : Let s f n) (hl : Small l) : ∃ a b, lowG intN (progTwoI l) [0, 1] 1 [l + 5] = some (.val a b) ∧ a * 1 = 12 * b := by
  obtain ⟨l1, l2⟩ := hl
  rcases Int.lt_trichotomy l 0 with h | h | h
  · have E := env_ok (m := -l) hL (by omega) (by omega)
    have hq : pev (env s f (-l) n) (pneg vL) = l := by rw [pNL]; omega
    obtain ⟨F', a, hF', hf, hy⟩ := runs_ok (sim_low E (progTwo (pneg vL)) [0, 1] 1 [padd (pneg vL) (plit 5)]) twoLowN1 (f0_ok hL (by omega))
    have ht : tm (env s f (-l) n) [padd (pneg vL) (plit 5)] = [l + 5] := by
      show [pev _ (padd (pneg vL) (plit 5))] = _
      rw [pev_padd, hq, pev_lit]
    rw [ht, two_ev, hq] at hy
    obtain ⟨u, v, e1, e2⟩ := isV_ok (s := s) (f := f) (m := -l) (n := n) hf
    rw [pOne, pev_lit] at e2
    rw [e1] at hy
    exact ⟨u, v, hy, e2⟩
  · have E := env_ok (m := 1) hL (by omega) (by omega)
    have hq : pev (env s f (1) n) [] = l := by rw [pNil]; omega
    obtain ⟨F', a, hF', hf, hy⟩ := runs_ok (sim_low E (progTwo []) [0, 1] 1 [padd [] (plit 5)]) twoLowZ1 (f0_ok hL (by omega))
    have ht : tm (env s f (1) n) [padd [] (plit 5)] = [l + 5] := by
      show [pev _ (padd [] (plit 5))] = _
      rw [pev_padd, hq, pev_lit]
    rw [ht, two_ev, hq] at hy
    obtain ⟨u, v, e1, e2⟩ := isV_ok (s := s) (f := f) (m := 1) (n := n) hf
    rw [pOne, pev_lit] at e2
    rw [e1] at hy
    exact ⟨u, v, hy, e2⟩
  · have E := env_ok (m := l) hL (by omega) (by omega)
    have hq : pev (env s f (l) n) vL = l := by rw [pL]
    obtain ⟨F', a, hF', hf, hy⟩ := runs_ok (sim_low E (progTwo vL) [0, 1] 1 [padd vL (plit 5)]) twoLowP1 (f0_ok hL (by omega))
    have ht : tm (env s f (l) n) [padd vL (plit 5)] = [l + 5] := by
      show [pev _ (padd vL (plit 5))] = _
      rw [pev_padd, hq, pev_lit]
    rw [ht, two_ev, hq] at hy
    obtain ⟨u, v, e1, e2⟩ := isV_ok (s := s) (f := f) (m := l) (n := n) hf
    rw [pOne, pev_lit] at e2
    rw [e1] at hy
    exact ⟨u, v, hy, e2⟩
theorem twoLowI2 {s f l n : Int} (hL : Let s f n) (hl : Small l) : ∃ a b, lowG intN (progTwoI l) [0, 1] 0 [l] = some (.val a b) ∧ a * 1 = 1 * b := by
  obtain ⟨l1, l2⟩ := hl
  rcases Int.lt_trichotomy l 0 with h | h | h
  · have E := env_ok (m := -l) hL (by omega) (by omega)
    have hq : pev (env s f (-l) n) (pneg vL) = l := by rw [pNL]; omega
    obtain ⟨F', a, hF', hf, hy⟩ := runs_ok (sim_low E (progTwo (pneg vL)) [0, 1] 0 [(pneg vL)]) twoLowN2 (f0_ok hL (by omega))
    have ht : tm (env s f (-l) n) [(pneg vL)] = [l] := by
      show [pev _ ((pneg vL))] = _
      rw [hq]
    rw [ht, two_ev, hq] at hy
    obtain ⟨u, v, e1, e2⟩ := isV_ok (s := s) (f := f) (m := -l) (n := n) hf
    rw [pOne, pev_lit] at e2
    rw [e1] at hy
    exact ⟨u, v, hy, e2⟩
  · have E := env_ok (m := 1) hL (by omega) (by omega)
    have hq : pev (env s f (1) n) [] = l := by rw [pNil]; omega
    obtain ⟨F', a, hF', hf, hy⟩ := runs_ok (sim_low E (progTwo []) [0, 1] 0 [[]]) twoLowZ2 (f0_ok hL (by omega))
    have ht : tm (env s f (1) n) [[]] = [l] := by
      show [pev _ ([])] = _
      rw [hq]
    rw [ht, two_ev, hq] at hy
    obtain ⟨u, v, e1, e2⟩ := isV_ok (s := s) (f := f) (m := 1) (n := n) hf
    rw [pOne, pev_lit] at e2
    rw [e1] at hy
    exact ⟨u, v, hy, e2⟩
  · have E := env_ok (m := l) hL (by omega) (by omega)
    have hq : pev (env s f (l) n) vL = l := by rw [pL]
    obtain ⟨F', a, hF', hf, hy⟩ := runs_ok (sim_low E (progTwo vL) [0, 1] 0 [vL]) twoLowP2 (f0_ok hL (by omega))
    have ht : tm (env s f (l) n) [vL] = [l] := by
      show [pev _ (vL)] = _
      rw [hq]
    rw [ht, two_ev, hq] at hy
    obtain ⟨u, v, e1, e2⟩ := isV_ok (s := s) (f := f) (m := l) (n := n) hf
    rw [pOne, pev_lit] at e2
    rw [e1] at hy
    exact ⟨u, v, hy, e2⟩
theorem twoLowI3 {s f l n : Int} (hL : Let s f n) (hl : Small l) : ∃ a b, lowG intN (progTwoI l) [0, 1] 1 [l - 1] = some (.val a b) ∧ a * 1 = 0 * b := by
  obtain ⟨l1, l2⟩ := hl
  rcases Int.lt_trichotomy l 0 with h | h | h
  · have E := env_ok (m := -l) hL (by omega) (by omega)
    have hq : pev (env s f (-l) n) (pneg vL) = l := by rw [pNL]; omega
    obtain ⟨F', a, hF', hf, hy⟩ := runs_ok (sim_low E (progTwo (pneg vL)) [0, 1] 1 [psub (pneg vL) one]) twoLowN3 (f0_ok hL (by omega))
    have ht : tm (env s f (-l) n) [psub (pneg vL) one] = [l - 1] := by
      show [pev _ (psub (pneg vL) one)] = _
      rw [pev_sub, hq, pOne]
    rw [ht, two_ev, hq] at hy
    obtain ⟨u, v, e1, e2⟩ := isV_ok (s := s) (f := f) (m := -l) (n := n) hf
    rw [pOne, pev_lit] at e2
    rw [e1] at hy
    exact ⟨u, v, hy, e2⟩
  · have E := env_ok (m := 1) hL (by omega) (by omega)
    have hq : pev (env s f (1) n) [] = l := by rw [pNil]; omega
    obtain ⟨F', a, hF', hf, hy⟩ := runs_ok (sim_low E (progTwo []) [0, 1] 1 [psub [] one]) twoLowZ3 (f0_ok hL (by omega))
    have ht : tm (env s f (1) n) [psub [] one] = [l - 1] := by
      show [pev _ (psub [] one)] = _
      rw [pev_sub, hq, pOne]
    rw [ht, two_ev, hq] at hy
    obtain ⟨u, v, e1, e2⟩ := isV_ok (s := s) (f := f) (m := 1) (n := n) hf
    rw [pOne, pev_lit] at e2
    rw [e1] at hy
    exact ⟨u, v, hy, e2⟩
  · have E := env_ok (m := l) hL (by omega) (by omega)
    have hq : pev (env s f (l) n) vL = l := by rw [pL]
    obtain ⟨F', a, hF', hf, hy⟩ := runs_ok (sim_low E (progTwo vL) [0, 1] 1 [psub vL one]) twoLowP3 (f0_ok hL (by omega))
    have ht : tm (env s f (l) n) [psub vL one] = [l - 1] := by
      show [pev _ (psub vL one)] = _
      rw [pev_sub, hq, pOne]
    rw [ht, two_ev, hq] at hy
    obtain ⟨u, v, e1, e2⟩ := isV_ok (s := s) (f := f) (m := l) (n := n) hf
    rw [pOne, pev_lit] at e2
    rw [e1] at hy
    exact ⟨u, v, hy, e2⟩
theorem isMin_ok {s f m n : Int} {F : List Poly} {o : Out Poly} (E : EnvOk (env s f m n)) (hF : Holds (env s f m n) F) (h : isMin vN vA vB F o = true) : ∃ a b, Out.ev (env s f m n) o = .val a b ∧ a * min s f = n * b := by
  unfold isMin at h
  cases h1 : isV vN vA F o with
  | true =>
    rw [h1] at h
    obtain ⟨a, b, e1, e2⟩ := isV_ok (s := s) (f := f) (m := m) (n := n) h1
    have h3 := prove_ok E hF h
    rw [pev_sub, pA, pB] at h3
    rw [pA, pN] at e2
    exact ⟨a, b, e1, by rw [Int.min_eq_left (by omega)]; exact e2⟩
  | false =>
    rw [h1] at h
    cases h2 : isV vN vB F o with
    | true =>
      have h4 : prove 2 F (psub vA vB) = true := by
        rw [h2] at h
        exact h
      obtain ⟨a, b, e1, e2⟩ := isV_ok (s := s) (f := f) (m := m) (n := n) h2
      have h3 := prove_ok E hF h4
      rw [pev_sub, pA, pB] at h3
      rw [pB, pN] at e2
      exact ⟨a, b, e1, by rw [Int.min_eq_right (by omega)]; exact e2⟩
    | false =>
      rw [h2] at h
      cases h
theorem bothLowI {s f l n : Int} (hL : Let s f n) (hl : Small l) : ∃ a b, lowG intN (progBothI s f l) [0, 1] 0 [l + n] = some (.val a b) ∧ a * min s f = n * b := by
  obtain ⟨l1, l2⟩ := hl
  rcases Int.lt_trichotomy l 0 with h | h | h
  · have E := env_ok (m := -l) hL (by omega) (by omega)
    have hq : pev (env s f (-l) n) (pneg vL) = l := by rw [pNL]; omega
    obtain ⟨F', a, hF', hf, hy⟩ := runs_ok (sim_low E (progBoth vA vB (pneg vL)) [0, 1] 0 [padd (pneg vL) vN]) bothLowN (f0_ok hL (by omega))
    have ht : tm (env s f (-l) n) [padd (pneg vL) vN] = [l + n] := by
      show [pev _ (padd (pneg vL) vN)] = _
      rw [pev_padd, hq, pN]
    rw [ht, both_ev, hq, pA, pB] at hy
    obtain ⟨u, v, e1, e2⟩ := isMin_ok E hF' hf
    rw [e1] at hy
    exact ⟨u, v, hy, e2⟩
  · have E := env_ok (m := 1) hL (by omega) (by omega)
    have hq : pev (env s f (1) n) [] = l := by rw [pNil]; omega
    obtain ⟨F', a, hF', hf, hy⟩ := runs_ok (sim_low E (progBoth vA vB []) [0, 1] 0 [padd [] vN]) bothLowZ (f0_ok hL (by omega))
    have ht : tm (env s f (1) n) [padd [] vN] = [l + n] := by
      show [pev _ (padd [] vN)] = _
      rw [pev_padd, hq, pN]
    rw [ht, both_ev, hq, pA, pB] at hy
    obtain ⟨u, v, e1, e2⟩ := isMin_ok E hF' hf
    rw [e1] at hy
    exact ⟨u, v, hy, e2⟩
  · have E := env_ok (m := l) hL (by omega) (by omega)
    have hq : pev (env s f (l) n) vL = l := by rw [pL]
    obtain ⟨F', a, hF', hf, hy⟩ := runs_ok (sim_low E (progBoth vA vB vL) [0, 1] 0 [padd vL vN]) bothLowP (f0_ok hL (by omega))
    have ht : tm (env s f (l) n) [padd vL vN] = [l + n] := by
      show [pev _ (padd vL vN)] = _
      rw [pev_padd, hq, pN]
    rw [ht, both_ev, hq, pA, pB] at hy
    obtain ⟨u, v, e1, e2⟩ := isMin_ok E hF' hf
    rw [e1] at hy
    exact ⟨u, v, hy, e2⟩
theorem besideDead0I {s f n : Int} (hL : Let s f n) : isDead intN [[1, 0, -s], [1, 0, 0], [0, 1, 0]] 2 = some false := by
  have E := env_ok (m := 1) hL (by decide) (by decide)
  obtain ⟨F', a, hF', hf, hy⟩ := runs_ok (sim_isDead E [[one, [], pneg vA], x3, y3] 2) besideDead0 (f0_ok hL (by decide))
  have hb : a = false := by
    cases a with
    | true => cases hf
    | false => rfl
  have ht : tt (env s f 1 n) [[one, [], pneg vA], x3, y3] = [[1, 0, -s], [1, 0, 0], [0, 1, 0]] := by
    show [[pev _ one, pev _ [], pev _ (pneg vA)], [pev _ one, pev _ [], pev _ []], [pev _ [], pev _ one, pev _ []]] = _
    rw [pOne, pev_neg, pA]
    rfl
  rw [hb, ht] at hy
  exact hy
theorem besideDead1I {s f n : Int} (hL : Let s f n) : isDead intN [[0, 1, -f], [1, 0, 0], [0, 1, 0]] 2 = some false := by
  have E := env_ok (m := 1) hL (by decide) (by decide)
  obtain ⟨F', a, hF', hf, hy⟩ := runs_ok (sim_isDead E [[[], one, pneg vB], x3, y3] 2) besideDead1 (f0_ok hL (by decide))
  have hb : a = false := by
    cases a with
    | true => cases hf
    | false => rfl
  have ht : tt (env s f 1 n) [[[], one, pneg vB], x3, y3] = [[0, 1, -f], [1, 0, 0], [0, 1, 0]] := by
    show [[pev _ [], pev _ one, pev _ (pneg vB)], [pev _ one, pev _ [], pev _ []], [pev _ [], pev _ one, pev _ []]] = _
    rw [pOne, pev_neg, pB]
    rfl
  rw [hb, ht] at hy
  exact hy
theorem besideBestI {s f n : Int} (hL : Let s f n) : bestG intN (progBesideI s f) [0, 1] = some [0, 1] := by
  have E := env_ok (m := 1) hL (by decide) (by decide)
  obtain ⟨F', a, hF', hf, hy⟩ := runs_ok (sim_best E (progBeside vA vB) [0, 1]) besideBest (f0_ok hL (by decide))
  have hb : a = [0, 1] := eq_of_beq hf
  rw [hb, beside_ev, pA, pB] at hy
  exact hy
theorem besideLowI {s f n : Int} (hL : Let s f n) : (0 ≤ n * f + 7 * n * s - s * f ∧ ∃ a b, lowG intN (progBesideI s f) [0, 1] 0 [n, 7 * n] = some (.val a b) ∧ a * (s * f) = (n * f + 7 * n * s - s * f) * b) ∨ (n * f + 7 * n * s - s * f < 0 ∧ lowG intN (progBesideI s f) [0, 1] 0 [n, 7 * n] = some .endless) := by
  have E := env_ok (m := 1) hL (by decide) (by decide)
  obtain ⟨F', a, hF', hf, hy⟩ := runs_ok (sim_low E (progBeside vA vB) [0, 1] 0 [vN, pmul (plit 7) vN]) besideLow (f0_ok hL (by decide))
  have ht : tm (env s f 1 n) [vN, pmul (plit 7) vN] = [n, 7 * n] := by
    show [pev _ vN, pev _ (pmul (plit 7) vN)] = _
    rw [pev_mul, pev_lit, pN]
  have htop : pev (env s f 1 n) topP = n * f + 7 * n * s - s * f := by
    unfold topP
    rw [pev_sub, pev_padd, pev_mul, pev_mul, pev_mul, pev_mul, pev_lit, pA, pB, pN]
  have hbot : pev (env s f 1 n) (pmul vA vB) = s * f := by rw [pev_mul, pA, pB]
  rw [ht, beside_ev, pA, pB] at hy
  cases a with
  | none => cases hf
  | endless =>
    have h3 : prove 2 F' (psub (pneg topP) one) = true := hf
    have h4 := prove_ok E hF' h3
    rw [pev_sub, pev_neg, htop, pOne] at h4
    exact .inr ⟨by omega, hy⟩
  | val a b =>
    have h2 : (match peq (pmul a (pmul vA vB)) (pmul topP b) with
      | true => prove 2 F' topP
      | false => false) = true := hf
    cases h5 : peq (pmul a (pmul vA vB)) (pmul topP b) with
    | false =>
      rw [h5] at h2
      cases h2
    | true =>
      rw [h5] at h2
      have h6 := congrArg (pev (env s f 1 n)) (peq_eq h5)
      rw [pev_mul, hbot, pev_mul, htop] at h6
      have h7 := prove_ok E hF' h2
      rw [htop] at h7
      exact .inl ⟨h7, _, _, hy, h6⟩
end FR
end

section
set_option Elab.async false
set_option linter.all false
set_option maxRecDepth 100000
set_option maxHeartbeats 4000000
/-! W0: rules that the hand layer lacks: xs[i] op= e of a list, enumerate of a tuple, len of an own class with slots, a call by keywords alone. -/
namespace Gap
open PySem PySem.Spec PyProof.Rows L2
section
variable {X : Cx}
/-! ### xs[i], by values, 0 ≤ i -/
def gIxL (K : PySem.W.Frag) : V → V → Hp → VK → Prop := fun x y H Q => ∃ p xs i v, x = .ref p ∧ y = .int (Int.ofNat i) ∧ SqL K H p xs ∧ xs[i]? = some v ∧ Q v H
theorem get_list : PGet X (gIxL X.K) := by
  intro pins s σ H o i ov iv Q I ro ri h
  obtain ⟨p, xs, k, z, rfl, rfl, hq, he, q⟩ := h
  cases ro
  obtain ⟨t, rfl⟩ := ri
  obtain ⟨its, r, pl, hz⟩ := I.list hq
  obtain ⟨w, ew, rw'⟩ := r.get he
  have hl := r.length
  have hn := line63
  have hk : k < xs.length := (List.getElem?_eq_some_iff.mp he).1
  exact wpAny_getItem_list pl.isList (Int.natCast_nonneg k) (by show (k : Int) < 2 ^ 63; omega) (by show its.toArray[(Int.ofNat k).toNat]? = some w; simpa using ew) ⟨z, H, I, rw', q⟩
/-! ### enumerate(tuple) -/
def Itet (K : PySem.W.Frag) (a : Addr) : It :=
  ⟨fun i H => ∃ (xs : List V) (x : V), SqT K H a xs ∧ xs[i]? = some x, fun i H v H' => ∃ T x, v = .ref T ∧ H T = none ∧ H' = upd H T (.tup [.int (i : Nat), x]) ∧ ∀ xs, SqT K H a xs → xs[i]? = some x, fun i H => ∃ xs : List V, SqT K H a xs ∧ xs.length = i⟩
theorem isTup_of {h : Heap} {a : Addr} {its : Array Value} (p : IsTup h a its) : h.IsTuple a its := p
theorem turn_enumT {P : Program} {w : World} {K : PySem.W.Frag} {elts : List Expr} {kk : Nat} {tpos : Pos} (a e it : Addr) :
    Turn P w K (.Tuple elts kk tpos) (Itet K a) [e, it] e (fun i h => (∃ old, IsEnum h e it ((i : Nat) : Int) old) ∧ h.IsTupleIter it a i ∧ e ≠ it ∧ a ≠ it ∧ e ≠ a) where
  mem := by simp
  obj := fun i h st b hb => by
    obtain ⟨⟨old, he⟩, ⟨o, ho, hc, hd⟩, _⟩ := st
    have e' : b = e ∨ b = it := by simpa using hb
    rcases e' with z | z
    · rw [z]; exact ⟨_, he, fun v q => nomatch q⟩
    · rw [z]; exact ⟨o, ho, fun v q => by rw [hd] at q; cases q⟩
  keep := fun i h h' st k => let ⟨⟨old, he⟩, hi, hne⟩ := st; ⟨⟨old, k e (by simp) _ he⟩, hi.at fun o q => k it (by simp) o q, hne⟩
  item := by
    intro X hP hw hK hc i pins s σ H E I hf st hg
    subst hP hw hK
    obtain ⟨⟨old, he⟩, hit, hne, hai, hea⟩ := st
    obtain ⟨xs, x, hq, hx⟩ := hg
    obtain ⟨its, rv, p, hz⟩ := I.tuple hq
    obtain ⟨u, hu, ru⟩ := rv.get hx
    have hel : e < s.heap.objs.size := Heap.lt_size he
    have hil : it < s.heap.objs.size := by obtain ⟨_, q, _⟩ := hit; exact Heap.lt_size q
    have hlt : i < its.toArray.size := by
      rw [List.size_toArray]
      exact (List.getElem?_eq_some_iff.mp hu).1
    refine wpAny_pyNext_enum_itemD (Draws.tuple (A := X.A.in1) (I.ok.hd hc) it a hai its.toArray) he ⟨hit, isTup_of p⟩ hlt hne (by
      intro z
      have z' : e = it ∨ e = a := by simpa using z
      rcases z' with z' | z'
      · exact hne z'
      · exact hea z') fun x' h' tk hP ho hit' hT hsz hk => ?_
    have ex : x' = u := by
      have e1 : its.toArray[i]? = some u := by simpa using hu
      exact Option.some.inj (hP.symm.trans e1)
    subst ex
    refine ⟨_, rfl, wpAny_letOwnedTupleGo_enum (s := { s with heap := h', toks := tk + 1 }) ho fun h'' he' sb => ?_⟩
    have hT2 : h''.get? s.heap.objs.size = some { cls := .type "tuple", data := .seq #[.int i tk, x'] } := (sb.2 _ (Nat.ne_of_gt hel)).trans hT
    have new : ObjOk X.prog X.w (upd H s.heap.objs.size (.tup [.int (i : Nat), x])) h'' s.heap.objs.size (.tup [.int (i : Nat), x]) :=
      ⟨by show 2 ≤ sizeLine; decide, [.int i tk, x'], .cons ⟨_, rfl⟩ (.cons ru .nil), ⟨_, hT2, rfl, _, rfl⟩⟩
    have I1 : Inv X pins σ (upd H s.heap.objs.size (.tup [.int (i : Nat), x])) { s with heap := h'', toks := tk + 1 } :=
      I.turnedNew (ch := [e, it]) (fun b ob hb q => (sb.2 b (fun z => hb (by simp [z]))).trans (hk b ob (fun z => hb (by simp [z])) (fun z => hb (by simp [z])) q)) hf (Nat.le_refl _) new
    refine ⟨.ref s.heap.objs.size, _, I1, rfl, ⟨_, x, rfl, I.hok.fresh (Nat.le_refl _), rfl, fun ys hy => by rw [I.tuple_inj hy hq]; exact hx⟩, ⟨⟨x', ?_⟩, hit'.1.at fun o q => (sb.2 it (Ne.symm hne)).trans q, hne, hai, hea⟩, fun b hb => ?_⟩
    · have e1 : ((i + 1 : Nat) : Int) = (i : Int) + 1 := by omega
      rw [e1]; exact he'
    · have hb' : b < s.heap.objs.size := by
        have e' : b = e ∨ b = it := by simpa using hb
        rcases e' with z | z
        · rw [z]; exact hel
        · rw [z]; exact hil
      rw [upd_ne (Nat.ne_of_lt hb')]
      exact (hf b hb).1
  done := by
    intro X hP hw hK hc i pins s σ H E I hf st hg
    subst hP hw hK
    obtain ⟨⟨old, he⟩, hit, hne, hai, hea⟩ := st
    obtain ⟨xs, hq, hx⟩ := hg
    obtain ⟨its, rv, p, hz⟩ := I.tuple hq
    obtain ⟨f0, f1, f2, f3, f4, f5⟩ := hf it (by simp)
    have hl := rv.length
    have hi : i = its.toArray.size := by
      rw [List.size_toArray]
      omega
    subst hi
    exact wpAny_pyNext_enum_endD (Draws.tuple (A := X.A.in1) (I.ok.hd hc) it a hai its.toArray) he ⟨hit, isTup_of p⟩ fun h' eb => ⟨rfl, I.turned (t' := s.toks) (fun b o hb q => eb b o hb q) f0 f1 f3 f4 f5⟩
  self := fun A i s Q E st h => let ⟨⟨_, he⟩, _⟩ := st; wpAny_pyIter_enum he h
def iEnumT (K : PySem.W.Frag) (ta : TA) : TI := fun σ H R => ta σ H fun vs H1 => ∃ a xs, vs = [.ref a] ∧ SqT K H1 a xs ∧ R (Itet K a) H1
theorem meets_enum1 {v : Value} {o : Obj} {H : Heap → Prop} (B : Begins v o H) :
    Meets (Builtin.«enumerate.__new__» ⟨[.type "enumerate", v], []⟩) (fun _ R s => H s.heap ∧
      R (.ok (.ret (.ref (s.heap.push o).objs.size))) { s with heap := (s.heap.push o).push { cls := .type "enumerate", data := .fields #[.none, .bool false, .ref s.heap.objs.size, rawInt 0, .none, .none] } }) :=
  .of_wp fun prog w A R s h => by
    obtain ⟨hp, g, d, tk, os⟩ := s; obtain ⟨h1, h⟩ := h
    have hsub := sub_enumerate
    have q1 : ∀ {A' : Around} {E : Value → Shared → Prop} {Q : Value → Shared → Prop}, Q (.ref hp.objs.size) ⟨hp.push o, g, d, tk, os⟩ → wpAny (model prog w) A' (pyIter v) Q E ⟨hp, g, d, tk, os⟩ :=
      fun q => B.iter prog w _ _ ⟨hp, g, d, tk, os⟩ _ h1 q
    wp_walk using q1
    refine wpAny_stack_any fun st => wpAny_pure ?_
    split
    · rename_i c _ _ _ _ _
      cases (c == Value.type "enumerate")
      · wp_walk using q1
        exact ⟨_, rfl, h⟩
      · wp_walk using q1
        exact ⟨_, rfl, h⟩
    · wp_walk using q1
      exact ⟨_, rfl, h⟩
theorem call_enumerate_tuple {prog : Program} {w : World} {A : Around} {E : Value → Shared → Prop} {s : Shared} {l : Addr} {items : Array Value} {Q : Value → Shared → Prop} (hL : s.heap.IsTuple l items)
    (h : ∀ h', IsEnum h' (s.heap.objs.size + 1) s.heap.objs.size 0 .none → h'.IsTupleIter s.heap.objs.size l 0 → h'.objs.size = s.heap.objs.size + 2 →
      (∀ b o, s.heap.get? b = some o → h'.get? b = some o) → Q (.ref (s.heap.objs.size + 1)) { s with heap := h' }) :
    wpAny (model prog w) A (call (.type "enumerate") [.ref l]) Q E s := by
  refine callType_new F.called_enumerate (by decide) (F.typeCall_enumerate_1 _) (F.newCall_enumerate_1 _) (fun obj => F.args_object_init_2 obj _) F.entry_enumerate_new
    (meets_enum1 (begins_tuple l items)) ⟨hL, ?_⟩
  have hz : (s.heap.push { cls := .type "tuple_iterator", data := .fields #[.ref l, .int 0 0] }).objs.size = s.heap.objs.size + 1 := Heap.size_push ..
  show _ ∧ _
  rw [hz]
  have he : IsEnum ((s.heap.push { cls := .type "tuple_iterator", data := .fields #[.ref l, .int 0 0] }).push
      { cls := .type "enumerate", data := .fields #[.none, .bool false, .ref s.heap.objs.size, rawInt 0, .none, .none] }) (s.heap.objs.size + 1) s.heap.objs.size 0 .none := by
    have := Heap.get?_push_size (s.heap.push { cls := .type "tuple_iterator", data := .fields #[.ref l, .int 0 0] })
      (o := { cls := .type "enumerate", data := .fields #[.none, .bool false, .ref s.heap.objs.size, rawInt 0, .none, .none] }) rfl
    rw [hz] at this; exact this
  refine ⟨⟨_, he, rfl⟩, h _ he ⟨_, Heap.get?_push_of_some _ (Heap.get?_push_size _ rfl), rfl, rfl⟩ (by rw [Heap.size_push, hz]) fun b o x => Heap.get?_push_of_some _ (Heap.get?_push_of_some _ x)⟩
theorem pi_enumT {e : Expr} {ta : TA} {p pos tpos : Pos} {elts : List Expr} {kk : Nat} (hg : Gl X "enumerate") (hm : X.mg "enumerate" = none) (ha : PA X [e] ta) (hs : starEach [e] X.env = [(false, eval e X.env)] := by rfl) :
    PI X (.Tuple elts kk tpos) (.Call (.Name "enumerate" p) [e] [] pos) (iEnumT X.K ta) := by
  refine ⟨fun pins s σ H R I h => ?_⟩
  refine Call_ (ld_blt I hg hm boot_enumerate (PyProof.Rows.callWith_type1 (thn (ha.run pos pins s σ H _ I h) fun us s1 ⟨vs, H1, I1, r1, q1⟩ => ?_) hs rfl))
  obtain ⟨a, xs, ex, hq, q⟩ := q1
  subst ex
  cases r1 with
  | cons r rr =>
    cases rr
    cases r
    obtain ⟨its, rv, p', hz⟩ := I1.tuple hq
    have hal : a < s1.heap.objs.size := by
      obtain ⟨_, q', _⟩ := id p'
      exact Heap.lt_size q'
    refine call_enumerate_tuple (isTup_of p') fun h' he hit hsz hk => wpAny_pyIter_enum he ?_
    have I2 : Inv X pins σ H1 { s1 with heap := h' } := I1.kept (t' := s1.toks) hk
    refine ⟨s1.heap.objs.size + 1, [s1.heap.objs.size + 1, s1.heap.objs.size], _, _, H1, rfl, I2, turn_enumT a (s1.heap.objs.size + 1) s1.heap.objs.size, ⟨⟨.none, he⟩, hit, Nat.succ_ne_self _, Nat.ne_of_lt hal, Nat.ne_of_gt (Nat.lt_succ_of_lt hal)⟩, fun b hb => ?_, q⟩
    have e' : b = s1.heap.objs.size + 1 ∨ b = s1.heap.objs.size := by simpa using hb
    have hle : s1.heap.objs.size ≤ b := by
      rcases e' with z | z
      · rw [z]; exact Nat.le_add_right _ _
      · rw [z]; exact Nat.le_refl _
    exact I1.fpOk hle (I1.hok.fresh hle)
/-! ### len(x), x an instance with slots of a class with an own __len__ -/
open SlX in
def rLenOwn (C : Addr) (sp : Sp) (E : XK) : List V → Hp → VK → Prop := fun xs H Q => ∃ a dx vs, xs = [V.ref a] ∧ SlX.Slt H a C dx vs ∧ sp [.ref a] H (fun z H' => ∃ i : Int, z = .int i ∧ 0 ≤ i ∧ i < 2 ^ 63 ∧ Q z H') E
open SlX in
theorem call_lenOwn {CX : CXT} {C g : Addr} {n : Nat} {sp : Sp} {E : XK} (hs : PySem.W.findIn X.K (.ref C) "__len__" = some (some (.ref g))) (hf : PySem.W.isFn X.K (.ref g) = true) (F : FnR X.prog X.w X.K X.mg X.base CX n g sp) (hr : Room (n + 1) X.A) (hx : Passes CX X E) : CallR X (.builtin "len") (rLenOwn C sp E) := by
  intro pins s σ H xs us Q I r h
  obtain ⟨a, dx, vs, rfl, hsl, q⟩ := h
  obtain ⟨u, rfl, ru⟩ := r.one
  cases (show u = Value.ref a from ru)
  obtain ⟨sl, od, _, J, _⟩ := slt_inst I hsl
  obtain ⟨m, hF⟩ := I.fr
  have hr2 : Room n X.A.in1 := Room.in1 hr
  refine PySem.W.len_K hF I.ok.mod.kin J hs hf (wpAny_mono (wpAny_call (run_at (us := [.ref a]) (ws := [.ref a]) F hr2 I.env0.in1 hx I (.cons rfl .nil) q)) (fun w s' z => ?_) fun _ _ x => x)
  obtain ⟨z', H', I', rz, i, ei, h0, h1, qz⟩ := z
  subst ei
  obtain ⟨t, e⟩ := (show ∃ t, w = Value.int i t from rz)
  cases e
  exact ⟨⟨h0, h1⟩, .int i, H', I'.tok _, ⟨_, rfl⟩, qz⟩
/-! ### f(k = v, ..) -/
def tCallKw (sp : Sp) (gV : List V → List V → List V) (E : XK) (tk : TA) : TE := fun σ H Q => tk σ H fun zs H2 => sp (gV [] zs) H2 Q E
theorem pe_callKw {x : Str} {p pos : Pos} {kws : List Keyword} {CX : CXT} {k : Nat} {f : Addr} {fd : FuncData} {ps ks : List Str} {sp : Sp} {E : XK} {tk : TA} {g : List Value → List Value → List Value} {gV : List V → List V → List V}
    (F : FnOk X.prog X.w X.K X.mg X.base CX k f fd ps sp) (hr : Room k X.A) (hg : Gl X x) (hm : X.mg x = some (.ref f)) (hk : PySem.W.keepIn X.K (.ref f) = true) (hb : KBinds X.K fd ps ks g gV) (hx : Passes CX X E)
    (hkw : PK X kws tk) (hall : (backToKw pos (keywordEach kws X.env)).all (·.1.isSome) = true := by rfl) (hks : (backToKw pos (keywordEach kws X.env)).filterMap (·.1) = ks := by rfl)
    (hdb : (x == ("__debug__" : Str)) = false := by decide)
    (hpl : ((backTo pos (starEach [] X.env)).any (·.1) || (backToKw pos (keywordEach kws X.env)).any (·.1.isNone)) = false := by rfl) :
    PE X (.Call (.Name x p) [] kws pos) (tCallKw sp gV E tk) := by
  refine ⟨fun pins s σ H Q I h => ?_⟩
  refine wpAny_Call_Name_kw (ld_glob I hg hm ?_ hdb)
  refine PySem.W.callWith_KW0 (h₀ := X.base) I.ok.mod.kin hk hall (thn (hkw.run pos pins s σ H _ I h) fun ws s2 ⟨zs, H2, I2, rz, q2⟩ => ⟨I2.kIn, ?_⟩) hpl
  rw [hks]
  exact run_fnk F hr hb hx I2 .nil rz q2
end
end Gap
end

section
set_option Elab.async false
set_option linter.all false
set_option maxRecDepth 100000
set_option maxHeartbeats 4000000
/-! W1: what a reading evaluates to: values by a property, walks, comprehensions, loops. -/
namespace Ew
open PySem PySem.Spec PyProof.Rows L2 Evl
abbrev Fg := PySem.W.Frag
/-- evaluates to some value with a property -/
def EvP (te : TE) (σ : L2.St) (H : Hp) (P : V → Hp → Prop) : Prop := ∀ H1, Ex H H1 → ∀ Q : VK, (∀ v H2, Ex H1 H2 → P v H2 → Q v H2) → te σ H1 Q
/-- a list made on the way, its n items by a property -/
def EvLP (te : TE) (σ : L2.St) (H : Hp) (n : Nat) (P : Nat → V → Hp → Prop) : Prop := ∀ H1, Ex H H1 → ∀ Q : VK, (∀ p ws H2, H1 p = none → Ex H1 H2 → H2 p = some (.lst ws) → ws.length = n → (∀ i (h : i < n), ∃ w, ws[i]? = some w ∧ P i w H2) → Q (.ref p) H2) → te σ H1 Q
def Mono (P : V → Hp → Prop) : Prop := ∀ v H H', Ex H H' → P v H → P v H'
section
variable {K : Fg} {σ : L2.St} {H H' : Hp} {ta tb te tx : TE} {t u : TT} {x y z v : V} {r : R2} {D : Ends} {tu tw tz : TS}
theorem EvP.mono {P : V → Hp → Prop} (e : Ex H H') (h : EvP te σ H P) : EvP te σ H' P := fun H1 a Q q => h H1 (e.trans a) Q q
theorem EvU.mono {xs : List V} (e : Ex H H') (h : EvU te σ H xs) : EvU te σ H' xs := fun H1 a Q q => h H1 (e.trans a) Q q
theorem EvO.mono {to : TO} {o : Option Int} (e : Ex H H') (h : EvO to σ H o) : EvO to σ H' o := fun H1 a Q q => h H1 (e.trans a) Q q
theorem EvLP.mono {n : Nat} {P : Nat → V → Hp → Prop} (e : Ex H H') (h : EvLP te σ H n P) : EvLP te σ H' n P := fun H1 a Q q => h H1 (e.trans a) Q q
theorem evP (h : Ev te σ H v) : EvP te σ H (fun w _ => w = v) := fun H1 e Q q => h H1 e Q fun H2 e2 => q v H2 e2 rfl
/-! ### walks -/
def EvI (wi : TI) (σ : L2.St) (H : Hp) (n : Nat) (Y : Nat → Hp → V → Hp → Prop) : Prop := ∀ H1, Ex H H1 → ∀ R : It → Hp → Prop, (∀ J H2, Ex H1 H2 → Walk J n (Ex H2) Y → R J H2) → wi σ H1 R
theorem EvI.mono {wi : TI} {n : Nat} {Y : Nat → Hp → V → Hp → Prop} (e : Ex H H') (h : EvI wi σ H n Y) : EvI wi σ H' n Y := fun H1 a R q => h H1 (e.trans a) R q
def YP2 (f g : Nat → V) : Nat → Hp → V → Hp → Prop := fun i H v H' => ∃ T, v = .ref T ∧ H T = none ∧ H' = upd H T (.tup [f i, g i])
def atV (xs : List V) (i : Nat) : V := xs.getD i .non
theorem atV_of {xs : List V} {i : Nat} {x : V} (h : xs[i]? = some x) : atV xs i = x := by
  unfold atV
  rw [List.getD_eq_getElem?_getD, h]
  rfl
theorem atV_some {xs : List V} {i : Nat} (h : i < xs.length) : xs[i]? = some (atV xs i) := by
  unfold atV
  rw [List.getD_eq_getElem?_getD, List.getElem?_eq_getElem h]
  rfl
theorem ei_range {ta : TA} {n : Int} (m : Nat) (h : EvA ta σ H [.int n]) (hn : n = (m : Int)) (hm : m ≤ 100000) : EvI (iRng1 ta) σ H m (YFn fun i => .int (i : Int)) := fun H1 e R q =>
  h H1 e _ fun H2 e2 => ⟨n, rfl, by omega, by omega, q _ H2 e2 (by
    have e0 : n.toNat = m := by omega
    rw [e0]
    exact walk_range.mono (fun _ _ => trivial) fun i H x H' _ _ y => ⟨y.1, y.2.trans (congrArg V.int (Int.zero_add _))⟩)⟩
theorem ei_list {tl : TE} {a : Addr} {xs : List V} (h : Ev tl σ H (.ref a)) (hx : H a = some (.lst xs)) : EvI (iList K tl) σ H xs.length (YFn (atV xs)) := fun H1 e R q =>
  h H1 e _ fun H2 e2 => ⟨a, rfl, ⟨xs, sq_of (e2 a _ (e a _ hx))⟩, q _ H2 e2 (walk_list.mono (fun H3 e3 => sq_of (e3 a _ (e2 a _ (e a _ hx)))) fun i H x H' _ _ y => ⟨y.1, (atV_of y.2).symm⟩)⟩
theorem ei_listN {tl : TE} {xs : List V} (h : EvL tl σ H xs) : EvI (iList K tl) σ H xs.length (YFn (atV xs)) := fun H1 e R q =>
  h H1 e _ fun a H2 _ e2 hx => ⟨a, rfl, ⟨xs, sq_of hx⟩, q _ H2 e2 (walk_list.mono (fun H3 e3 => sq_of (e3 a _ hx)) fun i H x H' _ _ y => ⟨y.1, (atV_of y.2).symm⟩)⟩
theorem ei_tup {tl : TE} {a : Addr} {xs : List V} (h : Ev tl σ H (.ref a)) (hx : H a = some (.tup xs)) : EvI (iTup K tl) σ H xs.length (YFn (atV xs)) := fun H1 e R q =>
  h H1 e _ fun H2 e2 => ⟨a, rfl, ⟨xs, st_of (e2 a _ (e a _ hx))⟩, q _ H2 e2 (walk_tup.mono (fun H3 e3 => st_of (e3 a _ (e2 a _ (e a _ hx)))) fun i H x H' _ _ y => ⟨y.1, (atV_of y.2).symm⟩)⟩
theorem ei_tupN {tl : TE} {xs : List V} (h : EvU tl σ H xs) : EvI (iTup K tl) σ H xs.length (YFn (atV xs)) := fun H1 e R q =>
  h H1 e _ fun a H2 _ e2 hx => ⟨a, rfl, ⟨xs, st_of hx⟩, q _ H2 e2 (walk_tup.mono (fun H3 e3 => st_of (e3 a _ hx)) fun i H x H' _ _ y => ⟨y.1, (atV_of y.2).symm⟩)⟩
theorem ei_enum {ta : TA} {a : Addr} {xs : List V} (h : EvA ta σ H [.ref a]) (hx : H a = some (.lst xs)) : EvI (iEnum K ta) σ H xs.length (YP2 (fun i => .int (i : Int)) (atV xs)) := fun H1 e R q =>
  h H1 e _ fun H2 e2 => ⟨a, xs, rfl, sq_of (e2 a _ (e a _ hx)), q _ H2 e2 (walk_enum.mono (fun H3 e3 => sq_of (e3 a _ (e2 a _ (e a _ hx)))) fun i H x H' _ _ y => by
    obtain ⟨T, x1, x2, h1, h2, h3, h4, h5⟩ := y
    exact ⟨T, h1, h2, by rw [h3, ← Option.some.inj h4, atV_of h5]⟩)⟩
theorem walk_enumT {a : Addr} {xs : List V} : Walk (Gap.Itet K a) xs.length (fun H => SqT K H a xs) (YPair (fun i => some (.int (i : Nat))) (fun i => xs[i]?)) := by
  refine ⟨fun i _ hi q => ⟨xs, xs[i], q, by simp [hi]⟩, fun _ q => ⟨xs, q, rfl⟩, fun i H v H' _ q y => ?_⟩
  obtain ⟨T, x, h1, h2, h3, h4⟩ := y
  exact ⟨T, .int (i : Nat), x, h1, h2, h3, rfl, h4 xs q⟩
theorem ei_enumT {ta : TA} {a : Addr} {xs : List V} (h : EvA ta σ H [.ref a]) (hx : H a = some (.tup xs)) : EvI (Gap.iEnumT K ta) σ H xs.length (YP2 (fun i => .int (i : Int)) (atV xs)) := fun H1 e R q =>
  h H1 e _ fun H2 e2 => ⟨a, xs, rfl, st_of (e2 a _ (e a _ hx)), q _ H2 e2 (walk_enumT.mono (fun H3 e3 => st_of (e3 a _ (e2 a _ (e a _ hx)))) fun i H x H' _ _ y => by
    obtain ⟨T, x1, x2, h1, h2, h3, h4, h5⟩ := y
    exact ⟨T, h1, h2, by rw [h3, ← Option.some.inj h4, atV_of h5]⟩)⟩
theorem ei_str {z : Str} (h : Ev te σ H (.str z)) : EvI (iStr te) σ H z.cps.size (YFn fun i => .str ⟨#[z.cps.getD i 0]⟩) := fun H1 e R q =>
  h H1 e _ fun H2 e2 => ⟨z, rfl, q _ H2 e2 (walk_str.mono (fun _ _ => trivial) fun i H x H' hi _ y => by
    obtain ⟨h1, c, h2, h3⟩ := y
    refine ⟨h1, ?_⟩
    rw [h3]
    obtain ⟨h4, h5⟩ := Array.getElem?_eq_some_iff.mp h2
    have h6 : z.cps.getD i 0 = c := by
      unfold Array.getD
      rw [dif_pos h4]
      exact h5
    show V.str ⟨#[c]⟩ = V.str ⟨#[z.cps.getD i 0]⟩
    rw [h6])⟩
/-! ### targets: what the slots are behind the i-th item -/
def TgOk (Y : Nat → Hp → V → Hp → Prop) (g : TG) (σ0 : L2.St) (n : Nat) (H : Hp) (τ : Nat → L2.St) : Prop :=
  ∀ i x H1 H2, i < n → Ex H H1 → Y i H1 x H2 → ∀ R : L2.St → Hp → Prop, (∀ H3, Ex H1 H3 → R (τ i) H3) → g x σ0 H2 R
theorem tg_name {n j : Nat} {f : Nat → V} : TgOk (YFn f) (gName j) σ n H (fun i => σ.set j (some (f i))) := fun i x H1 H2 _ _ y R q => by
  obtain ⟨rfl, rfl⟩ := y
  exact q H2 (Ex.refl H2)
theorem tg_pair {n j k : Nat} {f g : Nat → V} : TgOk (YP2 f g) (gTup K 2 (gCons (gName j) (gCons (gName k) gNil))) σ n H (fun i => (σ.set j (some (f i))).set k (some (g i))) := fun i x H1 H2 _ _ y R q => by
  obtain ⟨T, rfl, nT, rfl⟩ := y
  exact ⟨T, _, rfl, st_of upd_same, rfl, _, _, rfl, _, _, rfl, rfl, q _ (Ex.new nT)⟩
/-- an item that is a pair which stands -/
theorem tg_two {n j k : Nat} {f : Nat → V} {a b : Nat → V} (h : ∀ i, i < n → ∃ p, f i = .ref p ∧ H p = some (.tup [a i, b i])) : TgOk (YFn f) (gTup K 2 (gCons (gName j) (gCons (gName k) gNil))) σ n H (fun i => (σ.set j (some (a i))).set k (some (b i))) := fun i x H1 H2 hi e y R q => by
  obtain ⟨rfl, rfl⟩ := y
  obtain ⟨p, e1, e2⟩ := h i hi
  exact ⟨p, _, e1, st_of (e p _ e2), rfl, _, _, rfl, _, _, rfl, rfl, q _ (Ex.refl _)⟩
/-! ### comprehensions -/
/-- a new object -/
def EvN (te : TE) (σ : L2.St) (H : Hp) (o : HO) : Prop := ∀ H1, Ex H H1 → ∀ Q : VK, (∀ p H2, H1 p = none → Ex H1 H2 → H2 p = some o → Q (.ref p) H2) → te σ H1 Q
theorem evN_L {xs : List V} (h : EvL te σ H xs) : EvN te σ H (.lst xs) := h
theorem evN_U {xs : List V} (h : EvU te σ H xs) : EvN te σ H (.tup xs) := h
/-- a new list of new objects -/
def EvLN (te : TE) (σ : L2.St) (H : Hp) (n : Nat) (o : Nat → HO) : Prop := ∀ H1, Ex H H1 → ∀ Q : VK, (∀ (p : Addr) (ps : List Addr) (H2 : Hp), H1 p = none → Ex H1 H2 → H2 p = some (.lst (ps.map V.ref)) → ps.length = n → (∀ i, i < n → ∃ q, ps[i]? = some q ∧ H1 q = none ∧ H2 q = some (o i)) → Q (.ref p) H2) → te σ H1 Q
theorem EvN.mono {o : HO} (e : Ex H H') (h : EvN te σ H o) : EvN te σ H' o := fun H1 a Q q => h H1 (e.trans a) Q q
theorem EvLN.mono {n : Nat} {o : Nat → HO} (e : Ex H H') (h : EvLN te σ H n o) : EvLN te σ H' n o := fun H1 a Q q => h H1 (e.trans a) Q q
theorem el_lcV {wi : TI} {g : TG} {vs : List Nat} {n : Nat} {Y : Nat → Hp → V → Hp → Prop} {τ : Nat → L2.St} (b : Nat → Bool) (f : Nat → V) (hI : EvI wi σ H n Y) (hn : n ≤ 40000) (hg : TgOk Y g (wipe σ vs) n H τ) (hw : ∀ i, wipe (τ i) vs = wipe σ vs)
    (ht : ∀ i H1, Ex H H1 → i < n → EvT t (τ i) H1 (b i)) (he : ∀ i H1, Ex H H1 → i < n → b i = true → Ev te (τ i) H1 (f i)) : EvL (tLc wi g t te vs) σ H (given n b f) := fun H0 e Q q =>
  hI H0 e _ fun J H2 e2 w Dl hD => by
    refine lc_it w (Cw H2 b f Dl) ⟨hD, Ex.new hD, upd_same⟩ (fun i H' _ p => p.2.1) (fun i x H3 H4 hi p y => ?_) fun H' p => q Dl H' (fresh_back e2 p.1) (e2.trans p.2.1) p.2.2
    have e3 : Ex H H3 := (e.trans e2).trans p.2.1
    refine hg i x H3 H4 hi e3 y _ fun H5 e5 => ⟨hw i, ?_⟩
    exact cw_turn (H := H2) (te := te) ⟨p.1, p.2.1.trans e5, e5 Dl _ p.2.2⟩ (by omega) (ht i H2 (e.trans e2) hi) (fun hb => he i H2 (e.trans e2) hi hb)
theorem given_all {n : Nat} {f : Nat → V} : given n (fun _ => true) f = (List.range n).map f := by
  unfold given
  rw [List.filter_eq_self.mpr (fun _ _ => rfl)]
theorem et_yes : EvT tYes σ H true := fun H1 _ _ q => q H1 (Ex.refl H1)
/-- each item's value -/
theorem el_map {wi : TI} {g : TG} {vs : List Nat} {n : Nat} {Y : Nat → Hp → V → Hp → Prop} {τ : Nat → L2.St} (f : Nat → V) (hI : EvI wi σ H n Y) (hn : n ≤ 40000) (hg : TgOk Y g (wipe σ vs) n H τ) (hw : ∀ i, wipe (τ i) vs = wipe σ vs)
    (he : ∀ i H1, Ex H H1 → i < n → Ev te (τ i) H1 (f i)) : EvL (tLc wi g tYes te vs) σ H ((List.range n).map f) := by
  rw [← given_all]
  exact el_lcV (fun _ => true) f hI hn hg hw (fun _ _ _ _ => et_yes) (fun i H1 e hi _ => he i H1 e hi)
/-- the state of a comprehension of new objects -/
def Cn (H : Hp) (o : Nat → HO) (Dl : Addr) (i : Nat) (H' : Hp) : Prop := H Dl = none ∧ Ex H H' ∧ ∃ ps : List Addr, H' Dl = some (.lst (ps.map V.ref)) ∧ ps.length = i ∧ ∀ k, k < i → ∃ q, ps[k]? = some q ∧ q ≠ Dl ∧ H q = none ∧ H' q = some (o k)
theorem el_new {wi : TI} {g : TG} {vs : List Nat} {n : Nat} {Y : Nat → Hp → V → Hp → Prop} {τ : Nat → L2.St} (o : Nat → HO) (hI : EvI wi σ H n Y) (hn : n ≤ 40000) (hg : TgOk Y g (wipe σ vs) n H τ) (hw : ∀ i, wipe (τ i) vs = wipe σ vs)
    (he : ∀ i H1, Ex H H1 → i < n → EvN te (τ i) H1 (o i)) : EvLN (tLc wi g tYes te vs) σ H n o := fun H0 e Q q =>
  hI H0 e _ fun J H2 e2 w Dl hD => by
    refine lc_it w (Cn H2 o Dl) ⟨hD, Ex.new hD, [], upd_same, rfl, fun k hk => absurd hk (Nat.not_lt_zero k)⟩ (fun i H' _ p => p.2.1) (fun i x H3 H4 hi p y => ?_) fun H' p => ?_
    · have e3 : Ex H H3 := (e.trans e2).trans p.2.1
      refine hg i x H3 H4 hi e3 y _ fun H5 e5 => ⟨hw i, ?_⟩
      obtain ⟨p1, p2, ps, h1, h2, h3⟩ := p
      show te (τ i) H5 _
      refine he i H5 (e3.trans e5) hi H5 (Ex.refl H5) _ fun a H6 ha e6 h6 => ?_
      have hDl : H6 Dl = some (.lst (ps.map V.ref)) := e6 Dl _ (e5 Dl _ h1)
      have naD : a ≠ Dl := fun z => by
        rw [z, e5 Dl _ h1] at ha
        cases ha
      have haH2 : H2 a = none := fresh_back (p2.trans e5) ha
      refine ⟨ps.map V.ref, hDl, sz_lt (by rw [List.length_map]; omega), p1, Ex.mut ((p2.trans e5).trans e6) p1, ps ++ [a], ?_, by rw [List.length_append, h2] <;> rfl, fun k hk => ?_⟩
      · rw [upd_same, List.map_append]
        rfl
      · rcases Nat.lt_or_ge k i with hki | hki
        · obtain ⟨q', q1, q2, q3, q4⟩ := h3 k hki
          refine ⟨q', ?_, q2, q3, ?_⟩
          · rw [List.getElem?_append_left (by omega)]
            exact q1
          · rw [upd_ne q2]
            exact e6 q' _ (e5 q' _ q4)
        · have ek : k = i := by omega
          subst ek
          refine ⟨a, ?_, naD, haH2, ?_⟩
          · rw [List.getElem?_append_right (by omega), h2, Nat.sub_self]
            rfl
          · rw [upd_ne naD]
            exact h6
    · obtain ⟨p1, p2, ps, h1, h2, h3⟩ := p
      exact q Dl ps H' (fresh_back e2 p1) (e2.trans p2) h1 h2 fun i hi => by
        obtain ⟨q', q1, q2, q3, q4⟩ := h3 i hi
        exact ⟨q', q1, fresh_back e2 q3, q4⟩
/-! ### for loops: the word Pv of the turn, the slots and the heap; G what the iterator needs -/
def EvW (wi : TI) (σ : L2.St) (H : Hp) (n : Nat) (G : Hp → Prop) (Y : Nat → Hp → V → Hp → Prop) : Prop := ∀ R : It → Hp → Prop, (∀ J H2, Ex H H2 → G H2 → Walk J n G Y → R J H2) → wi σ H R
theorem ew_range {ta : TA} {n : Int} (m : Nat) (h : EvA ta σ H [.int n]) (hn : n = (m : Int)) (hm : m ≤ 100000) : EvW (iRng1 ta) σ H m (fun _ => True) (YFn fun i => .int (i : Int)) := fun R q =>
  h H (Ex.refl H) _ fun H2 e2 => ⟨n, rfl, by omega, by omega, q _ H2 e2 trivial (by
    have e0 : n.toNat = m := by omega
    rw [e0]
    exact walk_range.mono (fun _ _ => trivial) fun i H x H' _ _ y => ⟨y.1, y.2.trans (congrArg V.int (Int.zero_add _))⟩)⟩
theorem ew_list {tl : TE} {a : Addr} {xs : List V} (h : Ev tl σ H (.ref a)) (hx : H a = some (.lst xs)) : EvW (iList K tl) σ H xs.length (fun H' => H' a = some (.lst xs)) (YFn (atV xs)) := fun R q =>
  h H (Ex.refl H) _ fun H2 e2 => ⟨a, rfl, ⟨xs, sq_of (e2 a _ hx)⟩, q _ H2 e2 (e2 a _ hx) (walk_list.mono (fun H3 e3 => sq_of e3) fun i H x H' _ _ y => ⟨y.1, (atV_of y.2).symm⟩)⟩
theorem ew_tup {tl : TE} {a : Addr} {xs : List V} (h : Ev tl σ H (.ref a)) (hx : H a = some (.tup xs)) : EvW (iTup K tl) σ H xs.length (fun H' => H' a = some (.tup xs)) (YFn (atV xs)) := fun R q =>
  h H (Ex.refl H) _ fun H2 e2 => ⟨a, rfl, ⟨xs, st_of (e2 a _ hx)⟩, q _ H2 e2 (e2 a _ hx) (walk_tup.mono (fun H3 e3 => st_of e3) fun i H x H' _ _ y => ⟨y.1, (atV_of y.2).symm⟩)⟩
theorem ew_enum {ta : TA} {a : Addr} {xs : List V} (h : EvA ta σ H [.ref a]) (hx : H a = some (.lst xs)) : EvW (iEnum K ta) σ H xs.length (fun H' => H' a = some (.lst xs)) (YP2 (fun i => .int (i : Int)) (atV xs)) := fun R q =>
  h H (Ex.refl H) _ fun H2 e2 => ⟨a, xs, rfl, sq_of (e2 a _ hx), q _ H2 e2 (e2 a _ hx) (walk_enum.mono (fun H3 e3 => sq_of e3) fun i H x H' _ _ y => by
    obtain ⟨T, x1, x2, h1, h2, h3, h4, h5⟩ := y
    exact ⟨T, h1, h2, by rw [h3, ← Option.some.inj h4, atV_of h5]⟩)⟩
theorem ew_enumT {ta : TA} {a : Addr} {xs : List V} (h : EvA ta σ H [.ref a]) (hx : H a = some (.tup xs)) : EvW (Gap.iEnumT K ta) σ H xs.length (fun H' => H' a = some (.tup xs)) (YP2 (fun i => .int (i : Int)) (atV xs)) := fun R q =>
  h H (Ex.refl H) _ fun H2 e2 => ⟨a, xs, rfl, st_of (e2 a _ hx), q _ H2 e2 (e2 a _ hx) (walk_enumT.mono (fun H3 e3 => st_of e3) fun i H x H' _ _ y => by
    obtain ⟨T, x1, x2, h1, h2, h3, h4, h5⟩ := y
    exact ⟨T, h1, h2, by rw [h3, ← Option.some.inj h4, atV_of h5]⟩)⟩
theorem s_for {wi : TI} {g : TG} {n : Nat} {G : Hp → Prop} {Y : Nat → Hp → V → Hp → Prop} (hI : EvW wi σ H n G Y) (Pv : Nat → L2.St → Hp → Prop) (h0 : ∀ H2, Ex H H2 → G H2 → Pv 0 σ H2) (hG : ∀ i σ' H', Pv i σ' H' → G H')
    (hs : ∀ i x σ' H1 H2, i < n → Pv i σ' H1 → Y i H1 x H2 → g x σ' H2 fun σ2 H3 => tu { D with nx := Pv (i + 1), ct := Pv (i + 1), bk := D.nx } σ2 H3) (hd : ∀ σ' H', Pv n σ' H' → D.nx σ' H') : tFor wi g tu D σ H :=
  hI _ fun J H2 e2 g2 w => for_it w Pv (h0 H2 e2 g2) (fun i σ' H' _ p => hG i σ' H' p) hs hd
theorem q_for {wi : TI} {g : TG} {n : Nat} {G : Hp → Prop} {Y : Nat → Hp → V → Hp → Prop} (hI : EvW wi σ H n G Y) (Pv : Nat → L2.St → Hp → Prop) (h0 : ∀ H2, Ex H H2 → G H2 → Pv 0 σ H2) (hG : ∀ i σ' H', Pv i σ' H' → G H')
    (hs : ∀ i x σ' H1 H2, i < n → Pv i σ' H1 → Y i H1 x H2 → g x σ' H2 fun σ2 H3 => tu { D with nx := Pv (i + 1), ct := Pv (i + 1), bk := tz D } σ2 H3) (hd : ∀ σ' H', Pv n σ' H' → tz D σ' H') : tSeq (tFor wi g tu) tz D σ H :=
  s_for (D := { D with nx := tz D }) hI Pv h0 hG hs hd
/-- the target of a turn -/
theorem y_name {j i : Nat} {f : Nat → V} {x : V} {H1 H2 : Hp} {R : L2.St → Hp → Prop} (y : YFn f i H1 x H2) (q : R (σ.set j (some (f i))) H1) : gName j x σ H2 R := by
  obtain ⟨rfl, rfl⟩ := y
  exact q
theorem y_pair {j k i : Nat} {f g : Nat → V} {x : V} {H1 H2 : Hp} {R : L2.St → Hp → Prop} (y : YP2 f g i H1 x H2) (q : ∀ H3, Ex H1 H3 → (∀ a o, H3 a = some o → H1 a = none → o = .tup [f i, g i]) → R ((σ.set j (some (f i))).set k (some (g i))) H3) :
    gTup K 2 (gCons (gName j) (gCons (gName k) gNil)) x σ H2 R := by
  obtain ⟨T, rfl, nT, rfl⟩ := y
  refine ⟨T, _, rfl, st_of upd_same, rfl, _, _, rfl, _, _, rfl, rfl, q _ (Ex.new nT) fun a o h1 h2 => ?_⟩
  by_cases e : a = T
  · rw [e, upd_same] at h1
    exact (Option.some.inj h1).symm
  · rw [upd_ne e, h2] at h1
    cases h1
/-! ### more values -/
theorem rv_mulW {i j : Int} (h : CMulW i j) : RV (rI CMulW fun i j => .int (i * j)) (.int i) (.int j) H (.int (i * j)) := fun H1 _ _ q => ⟨i, j, rfl, rfl, h, q H1 (Ex.refl H1)⟩
theorem rv_divW {i j : Int} (h : CDivW i j) : RV (rI CDivW fun i j => .int (i / j)) (.int i) (.int j) H (.int (i / j)) := fun H1 _ _ q => ⟨i, j, rfl, rfl, h, q H1 (Ex.refl H1)⟩
theorem ru_negI {i : Int} {g : Int → Int} : RU (rU fun i => .int (g i)) (.int i) H (.int (g i)) := fun H1 _ _ q => ⟨i, rfl, q H1 (Ex.refl H1)⟩
end
/-- all as before but at the places given -/
def del (H : Hp) (a : Addr) : Hp := fun b => if b = a then none else H b
theorem del_at {H : Hp} {a : Addr} : del H a a = none := by
  unfold del
  rw [if_pos rfl]
theorem del_ne {H : Hp} {a b : Addr} (h : b ≠ a) : del H a b = H b := by
  unfold del
  rw [if_neg h]
theorem del_some {H : Hp} {a b : Addr} {o : HO} (h : del H a b = some o) : b ≠ a ∧ H b = some o := by
  by_cases e : b = a
  · rw [e, del_at] at h
    cases h
  · rw [del_ne e] at h
    exact ⟨e, h⟩
theorem ex_del {H : Hp} {a : Addr} : Ex (del H a) H := fun b o h => (del_some h).2
theorem ex_del_upd {H : Hp} {a : Addr} {o : HO} : Ex (del H a) (upd H a o) := Ex.mut ex_del del_at
theorem Ex.del {H H' : Hp} {a : Addr} (e : Ex H H') : Ex (del H a) (del H' a) := fun b o h => by
  obtain ⟨h1, h2⟩ := del_some h
  rw [del_ne h1]
  exact e b o h2
theorem del_upd {H : Hp} {a b : Addr} {o : HO} (h : b ≠ a) : Ex (Ew.del (upd H b o) a) (upd (Ew.del H a) b o) := fun c u q => by
  obtain ⟨h1, h2⟩ := del_some q
  by_cases e : c = b
  · rw [e, upd_same] at h2
    rw [e, upd_same]
    exact h2
  · rw [upd_ne e] at h2
    rw [upd_ne e, del_ne h1]
    exact h2
end Ew
end

section
set_option Elab.async false
set_option linter.all false
set_option maxRecDepth 100000
set_option maxHeartbeats 4000000
/-! Tx: the defs of the text by place, their slots. Printed by gentx.py. -/
namespace Tx
open PySem PySem.Spec PyProof.Rows L2
def topS (i : Nat) : Stmt := PySem.Challenge.pw_fallranks_k31_whole_known_bounds.main.body.getD i (.Pass ⟨0, 0, 0, 0⟩)
abbrev s_turned : Stmt := topS 17
abbrev n_turned : List Str := ["table", "bottom", "row", "column", "by", "own", "at", "lead", "line", "part", "k"]
abbrev p_turned : List Str := ["table", "bottom", "row", "column"]
theorem sc_turned : FnScope n_turned p_turned (defScope s_turned) := ⟨rfl, rfl, rfl, by decide +kernel, rfl, by decide +kernel, by decide +kernel⟩
abbrev s_leaving : Stmt := topS 18
abbrev n_leaving : List Str := ["table", "many", "base", "column", "best", "at", "left", "right"]
abbrev p_leaving : List Str := ["table", "many", "base", "column"]
theorem sc_leaving : FnScope n_leaving p_leaving (defScope s_leaving) := ⟨rfl, rfl, rfl, by decide +kernel, rfl, by decide +kernel, by decide +kernel⟩
abbrev s_climbed : Stmt := topS 19
abbrev n_climbed : List Str := ["table", "many", "base", "bottom", "wide", "rising", "row", "column"]
abbrev p_climbed : List Str := ["table", "many", "base", "bottom", "wide"]
theorem sc_climbed : FnScope n_climbed p_climbed (defScope s_climbed) := ⟨rfl, rfl, rfl, by decide +kernel, rfl, by decide +kernel, by decide +kernel⟩
abbrev s_begun : Stmt := topS 20
abbrev n_begun : List Str := ["rows", "wide", "table", "many", "base", "at", "bottom", "free", "kept", "row", "part", "column"]
abbrev p_begun : List Str := ["rows", "wide"]
theorem sc_begun : FnScope n_begun p_begun (defScope s_begun) := ⟨rfl, rfl, rfl, by decide +kernel, rfl, by decide +kernel, by decide +kernel⟩
abbrev s_most : Stmt := topS 21
abbrev n_most : List Str := ["rows", "goal", "wide", "first", "table", "base", "bottom", "many", "last", "at", "tops", "part", "k", "column"]
abbrev p_most : List Str := ["rows", "goal"]
theorem sc_most : FnScope n_most p_most (defScope s_most) := ⟨rfl, rfl, rfl, by decide +kernel, rfl, by decide +kernel, by decide +kernel⟩
abbrev s_is_integer : Stmt := topS 25
abbrev n_is_integer : List Str := ["value"]
abbrev p_is_integer : List Str := ["value"]
theorem sc_is_integer : FnScope n_is_integer p_is_integer (defScope s_is_integer) := ⟨rfl, rfl, rfl, by decide +kernel, rfl, by decide +kernel, by decide +kernel⟩
abbrev s_is_name : Stmt := topS 26
abbrev n_is_name : List Str := ["value", "sign"]
abbrev p_is_name : List Str := ["value"]
theorem sc_is_name : FnScope n_is_name p_is_name (defScope s_is_name) := ⟨rfl, rfl, rfl, by decide +kernel, rfl, by decide +kernel, by decide +kernel⟩
abbrev s_are_integers : Stmt := topS 27
abbrev n_are_integers : List Str := ["value", "many", "part"]
abbrev p_are_integers : List Str := ["value", "many"]
theorem sc_are_integers : FnScope n_are_integers p_are_integers (defScope s_are_integers) := ⟨rfl, rfl, rfl, by decide +kernel, rfl, by decide +kernel, by decide +kernel⟩
abbrev s_shared : Stmt := topS 29
abbrev n_shared : List Str := ["one", "other"]
abbrev p_shared : List Str := ["one", "other"]
theorem sc_shared : FnScope n_shared p_shared (defScope s_shared) := ⟨rfl, rfl, rfl, by decide +kernel, rfl, by decide +kernel, by decide +kernel⟩
abbrev s_lowest : Stmt := topS 30
abbrev n_lowest : List Str := ["top", "bottom", "by"]
abbrev p_lowest : List Str := ["top", "bottom"]
theorem sc_lowest : FnScope n_lowest p_lowest (defScope s_lowest) := ⟨rfl, rfl, rfl, by decide +kernel, rfl, by decide +kernel, by decide +kernel⟩
abbrev s_least_of : Stmt := topS 33
abbrev n_least_of : List Str := ["tests", "form", "many", "rows", "at", "test", "slack", "goal", "found", "tops", "bottom", "value", "other", "part", "k"]
abbrev p_least_of : List Str := ["tests", "form"]
theorem sc_least_of : FnScope n_least_of p_least_of (defScope s_least_of) := ⟨rfl, rfl, rfl, by decide +kernel, rfl, by decide +kernel, by decide +kernel⟩
abbrev s_is_empty : Stmt := topS 34
abbrev n_is_empty : List Str := ["tests", "many", "part"]
abbrev p_is_empty : List Str := ["tests", "many"]
theorem sc_is_empty : FnScope n_is_empty p_is_empty (defScope s_is_empty) := ⟨rfl, rfl, rfl, by decide +kernel, rfl, by decide +kernel, by decide +kernel⟩
abbrev s_is_form : Stmt := topS 36
abbrev n_is_form : List Str := ["value", "many", "part"]
abbrev p_is_form : List Str := ["value", "many"]
theorem sc_is_form : FnScope n_is_form p_is_form (defScope s_is_form) := ⟨rfl, rfl, rfl, by decide +kernel, rfl, by decide +kernel, by decide +kernel⟩
abbrev s_is_saying : Stmt := topS 37
abbrev n_is_saying : List Str := ["value", "many"]
abbrev p_is_saying : List Str := ["value", "many"]
theorem sc_is_saying : FnScope n_is_saying p_is_saying (defScope s_is_saying) := ⟨rfl, rfl, rfl, by decide +kernel, rfl, by decide +kernel, by decide +kernel⟩
abbrev s_is_branch : Stmt := topS 38
abbrev n_is_branch : List Str := ["value", "many", "form"]
abbrev p_is_branch : List Str := ["value", "many"]
theorem sc_is_branch : FnScope n_is_branch p_is_branch (defScope s_is_branch) := ⟨rfl, rfl, rfl, by decide +kernel, rfl, by decide +kernel, by decide +kernel⟩
abbrev s_wrong_name : Stmt := topS 39
abbrev n_wrong_name : List Str := ["value", "at", "name"]
abbrev p_wrong_name : List Str := ["value"]
theorem sc_wrong_name : FnScope n_wrong_name p_wrong_name (defScope s_wrong_name) := ⟨rfl, rfl, rfl, by decide +kernel, rfl, by decide +kernel, by decide +kernel⟩
abbrev s_wrong_saying : Stmt := topS 40
abbrev n_wrong_saying : List Str := ["value", "many", "at", "saying"]
abbrev p_wrong_saying : List Str := ["value", "many"]
theorem sc_wrong_saying : FnScope n_wrong_saying p_wrong_saying (defScope s_wrong_saying) := ⟨rfl, rfl, rfl, by decide +kernel, rfl, by decide +kernel, by decide +kernel⟩
abbrev s_places_in : Stmt := topS 41
abbrev n_places_in : List Str := ["sayings", "branches", "found", "place", "form", "source", "target", "tests", "changes", "at"]
abbrev p_places_in : List Str := ["sayings", "branches"]
theorem sc_places_in : FnScope n_places_in p_places_in (defScope s_places_in) := ⟨rfl, rfl, rfl, by decide +kernel, rfl, by decide +kernel, by decide +kernel⟩
abbrev s_wrong_branch : Stmt := topS 42
abbrev n_wrong_branch : List Str := ["sayings", "value", "many", "at", "branch"]
abbrev p_wrong_branch : List Str := ["sayings", "value", "many"]
theorem sc_wrong_branch : FnScope n_wrong_branch p_wrong_branch (defScope s_wrong_branch) := ⟨rfl, rfl, rfl, by decide +kernel, rfl, by decide +kernel, by decide +kernel⟩
abbrev s_Program_init : Stmt := inClass (topS 45) 1
abbrev n_Program_init : List Str := ["self", "names", "sayings", "branches", "at"]
abbrev p_Program_init : List Str := ["self", "names", "sayings", "branches"]
theorem sc_Program_init : FnScope n_Program_init p_Program_init (defScope s_Program_init) := ⟨rfl, rfl, rfl, by decide +kernel, rfl, by decide +kernel, by decide +kernel⟩
abbrev s_Program_names : Stmt := inClass (topS 45) 3
abbrev n_Program_names : List Str := ["self"]
abbrev p_Program_names : List Str := ["self"]
theorem sc_Program_names : FnScope n_Program_names p_Program_names (defScope s_Program_names) := ⟨rfl, rfl, rfl, by decide +kernel, rfl, by decide +kernel, by decide +kernel⟩
abbrev s_Program_branches : Stmt := inClass (topS 45) 5
abbrev n_Program_branches : List Str := ["self"]
abbrev p_Program_branches : List Str := ["self"]
theorem sc_Program_branches : FnScope n_Program_branches p_Program_branches (defScope s_Program_branches) := ⟨rfl, rfl, rfl, by decide +kernel, rfl, by decide +kernel, by decide +kernel⟩
abbrev s_Program_places : Stmt := inClass (topS 45) 6
abbrev n_Program_places : List Str := ["self"]
abbrev p_Program_places : List Str := ["self"]
theorem sc_Program_places : FnScope n_Program_places p_Program_places (defScope s_Program_places) := ⟨rfl, rfl, rfl, by decide +kernel, rfl, by decide +kernel, by decide +kernel⟩
abbrev s_Program_len : Stmt := inClass (topS 45) 10
abbrev n_Program_len : List Str := ["self"]
abbrev p_Program_len : List Str := ["self"]
theorem sc_Program_len : FnScope n_Program_len p_Program_len (defScope s_Program_len) := ⟨rfl, rfl, rfl, by decide +kernel, rfl, by decide +kernel, by decide +kernel⟩
abbrev s_tests_of : Stmt := topS 47
abbrev n_tests_of : List Str := ["program", "index", "branch", "form", "place"]
abbrev p_tests_of : List Str := ["program", "index"]
theorem sc_tests_of : FnScope n_tests_of p_tests_of (defScope s_tests_of) := ⟨rfl, rfl, rfl, by decide +kernel, rfl, by decide +kernel, by decide +kernel⟩
abbrev s_behind : Stmt := topS 53
abbrev n_behind : List Str := ["form", "changes", "many", "found", "k", "at"]
abbrev p_behind : List Str := ["form", "changes"]
theorem sc_behind : FnScope n_behind p_behind (defScope s_behind) := ⟨rfl, rfl, rfl, by decide +kernel, rfl, by decide +kernel, by decide +kernel⟩
abbrev s_value_at : Stmt := topS 54
abbrev n_value_at : List Str := ["form", "point", "k"]
abbrev p_value_at : List Str := ["form", "point"]
theorem sc_value_at : FnScope n_value_at p_value_at (defScope s_value_at) := ⟨rfl, rfl, rfl, by decide +kernel, rfl, by decide +kernel, by decide +kernel⟩
abbrev s_check_program : Stmt := topS 55
abbrev n_check_program : List Str := ["value"]
abbrev p_check_program : List Str := ["value"]
theorem sc_check_program : FnScope n_check_program p_check_program (defScope s_check_program) := ⟨rfl, rfl, rfl, by decide +kernel, rfl, by decide +kernel, by decide +kernel⟩
abbrev s_check_place : Stmt := topS 56
abbrev n_check_place : List Str := ["program", "value"]
abbrev p_check_place : List Str := ["program", "value"]
theorem sc_check_place : FnScope n_check_place p_check_place (defScope s_check_place) := ⟨rfl, rfl, rfl, by decide +kernel, rfl, by decide +kernel, by decide +kernel⟩
abbrev s_check_point : Stmt := topS 57
abbrev n_check_point : List Str := ["program", "value"]
abbrev p_check_point : List Str := ["program", "value"]
theorem sc_check_point : FnScope n_check_point p_check_point (defScope s_check_point) := ⟨rfl, rfl, rfl, by decide +kernel, rfl, by decide +kernel, by decide +kernel⟩
abbrev s_Columns_init : Stmt := inClass (topS 59) 0
abbrev n_Columns_init : List Str := ["self", "program", "indexes", "many", "index", "size", "place", "at"]
abbrev p_Columns_init : List Str := ["self", "program", "indexes"]
theorem sc_Columns_init : FnScope n_Columns_init p_Columns_init (defScope s_Columns_init) := ⟨rfl, rfl, rfl, by decide +kernel, rfl, by decide +kernel, by decide +kernel⟩
abbrev s_Columns_place_into : Stmt := inClass (topS 59) 1
abbrev n_Columns_place_into : List Str := ["self", "row", "place", "part", "by"]
abbrev p_Columns_place_into : List Str := ["self", "row", "place", "part", "by"]
theorem sc_Columns_place_into : FnScope n_Columns_place_into p_Columns_place_into (defScope s_Columns_place_into) := ⟨rfl, rfl, rfl, by decide +kernel, rfl, by decide +kernel, by decide +kernel⟩
abbrev s_stand_rows : Stmt := topS 60
abbrev n_stand_rows : List Str := ["program", "columns", "index", "source", "tests", "rows", "part", "row", "column"]
abbrev p_stand_rows : List Str := ["program", "columns", "index"]
theorem sc_stand_rows : FnScope n_stand_rows p_stand_rows (defScope s_stand_rows) := ⟨rfl, rfl, rfl, by decide +kernel, rfl, by decide +kernel, by decide +kernel⟩
abbrev s_weight_into : Stmt := topS 61
abbrev n_weight_into : List Str := ["row", "tests", "begin", "part", "step", "at", "test"]
abbrev p_weight_into : List Str := ["row", "tests", "begin", "part", "step"]
theorem sc_weight_into : FnScope n_weight_into p_weight_into (defScope s_weight_into) := ⟨rfl, rfl, rfl, by decide +kernel, rfl, by decide +kernel, by decide +kernel⟩
abbrev s_fall_rows : Stmt := topS 62
abbrev n_fall_rows : List Str := ["program", "columns", "index", "source", "target", "own", "changes", "tests", "begin", "fall", "rows", "part", "row", "other", "unit", "last", "column", "at"]
abbrev p_fall_rows : List Str := ["program", "columns", "index"]
theorem sc_fall_rows : FnScope n_fall_rows p_fall_rows (defScope s_fall_rows) := ⟨rfl, rfl, rfl, by decide +kernel, rfl, by decide +kernel, by decide +kernel⟩
abbrev s_rank_rows : Stmt := topS 63
abbrev n_rank_rows : List Str := ["program", "columns", "indexes", "rows", "index"]
abbrev p_rank_rows : List Str := ["program", "columns", "indexes"]
theorem sc_rank_rows : FnScope n_rank_rows p_rank_rows (defScope s_rank_rows) := ⟨rfl, rfl, rfl, by decide +kernel, rfl, by decide +kernel, by decide +kernel⟩
abbrev s_read_forms : Stmt := topS 64
abbrev n_read_forms : List Str := ["program", "columns", "tops", "found", "place", "begin", "step", "part"]
abbrev p_read_forms : List Str := ["program", "columns", "tops"]
theorem sc_read_forms : FnScope n_read_forms p_read_forms (defScope s_read_forms) := ⟨rfl, rfl, rfl, by decide +kernel, rfl, by decide +kernel, by decide +kernel⟩
abbrev s_dead_of : Stmt := topS 66
abbrev n_dead_of : List Str := ["program", "many", "index"]
abbrev p_dead_of : List Str := ["program"]
theorem sc_dead_of : FnScope n_dead_of p_dead_of (defScope s_dead_of) := ⟨rfl, rfl, rfl, by decide +kernel, rfl, by decide +kernel, by decide +kernel⟩
abbrev s_best_rank : Stmt := topS 67
abbrev n_best_rank : List Str := ["program", "indexes", "columns", "falls", "goal", "tops", "bottom", "taken", "index", "column"]
abbrev p_best_rank : List Str := ["program", "indexes"]
theorem sc_best_rank : FnScope n_best_rank p_best_rank (defScope s_best_rank) := ⟨rfl, rfl, rfl, by decide +kernel, rfl, by decide +kernel, by decide +kernel⟩
abbrev s_plain_rank : Stmt := topS 68
abbrev n_plain_rank : List Str := ["bottom", "forms", "by", "form", "part"]
abbrev p_plain_rank : List Str := ["bottom", "forms"]
theorem sc_plain_rank : FnScope n_plain_rank p_plain_rank (defScope s_plain_rank) := ⟨rfl, rfl, rfl, by decide +kernel, rfl, by decide +kernel, by decide +kernel⟩
abbrev s_steps_of : Stmt := topS 69
abbrev n_steps_of : List Str := ["program", "dead_ones", "rest", "found", "rank", "taken", "index"]
abbrev p_steps_of : List Str := ["program"]
theorem sc_steps_of : FnScope n_steps_of p_steps_of (defScope s_steps_of) := ⟨rfl, rfl, rfl, by decide +kernel, rfl, by decide +kernel, by decide +kernel⟩
abbrev s_lowest_rank : Stmt := topS 71
abbrev n_lowest_rank : List Str := ["program", "indexes", "place", "point", "columns", "rows", "goal", "index", "row", "at", "part", "found", "column"]
abbrev p_lowest_rank : List Str := ["program", "indexes", "place", "point"]
theorem sc_lowest_rank : FnScope n_lowest_rank p_lowest_rank (defScope s_lowest_rank) := ⟨rfl, rfl, rfl, by decide +kernel, rfl, by decide +kernel, by decide +kernel⟩
abbrev s_best_for : Stmt := topS 72
abbrev n_best_for : List Str := ["program", "place", "point", "found", "rest", "rank"]
abbrev p_best_for : List Str := ["program", "place", "point"]
theorem sc_best_for : FnScope n_best_for p_best_for (defScope s_best_for) := ⟨rfl, rfl, rfl, by decide +kernel, rfl, by decide +kernel, by decide +kernel⟩
abbrev s_bound_of : Stmt := topS 73
abbrev n_bound_of : List Str := ["program", "place", "point", "rank"]
abbrev p_bound_of : List Str := ["program", "place", "point"]
theorem sc_bound_of : FnScope n_bound_of p_bound_of (defScope s_bound_of) := ⟨rfl, rfl, rfl, by decide +kernel, rfl, by decide +kernel, by decide +kernel⟩
abbrev s_bound : Stmt := topS 74
abbrev n_bound : List Str := ["program", "place", "point"]
abbrev p_bound : List Str := ["program", "place", "point"]
theorem sc_bound : FnScope n_bound p_bound (defScope s_bound) := ⟨rfl, rfl, rfl, by decide +kernel, rfl, by decide +kernel, by decide +kernel⟩
abbrev s_law_well : Stmt := topS 76
abbrev n_law_well : List Str := ["_law_script", "_law_spot", "_law_state", "_law_cell", "_law_own"]
abbrev p_law_well : List Str := ["_law_script", "_law_spot"]
theorem sc_law_well : FnScope n_law_well p_law_well (defScope s_law_well) := ⟨rfl, rfl, rfl, by decide +kernel, rfl, by decide +kernel, by decide +kernel⟩
abbrev s_law_draw : Stmt := topS 77
abbrev n_law_draw : List Str := ["_law_well_here", "_law_many", "_law_digit", "_law_seed"]
abbrev p_law_draw : List Str := ["_law_well_here", "_law_many"]
theorem sc_law_draw : FnScope n_law_draw p_law_draw (defScope s_law_draw) := ⟨rfl, rfl, rfl, by decide +kernel, rfl, by decide +kernel, by decide +kernel⟩
abbrev s_law_great : Stmt := topS 78
abbrev n_law_great : List Str := ["_law_well_here", "_law_found", "_law_turn"]
abbrev p_law_great : List Str := ["_law_well_here"]
theorem sc_law_great : FnScope n_law_great p_law_great (defScope s_law_great) := ⟨rfl, rfl, rfl, by decide +kernel, rfl, by decide +kernel, by decide +kernel⟩
abbrev s_law_shared : Stmt := topS 79
abbrev n_law_shared : List Str := ["_law_one_here", "_law_two", "_law_rest", "_law_laps", "_law_block", "_law_turn"]
abbrev p_law_shared : List Str := ["_law_one_here", "_law_two"]
theorem sc_law_shared : FnScope n_law_shared p_law_shared (defScope s_law_shared) := ⟨rfl, rfl, rfl, by decide +kernel, rfl, by decide +kernel, by decide +kernel⟩
abbrev s_law_part : Stmt := topS 80
abbrev n_law_part : List Str := ["_law_top", "_law_bottom", "_law_by"]
abbrev p_law_part : List Str := ["_law_top", "_law_bottom"]
theorem sc_law_part : FnScope n_law_part p_law_part (defScope s_law_part) := ⟨rfl, rfl, rfl, by decide +kernel, rfl, by decide +kernel, by decide +kernel⟩
abbrev s_law_right : Stmt := topS 81
abbrev n_law_right : List Str := ["_law_well_here", "_law_step_here", "_law_last", "_law_begin", "_law_one_way", "_law_point", "_law_slow", "_law_fast", "_law_tests", "_law_both", "_law_back", "_law_two", "_law_told", "_law_floors", "_law_beside", "_law_top", "_law_due", "_law_nest", "_law_up", "_law_never"]
abbrev p_law_right : List Str := ["_law_well_here"]
theorem sc_law_right : FnScope n_law_right p_law_right (defScope s_law_right) := ⟨rfl, rfl, rfl, by decide +kernel, rfl, by decide +kernel, by decide +kernel⟩
abbrev s_law : Stmt := topS 82
abbrev n_law : List Str := ["_law_script", "_law_spot"]
abbrev p_law : List Str := ["_law_script"]
theorem sc_law : FnScope n_law p_law (defScope s_law) := ⟨rfl, rfl, rfl, by decide +kernel, rfl, by decide +kernel, by decide +kernel⟩
end Tx
end

section
set_option Elab.async false
set_option linter.all false
set_option maxRecDepth 100000
set_option maxHeartbeats 4000000
/-! W2: more values and statements; the first defs: shared, lowest. -/
namespace Ew
open PySem PySem.Spec PyProof.Rows L2 Evl
section
variable {K : Fg} {σ : L2.St} {H H' : Hp} {ta tb te tx : TE} {t u : TT} {x y z v : V} {r : R2} {D : Ends} {tu tw tz : TS}
theorem s_par {i j : Nat} {ta : TA} (h : EvA ta σ H [x, y]) (k : ∀ H1, Ex H H1 → D.nx ((σ.set i (some x)).set j (some y)) H1) : tPar i j ta D σ H := h H (Ex.refl H) _ fun H1 e => ⟨x, y, rfl, k H1 e⟩
theorem q_par {i j : Nat} {ta : TA} (h : EvA ta σ H [x, y]) (k : ∀ H1, Ex H H1 → tz D ((σ.set i (some x)).set j (some y)) H1) : tSeq (tPar i j ta) tz D σ H := s_par (D := { D with nx := tz D }) h k
theorem s_par3 {i j l : Nat} {ta : TA} (h : EvA ta σ H [x, y, z]) (k : ∀ H1, Ex H H1 → D.nx (((σ.set i (some x)).set j (some y)).set l (some z)) H1) : tPar3 i j l ta D σ H := h H (Ex.refl H) _ fun H1 e => ⟨x, y, z, rfl, k H1 e⟩
theorem q_par3 {i j l : Nat} {ta : TA} (h : EvA ta σ H [x, y, z]) (k : ∀ H1, Ex H H1 → tz D (((σ.set i (some x)).set j (some y)).set l (some z)) H1) : tSeq (tPar3 i j l ta) tz D σ H := s_par3 (D := { D with nx := tz D }) h k
theorem ev_abs {i : Int} (h : Ev ta σ H (.int i)) : Ev (tCB (fun xs H Q => ∃ i, xs = [.int i] ∧ Q (.int (if i < 0 then -i else i)) H) (tCons ta tNil)) σ H (.int (i.natAbs : Int)) :=
  ev_cb (ea_cons h ea_nil) fun H1 e Q q => ⟨i, rfl, by
    have e1 : (if i < 0 then -i else i) = (i.natAbs : Int) := by
      split <;> omega
    rw [e1]
    exact q H1 (Ex.refl H1)⟩
theorem ev_gt {i j : Int} (h : Ev ta σ H (.int i)) (h2 : Ev tb σ H (.int j)) : EvT (tTest (tOp (rI0 fun i j => .bl (decide (j < i))) ta tb)) σ H (decide (j < i)) := et_test (ev_op h h2 rv_I0)
theorem ev_lt {i j : Int} (h : Ev ta σ H (.int i)) (h2 : Ev tb σ H (.int j)) : EvT (tTest (tOp (rI0 fun i j => .bl (decide (i < j))) ta tb)) σ H (decide (i < j)) := et_test (ev_op h h2 rv_I0)
theorem ev_ge {i j : Int} (h : Ev ta σ H (.int i)) (h2 : Ev tb σ H (.int j)) : EvT (tTest (tOp (rI0 fun i j => .bl (decide (j ≤ i))) ta tb)) σ H (decide (j ≤ i)) := et_test (ev_op h h2 rv_I0)
theorem ev_eqI {i j : Int} (h : Ev ta σ H (.int i)) (h2 : Ev tb σ H (.int j)) : EvT (tTest (tOp rEq ta tb)) σ H (decide (i = j)) := et_test (ev_is (ev_op h h2 (rv_eq rfl)) (by
  congr 1
  by_cases q : i = j
  · rw [q, decide_eq_true rfl, decide_eq_true rfl]
  · rw [decide_eq_false q, decide_eq_false (fun z => q (V.int.inj z))]))
theorem ev_neI {i j : Int} (h : Ev ta σ H (.int i)) (h2 : Ev tb σ H (.int j)) : EvT (tTest (tOp rNe ta tb)) σ H (!decide (i = j)) := et_test (ev_is (ev_op h h2 (rv_ne rfl)) (by
  congr 2
  by_cases q : i = j
  · rw [q, decide_eq_true rfl, decide_eq_true rfl]
  · rw [decide_eq_false q, decide_eq_false (fun z => q (V.int.inj z))]))
theorem ev_fdivW {i j : Int} (h : Ev ta σ H (.int i)) (h2 : Ev tb σ H (.int j)) (hc : CDivW i j) : Ev (tOp (rI CDivW fun i j => .int (i / j)) ta tb) σ H (.int (i.fdiv j)) := by
  rw [Int.fdiv_eq_ediv_of_nonneg _ (Int.le_of_lt hc.1)]
  exact ev_op h h2 (rv_I hc)
theorem ev_mod {i j : Int} (h : Ev ta σ H (.int i)) (h2 : Ev tb σ H (.int j)) (hc : 0 < j) : Ev (tOp (rI (fun _ j => 0 < j) fun i j => .int (i % j)) ta tb) σ H (.int (i % j)) := ev_op h h2 (rv_I hc)
end
end Ew
namespace Fd
open PySem PySem.Spec PyProof.Rows L2 Evl Ew Tx
section
variable {P : Program} {w : World} {K : PySem.W.Frag} {mg : Str → Option Value} {base : Heap}
/-! ### shared -/
def sp_shared : Sp := fun vs H Q _ => ∃ a b : Int, vs = [.int a, .int b] ∧ RetV (.int (Int.gcd a b : Int)) H Q
theorem gcd_turn {x y : Int} (hx : 0 ≤ x) (hy : 0 < y) : Int.gcd y (x % y) = Int.gcd x y := by
  rw [Int.gcd_comm x y]
  unfold Int.gcd
  have e1 : (x % y).natAbs = x.natAbs % y.natAbs := by
    obtain ⟨n, rfl⟩ := Int.eq_ofNat_of_zero_le hx
    obtain ⟨m, rfl⟩ := Int.eq_ofNat_of_zero_le (Int.le_of_lt hy)
    rfl
  rw [e1, Nat.gcd_comm, ← Nat.gcd_rec, Nat.gcd_comm]
theorem ok_shared {f : Addr} {fd : FuncData} (F : Fun K "shared" "shared" s_shared f fd) (zabs : mg "abs" = none) : FnOk P w K mg base CX0 1 f fd p_shared sp_shared := by
  refine F.ok sc_shared (fun vs H Q E h => ?_) (fun cdv A outer s H vs Q E hr h => ?_)
  · obtain ⟨a, b, rfl, _⟩ := h
    rfl
  · obtain ⟨a, b, rfl, k⟩ := h
    refine ⟨_, pss_cons (ps_par (i := 0) (j := 1) rfl sc_shared.nd rfl rfl (by decide) rfl rfl (pa_cons (pe_callB call_abs (by rfl) zabs (by decide +kernel) (pa_cons (pv 0) pa_nil)) (pa_cons (pe_callB call_abs (by rfl) zabs (by decide +kernel) (pa_cons (pv 1) pa_nil)) pa_nil)) (by rfl))
      (pss_cons (ps_while PassesOwn.never (pt_cmpR op_gt (pv 1) pe_int (nomark _)) (pss_one (ps_par (i := 0) (j := 1) rfl sc_shared.nd rfl rfl (by decide) rfl rfl (pa_cons (pv 1) (pa_cons (pe_op op_mod (pv 0) (pv 1)) pa_nil)) (by rfl))))
      (pss_one (ps_ret (pv 0)))), ?_⟩
    refine q_par (ea_cons (ev_abs (ev_var rfl)) (ea_cons (ev_abs (ev_var rfl)) ea_nil)) fun H1 e1 => ?_
    refine q_while (fun m σ' H' => ∃ x y : Int, σ' = [some (.int x), some (.int y)] ∧ 0 ≤ x ∧ 0 ≤ y ∧ m = y.toNat ∧ Int.gcd x y = Int.gcd a b ∧ Ex H H') b.natAbs ⟨_, _, rfl, Int.natCast_nonneg _, Int.natCast_nonneg _, rfl, ?_, e1⟩ fun m σ' H' hw => ?_
    · unfold Int.gcd
      rfl
    · obtain ⟨x, y, rfl, hx, hy, rfl, hg, e⟩ := hw
      refine ⟨_, ev_gt (ev_var rfl) ev_c, fun hb H2 e2 => ?_, fun hb H2 e2 => ?_⟩
      · have hy' : 0 < y := of_decide_eq_true hb
        refine ⟨fun σ2 H3 => σ2 = [some (.int y), some (.int (x % y))] ∧ Ex H H3, fun σ2 H3 q => ?_, ?_⟩
        · obtain ⟨rfl, e3⟩ := q
          have h1 := Int.emod_nonneg x (show y ≠ 0 by omega)
          have h2 := Int.emod_lt_of_pos x hy'
          exact ⟨_, by omega, _, _, rfl, hy, h1, rfl, (gcd_turn hx hy').trans hg, e3⟩
        · exact s_par (ea_cons (ev_var rfl) (ea_cons (ev_mod (ev_var rfl) (ev_var rfl) hy') ea_nil)) fun H3 e3 => ⟨rfl, (e.trans e2).trans e3⟩
      · have hy' : ¬ 0 < y := of_decide_eq_false hb
        have e0 : y = 0 := by omega
        subst e0
        have e4 : x = (Int.gcd a b : Int) := by
          rw [← hg]
          unfold Int.gcd
          show x = ((Nat.gcd x.natAbs 0 : Nat) : Int)
          rw [Nat.gcd_zero_right]
          omega
        refine s_ret (ev_var rfl) fun H3 e3 => ?_
        rw [e4]
        exact k H3 ((e.trans e2).trans e3)
end
end Fd
end

section
set_option Elab.async false
set_option linter.all false
set_option maxRecDepth 100000
set_option maxHeartbeats 4000000
/-! T0: what the walk takes of the text and of the top, in a few structures. Printed by gentxt.py. -/
namespace Fd
open PySem PySem.Spec PyProof.Rows L2 Evl Ew Tx
/-- a def of the module -/
structure DefT (K : PySem.W.Frag) (mg : Str → Option Value) (x : Str) (st : Stmt) (ps : List Str) where
  a : Addr
  d : FuncData
  F : Fun K x x st a d
  g : mg x = some (.ref a)
  b : Binds K d ps []
/-- a def of a class -/
structure MetT (K : PySem.W.Frag) (x qual : Str) (st : Stmt) (ps : List Str) where
  a : Addr
  d : FuncData
  F : Fun K x qual st a d
  b : Binds K d ps []
/-- a property of a class, its getter at g -/
structure PropT (K : PySem.W.Frag) (C : Addr) (f : Str) (g : Addr) where
  p : Addr
  at_ : PySem.W.findIn K (.ref C) f = some (some (.ref p))
  get : PySem.W.specialIn K (.ref p) "__get__" = some (some (.builtin "property.__get__"))
  tk : PySem.W.takesIn K (.ref p) = some true
  rc : ∃ rest, PySem.W.recIn K p "property" = some (.ref g :: rest)
structure Fre (mg : Str → Option Value) : Prop where
  abs : mg "abs" = none
  max : mg "max" = none
  min : mg "min" = none
  sum : mg "sum" = none
  all : mg "all" = none
  len : mg "len" = none
  list : mg "list" = none
  tuple : mg "tuple" = none
  int : mg "int" = none
  range : mg "range" = none
  enumerate : mg "enumerate" = none
  isinstance : mg "isinstance" = none
  divmod : mg "divmod" = none
  bool : mg "bool" = none
  str : mg "str" = none
structure Cst (mg : Str → Option Value) : Prop where
  MOST_VARIABLES : ∃ t, mg "MOST_VARIABLES" = some (.int 3 t)
  MOST_PLACES : ∃ t, mg "MOST_PLACES" = some (.int 3 t)
  MOST_BRANCHES : ∃ t, mg "MOST_BRANCHES" = some (.int 5 t)
  MOST_TESTS : ∃ t, mg "MOST_TESTS" = some (.int 3 t)
  MOST_SAYINGS : ∃ t, mg "MOST_SAYINGS" = some (.int 3 t)
  MOST_NUMBER : ∃ t, mg "MOST_NUMBER" = some (.int 1000000 t)
  DIGITS : ∃ t, mg "DIGITS" = some (.str "0123456789" t)
  LETTERS : ∃ t, mg "LETTERS" = some (.str "abcdefghijklmnopqrstuvwxyz" t)
  ENDLESS : ∃ t, mg "ENDLESS" = some (.str "endless" t)
structure ColT (K : PySem.W.Frag) (mg : Str → Option Value) where
  C : Addr
  g : mg "Columns" = some (.ref C)
  c : Cls K C
  n : ∀ f ∈ (["step", "spots", "wide", "parts"] : List Str), NoAttr K C f
  init : MetT K "__init__" "Columns.__init__" s_Columns_init p_Columns_init
  place_into : MetT K "place_into" "Columns.place_into" s_Columns_place_into p_Columns_place_into
  k : Mk K C init.a
  m : Meth K C "place_into" place_into.a
structure ProT (K : PySem.W.Frag) (mg : Str → Option Value) where
  C : Addr
  g : mg "Program" = some (.ref C)
  c : SlX.SCls K C
  i : SlX.SIsi K C
  o : PySem.W.kitOne K (.ref C) (.ref C) = some true
  pn : Addr
  ps : Addr
  pb : Addr
  ln : SlX.Slot1 K C "own_names" pn 1
  ls : SlX.Slot1 K C "own_sayings" ps 2
  lb : SlX.Slot1 K C "own_branches" pb 0
  init : MetT K "__init__" "Program.__init__" s_Program_init p_Program_init
  names : MetT K "names" "Program.names" s_Program_names p_Program_names
  branches : MetT K "branches" "Program.branches" s_Program_branches p_Program_branches
  places : MetT K "places" "Program.places" s_Program_places p_Program_places
  len : MetT K "__len__" "Program.__len__" s_Program_len p_Program_len
  k : Mk K C init.a
  qn : PropT K C "names" names.a
  qb : PropT K C "branches" branches.a
  qp : PropT K C "places" places.a
  lf : PySem.W.findIn K (.ref C) "__len__" = some (some (.ref len.a))
  li : PySem.W.isFn K (.ref len.a) = true
structure Txt (K : PySem.W.Frag) (mg : Str → Option Value) where
  z : Fre mg
  i : Cst mg
  col : ColT K mg
  pro : ProT K mg
  turned : DefT K mg "turned" s_turned p_turned
  leaving : DefT K mg "leaving" s_leaving p_leaving
  climbed : DefT K mg "climbed" s_climbed p_climbed
  begun : DefT K mg "begun" s_begun p_begun
  most : DefT K mg "most" s_most p_most
  is_integer : DefT K mg "is_integer" s_is_integer p_is_integer
  is_name : DefT K mg "is_name" s_is_name p_is_name
  are_integers : DefT K mg "are_integers" s_are_integers p_are_integers
  shared : DefT K mg "shared" s_shared p_shared
  lowest : DefT K mg "lowest" s_lowest p_lowest
  least_of : DefT K mg "least_of" s_least_of p_least_of
  is_empty : DefT K mg "is_empty" s_is_empty p_is_empty
  is_form : DefT K mg "is_form" s_is_form p_is_form
  is_saying : DefT K mg "is_saying" s_is_saying p_is_saying
  is_branch : DefT K mg "is_branch" s_is_branch p_is_branch
  wrong_name : DefT K mg "wrong_name" s_wrong_name p_wrong_name
  wrong_saying : DefT K mg "wrong_saying" s_wrong_saying p_wrong_saying
  places_in : DefT K mg "places_in" s_places_in p_places_in
  wrong_branch : DefT K mg "wrong_branch" s_wrong_branch p_wrong_branch
  tests_of : DefT K mg "tests_of" s_tests_of p_tests_of
  behind : DefT K mg "behind" s_behind p_behind
  value_at : DefT K mg "value_at" s_value_at p_value_at
  check_program : DefT K mg "check_program" s_check_program p_check_program
  check_place : DefT K mg "check_place" s_check_place p_check_place
  check_point : DefT K mg "check_point" s_check_point p_check_point
  stand_rows : DefT K mg "stand_rows" s_stand_rows p_stand_rows
  weight_into : DefT K mg "weight_into" s_weight_into p_weight_into
  fall_rows : DefT K mg "fall_rows" s_fall_rows p_fall_rows
  rank_rows : DefT K mg "rank_rows" s_rank_rows p_rank_rows
  read_forms : DefT K mg "read_forms" s_read_forms p_read_forms
  dead_of : DefT K mg "dead_of" s_dead_of p_dead_of
  best_rank : DefT K mg "best_rank" s_best_rank p_best_rank
  plain_rank : DefT K mg "plain_rank" s_plain_rank p_plain_rank
  steps_of : DefT K mg "steps_of" s_steps_of p_steps_of
  lowest_rank : DefT K mg "lowest_rank" s_lowest_rank p_lowest_rank
  best_for : DefT K mg "best_for" s_best_for p_best_for
  bound_of : DefT K mg "bound_of" s_bound_of p_bound_of
  bound : DefT K mg "bound" s_bound p_bound
  law_well : DefT K mg "_law_well" s_law_well p_law_well
  law_draw : DefT K mg "_law_draw" s_law_draw p_law_draw
  law_great : DefT K mg "_law_great" s_law_great p_law_great
  law_shared : DefT K mg "_law_shared" s_law_shared p_law_shared
  law_part : DefT K mg "_law_part" s_law_part p_law_part
  law_right : DefT K mg "_law_right" s_law_right p_law_right
  law : DefT K mg "law" s_law p_law
end Fd
end

section
set_option Elab.async false
set_option linter.all false
set_option maxRecDepth 100000
set_option maxHeartbeats 4000000
/-! W3: tables; lowest, turned. -/
namespace Ew
open PySem PySem.Spec PyProof.Rows L2 Evl
section
variable {K : Fg} {σ : L2.St} {H H' : Hp} {ta tb te tx : TE} {t u : TT} {x y z v : V} {r : R2} {D : Ends} {tu tw tz : TS}
theorem ev_ixL {p : Addr} {i : Nat} {xs : List V} (h : Ev ta σ H (.ref p)) (h2 : Ev tb σ H (.int (i : Int))) (hx : H p = some (.lst xs)) (hi : xs[i]? = some v) : Ev (tOp (rIxL K) ta tb) σ H v := ev_op h h2 (rv_ixL (sq_of hx) (atI_nat hi))
theorem ev_ixT {p : Addr} {i : Nat} {xs : List V} (h : Ev ta σ H (.ref p)) (h2 : Ev tb σ H (.int (i : Int))) (hx : H p = some (.tup xs)) (hi : xs[i]? = some v) : Ev (tOp (rIxT K) ta tb) σ H v := ev_op h h2 (rv_ixT (st_of hx) (atI_nat hi))
theorem ev_neg1 : Ev (tUn (rU fun i => .int (-i)) (tC (.int 1))) σ H (.int (-1)) := ev_un ev_c ru_neg
theorem atI_lastD {xs : List V} (h : 0 < xs.length) : atI xs (-1) = some (xs.getLast (List.ne_nil_of_length_pos h)) := by
  have e : xs = xs.dropLast ++ [xs.getLast (List.ne_nil_of_length_pos h)] := (List.dropLast_concat_getLast _).symm
  conv => lhs; rw [e]
  exact atI_last _ _
theorem ev_ixEnd {p : Addr} {xs : List V} (h : Ev ta σ H (.ref p)) (h2 : Ev tb σ H (.int (-1))) (hx : H p = some (.lst xs)) (hv : xs.getLast? = some v) : Ev (tOp (rIxL K) ta tb) σ H v := by
  have hl : 0 < xs.length := by
    cases xs with
    | nil => cases hv
    | cons a r => exact Nat.succ_pos _
  refine ev_op h h2 (rv_ixL (sq_of hx) ?_)
  rw [atI_lastD hl]
  rw [List.getLast?_eq_some_getLast (List.ne_nil_of_length_pos hl)] at hv
  exact hv
theorem s_setN {l : Addr} {xs : List V} {j : Nat} {o : HO} (hl : H l = some (.lst xs)) (h : EvN te σ H o) (ho : Ev ta σ H (.ref l)) (hi : Ev tb σ H (.int (j : Int))) (hj : j < xs.length) (k : ∀ p H1, H p = none → Ex H H1 → H1 p = some o → D.nx σ (upd H1 l (.lst (xs.set j (.ref p))))) :
    tAsg te (gSub ta tb rSetL) D σ H := h H (Ex.refl H) _ fun p H1 hp e1 h1 => ho H1 e1 _ fun H2 e2 => hi H2 (e1.trans e2) _ fun H3 e3 =>
  ⟨l, xs, (j : Int), j, rfl, rfl, ((e1.trans e2).trans e3) l _ hl, ixN_nat hj, k p H3 hp ((e1.trans e2).trans e3) (e3 p _ (e2 p _ h1))⟩
theorem q_setN {l : Addr} {xs : List V} {j : Nat} {o : HO} (hl : H l = some (.lst xs)) (h : EvN te σ H o) (ho : Ev ta σ H (.ref l)) (hi : Ev tb σ H (.int (j : Int))) (hj : j < xs.length) (k : ∀ p H1, H p = none → Ex H H1 → H1 p = some o → tz D σ (upd H1 l (.lst (xs.set j (.ref p))))) :
    tSeq (tAsg te (gSub ta tb rSetL)) tz D σ H := s_setN (D := { D with nx := tz D }) hl h ho hi hj k
/-- a, b = x, y where a tuple is made -/
theorem s_tup2 {i j : Nat} {ta : TA} (h : EvA ta σ H [x, y]) (k : ∀ H1, Ex H H1 → D.nx ((σ.set i (some x)).set j (some y)) H1) : tAsg (tTup ta) (gTup K 2 (gCons (gName i) (gCons (gName j) gNil))) D σ H :=
  h H (Ex.refl H) _ fun H1 e1 => ⟨by show 2 ≤ sizeLine; decide, fun p hp => ⟨p, _, rfl, st_of upd_same, rfl, _, _, rfl, _, _, rfl, rfl, k _ (e1.trans (Ex.new hp))⟩⟩
theorem q_tup2 {i j : Nat} {ta : TA} (h : EvA ta σ H [x, y]) (k : ∀ H1, Ex H H1 → tz D ((σ.set i (some x)).set j (some y)) H1) : tSeq (tAsg (tTup ta) (gTup K 2 (gCons (gName i) (gCons (gName j) gNil)))) tz D σ H := s_tup2 (D := { D with nx := tz D }) h k
/-- a, b = e, e a pair that stands -/
theorem s_unp2 {i j : Nat} {p : Addr} (h : Ev te σ H (.ref p)) (hp : H p = some (.tup [x, y])) (k : ∀ H1, Ex H H1 → D.nx ((σ.set i (some x)).set j (some y)) H1) : tAsg te (gTup K 2 (gCons (gName i) (gCons (gName j) gNil))) D σ H :=
  h H (Ex.refl H) _ fun H1 e1 => ⟨p, _, rfl, st_of (e1 p _ hp), rfl, _, _, rfl, _, _, rfl, rfl, k _ e1⟩
theorem q_unp2 {i j : Nat} {p : Addr} (h : Ev te σ H (.ref p)) (hp : H p = some (.tup [x, y])) (k : ∀ H1, Ex H H1 → tz D ((σ.set i (some x)).set j (some y)) H1) : tSeq (tAsg te (gTup K 2 (gCons (gName i) (gCons (gName j) gNil)))) tz D σ H := s_unp2 (D := { D with nx := tz D }) h hp k
end
/-! ### lists of numbers, tables -/
def IL (H : Hp) (p : Addr) (r : List Int) : Prop := H p = some (.lst (r.map V.int))
theorem IL.at {H : Hp} {p : Addr} {r : List Int} (h : IL H p r) : H p = some (.lst (r.map V.int)) := h
theorem IL.ex {H H' : Hp} {p : Addr} {r : List Int} (e : Ex H H') (h : IL H p r) : IL H' p r := e p _ h
theorem int_at {r : List Int} {i : Nat} (h : i < r.length) : (r.map V.int)[i]? = some (.int (r.getD i 0)) := by
  rw [List.getElem?_map, List.getD_eq_getElem?_getD, List.getElem?_eq_getElem h]
  rfl
theorem int_last {r : List Int} (h : 0 < r.length) : (r.map V.int).getLast? = some (.int (r.getLastD 0)) := by
  rw [List.getLast?_map, List.getLastD_eq_getLast?, List.getLast?_eq_some_getLast (List.ne_nil_of_length_pos h)]
  rfl
theorem ref_at {ps : List Addr} {i : Nat} {p : Addr} (h : ps[i]? = some p) : (ps.map V.ref)[i]? = some (.ref p) := by
  rw [List.getElem?_map, h]
  rfl
/-- rows at addresses -/
structure Rows (H : Hp) (ps : List Addr) (T : List (List Int)) : Prop where
  len : ps.length = T.length
  row : ∀ i, i < T.length → ∃ p, ps[i]? = some p ∧ IL H p (T.getD i [])
theorem Rows.ex {H H' : Hp} {ps : List Addr} {T : List (List Int)} (e : Ex H H') (h : Rows H ps T) : Rows H' ps T := ⟨h.len, fun i hi => let ⟨p, h1, h2⟩ := h.row i hi; ⟨p, h1, h2.ex e⟩⟩
/-- a table at t -/
structure Mat (H : Hp) (t : Addr) (ps : List Addr) (T : List (List Int)) : Prop where
  at_ : H t = some (.lst (ps.map V.ref))
  rows : Rows H ps T
theorem Mat.ex {H H' : Hp} {t : Addr} {ps : List Addr} {T : List (List Int)} (e : Ex H H') (h : Mat H t ps T) : Mat H' t ps T := ⟨e t _ h.at_, h.rows.ex e⟩
/-- no row is the table itself -/
theorem Mat.ne {H : Hp} {t : Addr} {ps : List Addr} {T : List (List Int)} (h : Mat H t ps T) {i : Nat} {p : Addr} {r : List Int} (hp : ps[i]? = some p) (hr : IL H p r) : p ≠ t := fun e => by
  have h1 := h.at_
  rw [← e, hr.at] at h1
  have h2 := HO.lst.inj (Option.some.inj h1)
  have h3 : (ps.map V.ref)[i]? = some (.ref p) := ref_at hp
  rw [← h2, List.getElem?_map] at h3
  cases q : r[i]? with
  | none =>
    rw [q] at h3
    cases h3
  | some z =>
    rw [q] at h3
    cases h3
theorem Mat.del {H : Hp} {t : Addr} {ps : List Addr} {T : List (List Int)} (h : Mat H t ps T) : Rows (Ew.del H t) ps T := ⟨h.rows.len, fun i hi => by
  obtain ⟨p, h1, h2⟩ := h.rows.row i hi
  refine ⟨p, h1, ?_⟩
  show Ew.del H t p = _
  rw [del_ne (h.ne h1 h2)]
  exact h2⟩
theorem map_range_row {r : List Int} {n : Nat} (h : r.length = n) : r.map V.int = (List.range n).map fun i => V.int (r.getD i 0) := by
  refine List.ext_getElem? fun i => ?_
  rw [List.getElem?_map, List.getElem?_map]
  by_cases hi : i < n
  · rw [List.getElem?_range hi, List.getElem?_eq_getElem (by omega)]
    show some (V.int r[i]) = some (V.int (r.getD i 0))
    rw [List.getD_eq_getElem?_getD, List.getElem?_eq_getElem (by omega)]
    rfl
  · rw [List.getElem?_eq_none (by omega), List.getElem?_eq_none (by rw [List.length_range]; omega)]
    rfl
end Ew
namespace Fd
open PySem PySem.Spec PyProof.Rows L2 Evl Ew Tx
section
variable {P : Program} {w : World} {K : PySem.W.Frag} {mg : Str → Option Value} {base : Heap}
def RetN (o : HO) (H : Hp) (Q : VK) : Prop := ∀ p H2, H p = none → Ex H H2 → H2 p = some o → Q (.ref p) H2
/-! ### sizes -/
theorem log_fit {x : Int} (h : FR.Fit x) : x.natAbs.log2 < 4000 := by
  by_cases e : x.natAbs = 0
  · rw [e]
    decide
  · have h1 : x.natAbs < FR.FITN := h
    have e2 : FR.FITN = 2 ^ 4000 := by decide +kernel
    rw [e2] at h1
    exact (Nat.log2_lt e).mpr h1
theorem mul_fit {x y : Int} (hx : FR.Fit x) (hy : FR.Fit y) : CMulW x y := by
  have h1 := log_fit hx
  have h2 := log_fit hy
  unfold CMulW
  omega
theorem div_fit {x y : Int} (h : 0 < y) (hy : FR.Fit y) : CDivW x y := by
  have h2 := log_fit hy
  exact ⟨h, by omega⟩
theorem fit_le {x y : Int} (h : x.natAbs ≤ y.natAbs) (hy : FR.Fit y) : FR.Fit x := Nat.lt_of_le_of_lt h hy
/-! ### lowest -/
def lowI (a b : Int) : Int × Int := (a.fdiv (Int.gcd a b), b.fdiv (Int.gcd a b))
def sp_lowest : Sp := fun vs H Q _ => ∃ a b : Int, vs = [.int a, .int b] ∧ 0 < b ∧ FR.Fit b ∧ RetN (.tup [.int (lowI a b).1, .int (lowI a b).2]) H Q
theorem gcd_pos {a b : Int} (h : 0 < b) : (0 : Int) < (Int.gcd a b : Int) := by
  have := Int.gcd_pos_of_ne_zero_right a (show b ≠ 0 by omega)
  omega
theorem gcd_fit {a b : Int} (h : 0 < b) (hb : FR.Fit b) : FR.Fit (Int.gcd a b : Int) := fit_le (by
  have h1 : Int.gcd a b ∣ b.natAbs := by
    unfold Int.gcd
    exact Nat.gcd_dvd_right _ _
  have h2 := Nat.le_of_dvd (by omega) h1
  omega) hb
theorem ok_lowest (T : Txt K mg) : FnOk P w K mg base CX0 2 T.lowest.a T.lowest.d p_lowest sp_lowest := by
  have G := ok_shared (P := P) (w := w) (base := base) T.shared.F T.z.abs
  refine T.lowest.F.ok sc_lowest (fun vs H Q E h => ?_) (fun cdv A outer s H vs Q E hr h => ?_)
  · obtain ⟨a, b, rfl, _⟩ := h
    rfl
  · obtain ⟨a, b, rfl, hb, hf, k⟩ := h
    refine ⟨_, pss_cons (ps_set (i := 2) sc_lowest.nd rfl (Or.inl rfl) (pe_call G hr (by rfl) T.shared.g T.shared.F.kp T.shared.b .nil pass0 (pa_cons (pv 0) (pa_cons (pv 1) pa_nil))))
      (pss_one (ps_ret (pe_tup (pa_cons (pe_op op_fdivW (pv 0) (pv 2)) (pa_cons (pe_op op_fdivW (pv 1) (pv 2)) pa_nil))))), ?_⟩
    refine q_asg (ev_call (z := .int (Int.gcd a b : Int)) (ea_cons (ev_var rfl) (ea_cons (ev_var rfl) ea_nil)) fun H1 e1 Q q E => ⟨a, b, rfl, q⟩) fun H1 e1 => ?_
    have hc : ∀ i : Int, CDivW i (Int.gcd a b : Int) := fun i => div_fit (gcd_pos hb) (gcd_fit hb hf)
    exact s_retU (eu_tup (ea_cons (ev_fdivW (ev_var rfl) (ev_var rfl) (hc a)) (ea_cons (ev_fdivW (ev_var rfl) (ev_var rfl) (hc b)) ea_nil)) (by show 2 ≤ 100000; decide)) fun p H2 hp e2 h2 => k p H2 (fresh_back e1 hp) (e1.trans e2) h2
end
end Fd
end

section
set_option Elab.async false
set_option linter.all false
set_option maxRecDepth 100000
set_option maxHeartbeats 4000000
/-! W4: turned. -/
namespace Fd
open PySem PySem.Spec PyProof.Rows L2 Evl Ew Tx FR
section
variable {P : Program} {w : World} {K : PySem.W.Frag} {mg : Str → Option Value} {base : Heap}
/-- a rectangle of numbers that fit -/
def sp_turned : Sp := fun vs H Q _ => ∃ (t : Addr) (ps : List Addr) (T : List (List Int)) (n : Nat) (b : Int) (r c : Nat) (T' : List (List Int)) (by_ : Int), vs = [.ref t, .int b, .int (r : Int), .int (c : Int)] ∧ Mat H t ps T ∧ TabOk n T ∧ n ≤ 201 ∧ T.length ≤ 201 ∧ r < T.length ∧ c < n ∧
  turned intN T b r c = some (T', by_) ∧ ∀ H2 ps2, Ex (del H t) H2 → Mat H2 t ps2 T' → (∀ q ∈ ps2, q ∈ ps ∨ H q = none) → Q (.int by_) H2
theorem set_refs {ps : List Addr} {j : Nat} {p : Addr} : (ps.map V.ref).set j (.ref p) = (ps.set j p).map V.ref := List.map_set.symm
/-- a row of the table is another -/
theorem Rows.set {H H' : Hp} {ps : List Addr} {T : List (List Int)} {j : Nat} {p : Addr} {r : List Int} (h : Rows H ps T) (e : ∀ i q s, i < T.length → i ≠ j → ps[i]? = some q → IL H q s → IL H' q s) (hp : IL H' p r) (hj : j < T.length) : Rows H' (ps.set j p) (T.set j r) := by
  refine ⟨by rw [List.length_set, List.length_set, h.len], fun i hi => ?_⟩
  rw [List.length_set] at hi
  by_cases q : i = j
  · subst q
    refine ⟨p, List.getElem?_set_self (by rw [h.len]; exact hi), ?_⟩
    rw [List.getD_eq_getElem?_getD, List.getElem?_set_self hi]
    exact hp
  · obtain ⟨a, h1, h2⟩ := h.row i hi
    refine ⟨a, by rw [List.getElem?_set_ne (Ne.symm q)]; exact h1, ?_⟩
    rw [List.getD_eq_getElem?_getD, List.getElem?_set_ne (Ne.symm q), ← List.getD_eq_getElem?_getD]
    exact e i a _ hi q h1 h2
/-- the table with a new row at j -/
theorem Mat.put {H H1 : Hp} {t : Addr} {ps : List Addr} {T : List (List Int)} {j : Nat} {p : Addr} {r : List Int} (h : Mat H t ps T) (e : Ex H H1) (hn : H p = none) (hp : IL H1 p r) (hj : j < T.length) : Mat (upd H1 t (.lst ((ps.map V.ref).set j (.ref p)))) t (ps.set j p) (T.set j r) := by
  have npt : p ≠ t := fun z => by
    rw [z, h.at_] at hn
    cases hn
  refine ⟨by rw [upd_same, set_refs], Rows.set h.rows (fun i q s hi _ hq hs => ?_) ?_ hj⟩
  · show upd H1 t _ q = _
    rw [upd_ne (h.ne hq hs)]
    exact e q _ hs
  · show upd H1 t _ p = _
    rw [upd_ne npt]
    exact hp
theorem range_map_getD {r : List Int} {n : Nat} {f : Int → Int} (h : r.length = n) : (List.range n).map (fun i => V.int (f (r.getD i 0))) = (r.map f).map V.int := by
  rw [List.map_map]
  refine List.ext_getElem? fun i => ?_
  rw [List.getElem?_map, List.getElem?_map]
  by_cases hi : i < n
  · rw [List.getElem?_range hi, List.getElem?_eq_getElem (by omega)]
    show some (V.int (f (r.getD i 0))) = some (V.int (f r[i]))
    rw [List.getD_eq_getElem?_getD, List.getElem?_eq_getElem (by omega)]
    rfl
  · have h1 : (List.range n)[i]? = none := List.getElem?_eq_none (by rw [List.length_range]; omega)
    have h2 : r[i]? = none := List.getElem?_eq_none (by omega)
    rw [h1, h2]
    rfl
theorem range_map_zip {r s : List Int} {n : Nat} {f : Int → Int → Int} (h : r.length = n) (h2 : s.length = n) : (List.range n).map (fun i => V.int (f (r.getD i 0) (s.getD i 0))) = (List.zipWith f r s).map V.int := by
  refine List.ext_getElem? fun i => ?_
  rw [List.getElem?_map, List.getElem?_map]
  by_cases hi : i < n
  · rw [List.getElem?_range hi, List.getElem?_zipWith, List.getElem?_eq_getElem (show i < r.length by omega), List.getElem?_eq_getElem (show i < s.length by omega)]
    show some (V.int (f (r.getD i 0) (s.getD i 0))) = some (V.int (f r[i] s[i]))
    rw [List.getD_eq_getElem?_getD, List.getElem?_eq_getElem (show i < r.length by omega), List.getD_eq_getElem?_getD, List.getElem?_eq_getElem (show i < s.length by omega)]
    rfl
  · have h3 : (List.range n)[i]? = none := List.getElem?_eq_none (by rw [List.length_range]; omega)
    have h4 : (List.zipWith f r s)[i]? = none := List.getElem?_eq_none (by rw [List.length_zipWith]; omega)
    rw [h3, h4]
    rfl
theorem mem_getD {r : List Int} {i : Nat} (h : i < r.length) : r.getD i 0 ∈ r := by
  rw [List.getD_eq_getElem?_getD, List.getElem?_eq_getElem h]
  exact List.getElem_mem h
theorem atV_int {r : List Int} {i : Nat} (h : i < r.length) : atV (r.map V.int) i = .int (r.getD i 0) := atV_of (int_at h)
theorem old_none {H H' : Hp} {t p : Addr} (e : Ex (del H t) H') (h : p ≠ t) (hp : H' p = none) : H p = none := by
  have h1 := fresh_back e hp
  rw [del_ne h] at h1
  exact h1
theorem set_new {ps ps' : List Addr} {H : Hp} {i : Nat} {p : Addr} (h : ∀ q ∈ ps', q ∈ ps ∨ H q = none) (hp : H p = none) : ∀ q ∈ ps'.set i p, q ∈ ps ∨ H q = none := fun q hq => by
  rcases List.mem_or_eq_of_mem_set hq with z | z
  · exact h q z
  · rw [z]
    exact .inr hp
theorem ok_turned (T : Txt K mg) : FnOk P w K mg base CX0 1 T.turned.a T.turned.d p_turned sp_turned := by
  refine T.turned.F.ok sc_turned (fun vs H Q E h => ?_) (fun cdv A outer s H vs Q E hr h => ?_)
  · obtain ⟨t, ps, T, n, b, r, c, T', by_, rfl, _⟩ := h
    rfl
  · obtain ⟨t, ps, M, n, b, r, c, M', by_, rfl, hM, hT, hn, hm, hrl, hc, ht, k⟩ := h
    refine ⟨_, pss_cons (ps_if (pt_cmpR op_lt (pe_ix ix_list (pe_ix ix_list (pv 0) (pv 2) (fun _ _ => rfl)) (pv 3) (fun _ _ => rfl)) pe_int (nomark _))
        (pss_one (ps_asg (pe_lc (own := [("part", 9)]) (by rfl) sc_turned.nd (pi_list (pe_ix ix_list (pv 0) (pv 2) (fun _ _ => rfl))) (blkOk_by (own := [("part", 9)]) (N := n_turned) (sc := defScope s_turned) (by decide +kernel))
            (fun _ _ _ _ _ => pg_name (i := 9) sc_turned.nd rfl (Or.inl rfl)) (fun _ _ _ _ _ => pts_nil) (fun _ _ _ _ _ => pe_un un_neg (pv 9))) (pg_sub (pv 0) (pv 2) set_list))) pss_nil)
      (pss_cons (ps_set (i := 4) sc_turned.nd rfl (Or.inr rfl) (pe_ix ix_list (pe_ix ix_list (pv 0) (pv 2) (fun _ _ => rfl)) (pv 3) (fun _ _ => rfl)))
      (pss_cons (ps_set (i := 5) sc_turned.nd rfl (Or.inr rfl) (pe_ix ix_list (pv 0) (pv 2) (fun _ _ => rfl)))
      (pss_cons (ps_for PassesOwn.never rfl (pi_range1 (by rfl) T.z.range (pa_cons (pe_callB call_len_seq (by rfl) T.z.len PySem.boot_len (pa_cons (pv 0) pa_nil)) pa_nil)) (pg_name (i := 6) sc_turned.nd rfl (Or.inl rfl))
        (pss_one (ps_if (pt_cmpR op_ne (pv 6) (pv 2) (nomark _))
          (pss_cons (ps_asg (pe_tup (pa_cons (pe_ix ix_list (pe_ix ix_list (pv 0) (pv 6) (fun _ _ => rfl)) (pv 3) (fun _ _ => rfl)) (pa_cons (pe_ix ix_list (pv 0) (pv 6) (fun _ _ => rfl)) pa_nil)))
              (pg_tup rfl (pgs_cons (pg_name (i := 7) sc_turned.nd rfl (Or.inr rfl)) (pgs_cons (pg_name (i := 8) sc_turned.nd rfl (Or.inl rfl)) pgs_nil))))
          (pss_one (ps_asg (pe_lc (own := [("k", 10), ("part", 9)]) (g := gTup K 2 (gCons (gName 10) (gCons (gName 9) gNil))) (by rfl) sc_turned.nd (pi_enum (by rfl) T.z.enumerate (pa_cons (pv 8) pa_nil)) (blkOk_by (own := [("k", 10), ("part", 9)]) (N := n_turned) (sc := defScope s_turned) (by decide +kernel))
            (fun _ _ _ _ _ => pg_tup rfl (pgs_cons (pg_name (i := 10) sc_turned.nd rfl (Or.inl rfl) (Or.inr rfl)) (pgs_cons (pg_name (i := 9) sc_turned.nd rfl (Or.inl rfl) (Or.inr rfl)) pgs_nil))) (fun _ _ _ _ _ => pts_nil)
            (fun _ _ _ _ _ => pe_op op_fdivW (pe_op op_sub (pe_op op_mulW (pv 9) (pv 4)) (pe_op op_mulW (pv 7) (pe_ix (r := rIxL K) ix_list (pv 5) (pv 10) (fun _ _ => rfl)))) (pv 1))) (pg_sub (pv 0) (pv 6) set_list)))) pss_nil)))
      (pss_one (ps_ret (pv 4)))))), ?_⟩
    obtain ⟨hb, hbf, hby, hel⟩ := turned_some ht
    obtain ⟨hl', hrow⟩ := elimAll_some hel
    have hMl : M'.length = M.length := hl'
    have hown := own_ok (c := c) hT hrl
    have hRr := hT _ (getD_mem hrl)
    obtain ⟨pr, hpr, hIr⟩ := hM.rows.row r hrl
    have hMn : ps.length = M.length := hM.rows.len
    -- the first if: the table has own at r
    have step1 : ∀ H1 ps1, Ex (del H t) H1 → (∀ q ∈ ps1, q ∈ ps ∨ H q = none) → Mat H1 t ps1 (M.set r (ownI M r c)) →
        tSeq (tAsg (tOp (rIxL K) (tOp (rIxL K) (tVar 0) (tVar 2)) (tVar 3)) (gName 4)) (tSeq (tAsg (tOp (rIxL K) (tVar 0) (tVar 2)) (gName 5)) (tSeq (tFor (iRng1 (tCons (tCB (rLenS K) (tCons (tVar 0) tNil)) tNil)) (gName 6)
          (tIfS (tTest (tOp rNe (tVar 6) (tVar 2))) (tSeq (tAsg (tTup (tCons (tOp (rIxL K) (tOp (rIxL K) (tVar 0) (tVar 6)) (tVar 3)) (tCons (tOp (rIxL K) (tVar 0) (tVar 6)) tNil))) (gTup K 2 (gCons (gName 7) (gCons (gName 8) gNil))))
            (tAsg (tLc (iEnum K (tCons (tVar 8) tNil)) (gTup K 2 (gCons (gName 10) (gCons (gName 9) gNil))) tYes (tOp (rI CDivW fun i j => .int (i / j)) (tOp (rI0 fun i j => .int (i - j)) (tOp (rI CMulW fun i j => .int (i * j)) (tVar 9) (tVar 4)) (tOp (rI CMulW fun i j => .int (i * j)) (tVar 7) (tOp (rIxL K) (tVar 5) (tVar 10)))) (tVar 1)) [10, 9]) (gSub (tVar 0) (tVar 6) rSetL))) tNext)) (tRet (tVar 4))))
          { nx := fun _ H' => Q .non H', rt := Q } (start n_turned [.ref t, .int b, .int (r : Int), .int (c : Int)]) H1 := by
      intro H1 ps1 e1 hq1 hM1
      have hl1 : (M.set r (ownI M r c)).length = M.length := List.length_set
      have hg1 : (M.set r (ownI M r c)).getD r [] = ownI M r c := by
        rw [List.getD_eq_getElem?_getD, List.getElem?_set_self hrl]
        rfl
      obtain ⟨po, hpo, hIo⟩ := hM1.rows.row r (by rw [hl1]; exact hrl)
      rw [hg1] at hIo
      have hco : c < (ownI M r c).length := by
        rw [hown.1]
        exact hc
      refine q_asg (ev_ixL (ev_ixL (ev_var rfl) (ev_var rfl) hM1.at_ (ref_at hpo)) (ev_var rfl) hIo.at (int_at hco)) fun H2 e2 => ?_
      refine q_asg (ev_ixL (ev_var rfl) (ev_var rfl) (hM1.ex e2).at_ (ref_at hpo)) fun H3 e3 => ?_
      have e13 := e2.trans e3
      have hM3 := hM1.ex e13
      have hpot : po ≠ t := hM1.ne hpo hIo
      rw [← hby]
      refine q_for (ew_range M.length (ea_cons (ev_len (ev_var rfl) (sq_of hM3.at_)) ea_nil) (by rw [List.length_map, hM1.rows.len, hl1]) (by omega))
        (fun i σ' H' => ∃ a6 a7 a8 a9 a10 ps', σ' = [some (.ref t), some (.int b), some (.int (r : Int)), some (.int (c : Int)), some (.int by_), some (.ref po), a6, a7, a8, a9, a10] ∧ Ex (del H t) H' ∧ (∀ q ∈ ps', q ∈ ps ∨ H q = none) ∧ IL H' po (ownI M r c) ∧
          ∃ Ti : List (List Int), Mat H' t ps' Ti ∧ Ti.length = M.length ∧ (∀ j, j < M.length → Ti.getD j [] = if j < i then M'.getD j [] else (M.set r (ownI M r c)).getD j []))
        (fun H4 e4 _ => ⟨_, _, _, _, _, ps1, rfl, (e1.trans e13).trans e4, hq1, hIo.ex (e13.trans e4), _, hM3.ex e4, hl1, fun j hj => by rw [if_neg (Nat.not_lt_zero j)]⟩) (fun _ _ _ _ => trivial)
        (fun i x σ' H4 H5 hi hP y => ?_) (fun σ' H4 hP => ?_)
      · obtain ⟨a6, a7, a8, a9, a10, ps', rfl, e4, hq4, hIo4, Ti, hM4, hl4, hTi⟩ := hP
        refine y_name y ?_
        by_cases hir : i = r
        · refine s_when (ev_neI (ev_var rfl) (ev_var rfl)) (fun hb2 => ?_) (fun _ H6 e6 => ?_)
          · rw [hir, decide_eq_true rfl] at hb2
            cases hb2
          · refine ⟨_, _, _, _, _, ps', rfl, e4.trans e6, hq4, hIo4.ex e6, Ti, hM4.ex e6, hl4, fun j hj => ?_⟩
            rw [hTi j hj]
            by_cases hji : j < i
            · rw [if_pos hji, if_pos (by omega)]
            · by_cases hje : j = i
              · rw [if_neg hji, if_pos (by omega), hje, hir, hg1]
                obtain ⟨k1, _⟩ := hrow r hrl
                rw [Nat.zero_add] at k1
                rw [k1]
                unfold lineI
                rw [if_pos rfl]
              · rw [if_neg hji, if_neg (by omega)]
        · obtain ⟨k1, k2⟩ := hrow i hi
          rw [Nat.zero_add] at k1 k2
          have hTii : Ti.getD i [] = M.getD i [] := by
            rw [hTi i hi, if_neg (Nat.lt_irrefl i), List.getD_eq_getElem?_getD, List.getElem?_set_ne (Ne.symm hir), ← List.getD_eq_getElem?_getD]
          have hRi := hT _ (getD_mem hi)
          obtain ⟨pi, hpi, hIi⟩ := hM4.rows.row i (by omega)
          rw [hTii] at hIi
          refine s_when (ev_neI (ev_var rfl) (ev_var rfl)) (fun _ H6 e6 => ?_) (fun hb2 => ?_)
          · refine q_tup2 (ea_cons (ev_ixL (ev_ixL (ev_var rfl) (ev_var rfl) (hM4.ex e6).at_ (ref_at hpi)) (ev_var rfl) (hIi.ex e6).at (int_at (by rw [hRi.1]; exact hc))) (ea_cons (ev_ixL (ev_var rfl) (ev_var rfl) (hM4.ex e6).at_ (ref_at hpi)) ea_nil)) fun H7 e7 => ?_
            have e47 := e6.trans e7
            have hM7 := hM4.ex e47
            have hI7 := hIi.ex e47
            have ho7 := hIo4.ex e47
            have hline : ((M.getD i []).map V.int).length = n := by rw [List.length_map, hRi.1]
            refine s_setN (o := .lst ((List.zipWith (elimV by_ ((M.getD i []).getD c 0) b) (M.getD i []) (ownI M r c)).map V.int)) hM7.at_ ?_ (ev_var rfl) (ev_var rfl) (by rw [List.length_map, hM4.rows.len]; omega) fun p H8 hp e8 h8 => ?_
            · rw [← range_map_zip hRi.1 hown.1]
              have hI0 := ei_enum (K := K) (ta := tCons (tVar 8) tNil) (σ := [some (.ref t), some (.int b), some (.int (r : Int)), some (.int (c : Int)), some (.int by_), some (.ref po), some (.int (i : Int)), some (.int ((M.getD i []).getD c 0)), some (.ref pi), a9, a10]) (ea_cons (ev_var rfl) ea_nil) hI7.at
              rw [hline] at hI0
              refine el_map (fun j => .int (elimV by_ ((M.getD i []).getD c 0) b ((M.getD i []).getD j 0) ((ownI M r c).getD j 0))) hI0 (by omega) tg_pair (fun _ => rfl) fun j H9 e9 hj => ?_
              have hj1 : j < (M.getD i []).length := by rw [hRi.1]; exact hj
              have hj2 : j < (ownI M r c).length := by rw [hown.1]; exact hj
              have f1 : Fit ((M.getD i []).getD j 0) := hRi.2 _ (mem_getD hj1)
              have f2 : Fit ((ownI M r c).getD j 0) := hown.2 _ (mem_getD hj2)
              have f3 : Fit by_ := (show by_ = (ownI M r c).getD c 0 from hby) ▸ hown.2 _ (mem_getD hco)
              have f4 : Fit ((M.getD i []).getD c 0) := hRi.2 _ (mem_getD (by rw [hRi.1]; exact hc))
              refine ev_fdivW (ev_op (ev_op (ev_var ?_) (ev_var rfl) (rv_I (mul_fit f1 f3))) (ev_op (ev_var rfl) (ev_ixL (ev_var rfl) (ev_var rfl) (ho7.ex e9).at (int_at hj2)) (rv_I (mul_fit f4 f2))) rv_I0) (ev_var rfl) (div_fit hb hbf)
              rw [atV_int hj1]
              rfl
            · have npt : p ≠ t := fun z => by
                rw [z, hM7.at_] at hp
                cases hp
              refine ⟨_, _, _, _, _, ps'.set i p, rfl, ?_, set_new hq4 (old_none (e4.trans e47) npt hp), ?_, Ti.set i (M'.getD i []), ?_, by rw [List.length_set, hl4], fun j hj => ?_⟩
              · exact Ex.mut ((e4.trans e47).trans e8) del_at
              · show upd H8 t _ po = _
                rw [upd_ne hpot]
                exact (ho7.ex e8)
              · refine Mat.put hM7 e8 hp ?_ (by omega)
                rw [k1]
                unfold lineI
                rw [if_neg hir]
                exact h8
              · by_cases hje : j = i
                · rw [hje, List.getD_eq_getElem?_getD, List.getElem?_set_self (by omega), if_pos (Nat.lt_succ_self i)]
                  rfl
                · rw [List.getD_eq_getElem?_getD, List.getElem?_set_ne (Ne.symm hje), ← List.getD_eq_getElem?_getD, hTi j hj]
                  by_cases hji : j < i
                  · rw [if_pos hji, if_pos (by omega)]
                  · rw [if_neg hji, if_neg (by omega)]
          · have z := of_decide_eq_true (Bool.not_eq_false' .. ▸ hb2 : decide ((i : Int) = (r : Int)) = true)
            omega
      · obtain ⟨a6, a7, a8, a9, a10, ps', rfl, e4, hq4, hIo4, Ti, hM4, hl4, hTi⟩ := hP
        have eT : Ti = M' := by
          refine List.ext_getElem (by omega) fun j h1 h2 => ?_
          have h3 := hTi j (by omega)
          rw [if_pos (by omega), List.getD_eq_getElem?_getD, List.getD_eq_getElem?_getD, List.getElem?_eq_getElem h1, List.getElem?_eq_getElem h2] at h3
          exact h3
        rw [eT] at hM4
        exact s_ret (ev_var rfl) fun H5 e5 => k H5 ps' (e4.trans e5) (hM4.ex e5) hq4
    by_cases hneg : (M.getD r []).getD c 0 < 0
    · refine q_if (ev_lt (ev_ixL (ev_ixL (ev_var rfl) (ev_var rfl) hM.at_ (ref_at hpr)) (ev_var rfl) hIr.at (int_at (by rw [hRr.1]; exact hc))) ev_c) (fun _ H1 e1 => ?_) (fun hb2 => absurd hneg (of_decide_eq_false hb2))
      have hM1 := hM.ex e1
      have hI1 := hIr.ex e1
      refine s_setN (o := .lst ((ownI M r c).map V.int)) hM1.at_ ?_ (ev_var rfl) (ev_var rfl) (by rw [List.length_map, hMn]; exact hrl) fun p H2 hp e2 h2 => ?_
      · have eo : ownI M r c = (M.getD r []).map (fun x => -x) := by
          unfold ownI
          rw [if_pos hneg]
        rw [eo, ← range_map_getD hRr.1]
        have hI0 := ei_list (K := K) (tl := tOp (rIxL K) (tVar 0) (tVar 2)) (σ := start n_turned [.ref t, .int b, .int (r : Int), .int (c : Int)]) (ev_ixL (ev_var rfl) (ev_var rfl) hM1.at_ (ref_at hpr)) hI1.at
        rw [List.length_map, hRr.1] at hI0
        refine el_map (fun j => .int (-((M.getD r []).getD j 0))) hI0 (by omega) tg_name (fun _ => rfl) fun j H9 e9 hj => ?_
        refine ev_un (ev_var ?_) ru_neg
        rw [atV_int (by rw [hRr.1]; exact hj)]
        rfl
      · have npt : p ≠ t := fun z => by
          rw [z, hM1.at_] at hp
          cases hp
        exact step1 _ _ (Ex.mut ((ex_del.trans e1).trans e2) del_at) (set_new (fun q hq => .inl hq) (old_none (ex_del.trans e1) npt hp)) (Mat.put hM1 e2 hp h2 hrl)
    · refine q_if (ev_lt (ev_ixL (ev_ixL (ev_var rfl) (ev_var rfl) hM.at_ (ref_at hpr)) (ev_var rfl) hIr.at (int_at (by rw [hRr.1]; exact hc))) ev_c) (fun hb2 => absurd (of_decide_eq_true hb2) hneg) (fun _ H1 e1 => ?_)
      have eo : M.set r (ownI M r c) = M := by
        unfold ownI
        rw [if_neg hneg]
        refine List.ext_getElem? fun j => ?_
        by_cases hj : j = r
        · subst hj
          rw [List.getElem?_set_self hrl, List.getD_eq_getElem?_getD, List.getElem?_eq_getElem hrl]
          rfl
        · rw [List.getElem?_set_ne (Ne.symm hj)]
      have h0 := step1 H1 ps (ex_del.trans e1) (fun q hq => .inl hq)
      rw [eo] at h0
      exact h0 (hM.ex e1)
end
end Fd
end

section
set_option Elab.async false
set_option linter.all false
set_option maxRecDepth 100000
set_option maxHeartbeats 4000000
/-! W5: leaving, climbed. -/
namespace Ew
open PySem PySem.Spec PyProof.Rows L2 Evl
section
variable {K : Fg} {σ : L2.St} {H H' : Hp} {ta tb te tx : TE} {t u : TT} {x y z v : V} {r : R2} {D : Ends} {tu tw tz : TS}
theorem ev_isN (h : Ev ta σ H v) : EvT (tTest (tOp (fun x y H Q => y = .non ∧ Q (.bl (decide (x = .non))) H) ta (tC .non))) σ H (decide (v = .non)) :=
  et_test (ev_op h ev_c fun H1 _ _ q => ⟨rfl, q H1 (Ex.refl H1)⟩)
theorem ev_notN (h : Ev ta σ H v) : EvT (tTest (tOp (fun x y H Q => y = .non ∧ Q (.bl (!decide (x = .non))) H) ta (tC .non))) σ H (!decide (v = .non)) :=
  et_test (ev_op h ev_c fun H1 _ _ q => ⟨rfl, q H1 (Ex.refl H1)⟩)
theorem ev_mulW {i j : Int} (h : Ev ta σ H (.int i)) (h2 : Ev tb σ H (.int j)) (hc : CMulW i j) : Ev (tOp (rI CMulW fun i j => .int (i * j)) ta tb) σ H (.int (i * j)) := ev_op h h2 (rv_I hc)
theorem ev_sub {i j : Int} (h : Ev ta σ H (.int i)) (h2 : Ev tb σ H (.int j)) : Ev (tOp (rI0 fun i j => .int (i - j)) ta tb) σ H (.int (i - j)) := ev_op h h2 rv_I0
theorem ev_add {i j : Int} (h : Ev ta σ H (.int i)) (h2 : Ev tb σ H (.int j)) : Ev (tOp (rI0 fun i j => .int (i + j)) ta tb) σ H (.int (i + j)) := ev_op h h2 rv_I0
/-- a truth value, known -/
theorem s_yes {b : Bool} (h : EvT t σ H b) (hb : b = true) (k : ∀ H1, Ex H H1 → tu D σ H1) : tIfS t tu tw D σ H := s_if h (fun _ H1 e => k H1 e) (fun q => by rw [hb] at q; cases q)
theorem s_no {b : Bool} (h : EvT t σ H b) (hb : b = false) (k : ∀ H1, Ex H H1 → tw D σ H1) : tIfS t tu tw D σ H := s_if h (fun q => by rw [hb] at q; cases q) (fun _ H1 e => k H1 e)
theorem q_yes {b : Bool} (h : EvT t σ H b) (hb : b = true) (k : ∀ H1, Ex H H1 → tu { D with nx := tz D } σ H1) : tSeq (tIfS t tu tw) tz D σ H := s_yes (D := { D with nx := tz D }) h hb k
theorem q_no {b : Bool} (h : EvT t σ H b) (hb : b = false) (k : ∀ H1, Ex H H1 → tw { D with nx := tz D } σ H1) : tSeq (tIfS t tu tw) tz D σ H := s_no (D := { D with nx := tz D }) h hb k
theorem q_call {sp : Sp} {dvs vs : List V} {E : XK} {ta : TA} {i : Nat} (h : EvA ta σ H vs) (k : ∀ H1, Ex H H1 → sp (vs ++ dvs) H1 (fun v H2 => tz D (σ.set i (some v)) H2) E) : tSeq (tAsg (tCall sp dvs E ta) (gName i)) tz D σ H := h H (Ex.refl H) _ k
theorem s_call {sp : Sp} {dvs vs : List V} {E : XK} {ta : TA} {i : Nat} (h : EvA ta σ H vs) (k : ∀ H1, Ex H H1 → sp (vs ++ dvs) H1 (fun v H2 => D.nx (σ.set i (some v)) H2) E) : tAsg (tCall sp dvs E ta) (gName i) D σ H := h H (Ex.refl H) _ k
theorem q_skip {b : Bool} (h : EvT t σ H b) (hb : b = false) (k : ∀ H1, Ex H H1 → tz D σ H1) : tSeq (tIfS t tu tNext) tz D σ H := q_when h (fun q => by rw [hb] at q; cases q) (fun _ H1 e => k H1 e)
theorem s_skip {b : Bool} (h : EvT t σ H b) (hb : b = false) (k : ∀ H1, Ex H H1 → D.nx σ H1) : tIfS t tu tNext D σ H := s_when h (fun q => by rw [hb] at q; cases q) (fun _ H1 e => k H1 e)
end
/-- a list of counts -/
def NL (H : Hp) (p : Addr) (r : List Nat) : Prop := H p = some (.lst (r.map fun (n : Nat) => V.int (n : Int)))
theorem NL.at {H : Hp} {p : Addr} {r : List Nat} (h : NL H p r) : H p = some (.lst (r.map fun (n : Nat) => V.int (n : Int))) := h
theorem NL.ex {H H' : Hp} {p : Addr} {r : List Nat} (e : Ex H H') (h : NL H p r) : NL H' p r := e p _ h
theorem nat_at {r : List Nat} {i : Nat} (h : i < r.length) : (r.map fun (n : Nat) => V.int (n : Int))[i]? = some (.int (r.getD i 0 : Nat)) := by
  rw [List.getElem?_map, List.getD_eq_getElem?_getD, List.getElem?_eq_getElem h]
  rfl
def optV : Option Nat → V
  | none => .non
  | some j => .int (j : Int)
end Ew
namespace Fd
open PySem PySem.Spec PyProof.Rows L2 Evl Ew Tx FR
section
variable {P : Program} {w : World} {K : PySem.W.Frag} {mg : Str → Option Value} {base : Heap}
def sp_leaving : Sp := fun vs H Q _ => ∃ (t bp : Addr) (ps : List Addr) (T : List (List Int)) (bs : List Nat) (n m c : Nat), vs = [.ref t, .int (m : Int), .ref bp, .int (c : Int)] ∧ Mat H t ps T ∧ TabOk n T ∧ m ≤ 201 ∧ m ≤ T.length ∧ NL H bp bs ∧ bs.length = m ∧ c < n ∧
  RetV (optV (lvAt T bs c m)) H Q
theorem fit_row {n : Nat} {T : List (List Int)} (h : TabOk n T) {i c : Nat} (hi : i < T.length) (hc : c < n) : Fit ((T.getD i []).getD c 0) := by
  have h1 := h _ (getD_mem hi)
  exact h1.2 _ (mem_getD (by rw [h1.1]; exact hc))
theorem last_mem {r : List Int} (h : 0 < r.length) : r.getLastD 0 ∈ r := by
  rw [List.getLastD_eq_getLast?, List.getLast?_eq_some_getLast (List.ne_nil_of_length_pos h)]
  exact List.getLast_mem _
theorem fit_last {n : Nat} {T : List (List Int)} (h : TabOk n T) {i : Nat} (hi : i < T.length) (hn : 0 < n) : Fit ((T.getD i []).getLastD 0) := by
  have h1 := h _ (getD_mem hi)
  exact h1.2 _ (last_mem (by rw [h1.1]; exact hn))
theorem ok_leaving (T : Txt K mg) : FnOk P w K mg base CX0 1 T.leaving.a T.leaving.d p_leaving sp_leaving := by
  refine T.leaving.F.ok sc_leaving (fun vs H Q E h => ?_) (fun cdv A outer s H vs Q E hr h => ?_)
  · obtain ⟨t, bp, ps, M, bs, n, m, c, rfl, _⟩ := h
    rfl
  · obtain ⟨t, bp, ps, M, bs, n, m, c, rfl, hM, hT, hm, hml, hB, hbl, hc, k⟩ := h
    refine ⟨_, pss_cons (ps_set (i := 4) sc_leaving.nd rfl (Or.inl rfl) pe_non)
      (pss_cons (ps_for PassesOwn.never rfl (pi_range1 (by rfl) T.z.range (pa_cons (pv 1) pa_nil)) (pg_name (i := 5) sc_leaving.nd rfl (Or.inl rfl))
        (pss_one (ps_if (pt_cmpR op_gt (pe_ix ix_list (pe_ix ix_list (pv 0) (pv 5) (fun _ _ => rfl)) (pv 3) (fun _ _ => rfl)) pe_int (nomark _))
          (pss_one (ps_if (pt_cmpR op_isN (pv 4) pe_non (nomark _)) (pss_one (ps_set (i := 4) sc_leaving.nd rfl (Or.inl rfl) (pv 5)))
            (pss_cons (ps_par (i := 6) (j := 7) rfl sc_leaving.nd rfl rfl (by decide) rfl rfl
                (pa_cons (pe_op op_mulW (pe_ix ix_list (pe_ix ix_list (pv 0) (pv 5) (fun _ _ => rfl)) (pe_un un_neg pe_int) (fun _ _ => rfl)) (pe_ix ix_list (pe_ix ix_list (pv 0) (pv 4) (fun _ _ => rfl)) (pv 3) (fun _ _ => rfl)))
                (pa_cons (pe_op op_mulW (pe_ix ix_list (pe_ix ix_list (pv 0) (pv 4) (fun _ _ => rfl)) (pe_un un_neg pe_int) (fun _ _ => rfl)) (pe_ix ix_list (pe_ix ix_list (pv 0) (pv 5) (fun _ _ => rfl)) (pv 3) (fun _ _ => rfl))) pa_nil)) (by rfl))
            (pss_one (ps_if (PW.pt (pw_or (pt_cmpR op_lt (pv 6) (pv 7) (nomark _)) (pw_or1 (PW.pt (pw_and (pt_cmpR op_eq (pv 6) (pv 7) (nomark _)) (pw_and1 (pt_cmpR op_lt (pe_ix ix_list (pv 2) (pv 5) (fun _ _ => rfl)) (pe_ix ix_list (pv 2) (pv 4) (fun _ _ => rfl)) (nomark _))))))))
              (pss_one (ps_set (i := 4) sc_leaving.nd rfl (Or.inl rfl) (pv 5))) pss_nil))))) pss_nil)))
      (pss_one (ps_ret (pv 4)))), ?_⟩
    refine q_asg ev_c fun H1 e1 => ?_
    refine q_for (ew_range m (ea_cons (ev_var rfl) ea_nil) rfl (by omega))
      (fun i σ' H' => ∃ a5 a6 a7 best, best = lvAt M bs c i ∧ σ' = [some (.ref t), some (.int (m : Int)), some (.ref bp), some (.int (c : Int)), some (optV best), a5, a6, a7] ∧ Ex H H')
      (fun H2 e2 _ => ⟨_, _, _, none, rfl, rfl, e1.trans e2⟩) (fun _ _ _ _ => trivial) (fun i x σ' H2 H3 hi hP y => ?_) (fun σ' H2 hP => ?_)
    · obtain ⟨a5, a6, a7, best, hbest, rfl, e2⟩ := hP
      refine y_name y ?_
      have hi' : i < M.length := by omega
      have hMi := hT _ (getD_mem hi')
      obtain ⟨pi, hpi, hIi⟩ := hM.rows.row i hi'
      refine s_when (ev_gt (ev_ixL (ev_ixL (ev_var rfl) (ev_var rfl) (hM.ex e2).at_ (ref_at hpi)) (ev_var rfl) (hIi.ex e2).at (int_at (by rw [hMi.1]; exact hc))) ev_c) (fun hb H4 e4 => ?_) (fun hb H4 e4 => ?_)
      · have hpos : 0 < (M.getD i []).getD c 0 := of_decide_eq_true hb
        have e24 := e2.trans e4
        cases best with
        | none =>
          have en : lvAt M bs c (i + 1) = some i := by
            rw [lvAt_succ, ← hbest]
            unfold lvStep
            rw [if_pos hpos]
          refine s_yes (ev_isN (ev_var rfl)) rfl fun H5 e5 => s_asg (ev_var rfl) fun H6 e6 => ⟨_, _, _, some i, en.symm, rfl, (e24.trans e5).trans e6⟩
        | some j =>
          have hj : j < m := lvAt_lt (by omega) j hbest.symm
          have hj' : j < M.length := by omega
          have hMj := hT _ (getD_mem hj')
          obtain ⟨pj, hpj, hIj⟩ := hM.rows.row j hj'
          refine s_no (ev_isN (ev_var rfl)) rfl fun H5 e5 => ?_
          have e25 := e24.trans e5
          have hM5 := hM.ex e25
          have hn0 : 0 < n := by omega
          refine q_par (ea_cons (ev_mulW (ev_ixEnd (ev_ixL (ev_var rfl) (ev_var rfl) hM5.at_ (ref_at hpi)) ev_neg1 (hIi.ex e25).at (int_last (by rw [hMi.1]; exact hn0)))
              (ev_ixL (ev_ixL (ev_var rfl) (ev_var rfl) hM5.at_ (ref_at hpj)) (ev_var rfl) (hIj.ex e25).at (int_at (by rw [hMj.1]; exact hc))) (mul_fit (fit_last hT hi' hn0) (fit_row hT hj' hc)))
            (ea_cons (ev_mulW (ev_ixEnd (ev_ixL (ev_var rfl) (ev_var rfl) hM5.at_ (ref_at hpj)) ev_neg1 (hIj.ex e25).at (int_last (by rw [hMj.1]; exact hn0)))
              (ev_ixL (ev_ixL (ev_var rfl) (ev_var rfl) hM5.at_ (ref_at hpi)) (ev_var rfl) (hIi.ex e25).at (int_at (by rw [hMi.1]; exact hc))) (mul_fit (fit_last hT hj' hn0) (fit_row hT hi' hc))) ea_nil)) fun H6 e6 => ?_
          have e26 := e25.trans e6
          have hB6 := hB.ex e26
          refine s_when (et_or (ev_lt (ev_var rfl) (ev_var rfl)) fun _ => et_and (ev_eqI (ev_var rfl) (ev_var rfl)) fun _ => ev_lt (ev_ixL (ev_var rfl) (ev_var rfl) hB6.at (nat_at (by omega))) (ev_ixL (ev_var rfl) (ev_var rfl) hB6.at (nat_at (by omega)))) (fun hb2 H7 e7 => ?_) (fun hb2 H7 e7 => ?_)
          · have en : lvAt M bs c (i + 1) = some i := by
              rw [lvAt_succ, ← hbest]
              unfold lvStep
              rw [if_pos hpos]
              show (if _ then some i else some j) = some i
              rw [if_pos]
              rcases Bool.or_eq_true_iff.mp hb2 with z | z
              · exact .inl (of_decide_eq_true z)
              · obtain ⟨z1, z2⟩ := Bool.and_eq_true_iff.mp z
                refine .inr ⟨of_decide_eq_true z1, ?_⟩
                have := of_decide_eq_true z2
                omega
            refine s_asg (ev_var rfl) fun H8 e8 => ⟨_, _, _, some i, en.symm, rfl, (e26.trans e7).trans e8⟩
          · have en : lvAt M bs c (i + 1) = some j := by
              rw [lvAt_succ, ← hbest]
              unfold lvStep
              rw [if_pos hpos]
              show (if _ then some i else some j) = some j
              rw [if_neg]
              intro z
              obtain ⟨z1, z2⟩ := Bool.or_eq_false_iff.mp hb2
              rcases z with z | ⟨z3, z4⟩
              · exact of_decide_eq_false z1 z
              · rcases Bool.and_eq_false_iff.mp z2 with q | q
                · exact of_decide_eq_false q z3
                · have := of_decide_eq_false q
                  omega
            exact ⟨_, _, _, some j, en.symm, rfl, e26.trans e7⟩
      · have hneg : ¬ 0 < (M.getD i []).getD c 0 := of_decide_eq_false hb
        have en : lvAt M bs c (i + 1) = lvAt M bs c i := by
          rw [lvAt_succ]
          unfold lvStep
          rw [if_neg hneg]
        exact ⟨_, _, _, best, hbest.trans en.symm, rfl, e2.trans e4⟩
    · obtain ⟨a5, a6, a7, best, hbest, rfl, e2⟩ := hP
      rw [hbest]
      exact s_ret (ev_var rfl) fun H3 e3 => k H3 (e2.trans e3)
end
end Fd
end

section
set_option Elab.async false
set_option linter.all false
set_option maxRecDepth 100000
set_option maxHeartbeats 4000000
/-! W6: climbed. -/
namespace Fd
open PySem PySem.Spec PyProof.Rows L2 Evl Ew Tx FR
section
variable {P : Program} {w : World} {K : PySem.W.Frag} {mg : Str → Option Value} {base : Heap}
def optI : Option Int → V
  | none => .non
  | some b => .int b
def sp_climbed : Sp := fun vs H Q _ => ∃ (t bp : Addr) (ps : List Addr) (T : List (List Int)) (bs : List Nat) (wide m fuel : Nat) (b : Int) (res : Option Int) (T' : List (List Int)) (bs' : List Nat),
  vs = [.ref t, .int (m : Int), .ref bp, .int b, .int (wide : Int)] ∧ Mat H t ps T ∧ TabOk (wide + 1) T ∧ T.length = m + 1 ∧ m ≤ 200 ∧ wide ≤ 200 ∧ NL H bp bs ∧ bs.length = m ∧ (∀ q ∈ ps, q ≠ bp) ∧ climb intN m wide fuel T bs b = some (res, T', bs') ∧
  ∀ H2 ps2, Ex (del (del H t) bp) H2 → Mat H2 t ps2 T' → NL H2 bp bs' → TabOk (wide + 1) T' → T'.length = m + 1 → bs'.length = m → (∀ q ∈ ps2, q ∈ ps ∨ H q = none) → Q (optI res) H2
theorem nat_set {bs : List Nat} {r c : Nat} : (bs.map fun (n : Nat) => V.int (n : Int)).set r (.int (c : Int)) = (bs.set r c).map fun (n : Nat) => V.int (n : Int) := List.map_set.symm
theorem head_at {α : Type} {l : List α} {x : α} (h : l.head? = some x) : l[0]? = some x := by
  rw [← List.head?_eq_getElem?]
  exact h
theorem ok_climbed (T : Txt K mg) : FnOk P w K mg base CX0 2 T.climbed.a T.climbed.d p_climbed sp_climbed := by
  have G1 := ok_leaving (P := P) (w := w) (base := base) T
  have G2 := ok_turned (P := P) (w := w) (base := base) T
  refine T.climbed.F.ok sc_climbed (fun vs H Q E h => ?_) (fun cdv A outer s H vs Q E hr h => ?_)
  · obtain ⟨t, bp, ps, M, bs, wide, m, fuel, b, res, M', bs', rfl, _⟩ := h
    rfl
  · obtain ⟨t, bp, ps, M, bs, wide, m, fuel, b, res, M', bs', rfl, hM, hT, hml, hm, hwd, hB, hbl, hnb, hcl, k⟩ := h
    refine ⟨_, pss_one (ps_while PassesOwn.never (pt_val pe_bl)
      (pss_cons (ps_setLc (i := 5) (own := [("column", 7)]) rfl sc_climbed.nd rfl rfl (sw_true rfl rfl rfl (by decide +kernel)) (pi_range1 (by rfl) T.z.range (pa_cons (pv 4) pa_nil)) (blkOk_by (own := [("column", 7)]) (N := n_climbed) (sc := defScope s_climbed) (by decide +kernel))
          (fun _ _ _ _ _ => pg_name (i := 7) sc_climbed.nd rfl (Or.inl rfl)) (fun _ _ _ _ _ => pts_one (pt_cmpR op_gt (pe_ix (r := rIxL K) ix_list (pe_ix (r := rIxL K) ix_list (pv 0) (pe_un un_neg pe_int) (fun _ _ => rfl)) (pv 7) (fun _ _ => rfl)) pe_int (nomark _))) (fun _ _ _ _ _ => pv 7))
      (pss_cons (ps_if (pt_cmpR op_eq (pe_callB call_len_seq (by rfl) T.z.len PySem.boot_len (pa_cons (pv 5) pa_nil)) pe_int (nomark _)) (pss_one (ps_ret (pv 3))) pss_nil)
      (pss_cons (ps_set (i := 6) sc_climbed.nd rfl (Or.inl rfl) (pe_call G1 hr (by rfl) T.leaving.g T.leaving.F.kp T.leaving.b .nil pass0 (pa_cons (pv 0) (pa_cons (pv 1) (pa_cons (pv 2) (pa_cons (pe_ix ix_list (pv 5) pe_int (fun _ _ => rfl)) pa_nil))))))
      (pss_cons (ps_if (pt_cmpR op_isN (pv 6) pe_non (nomark _)) (pss_one (ps_ret pe_non)) pss_nil)
      (pss_cons (ps_set (i := 3) sc_climbed.nd rfl (Or.inl rfl) (pe_call G2 hr (by rfl) T.turned.g T.turned.F.kp T.turned.b .nil pass0 (pa_cons (pv 0) (pa_cons (pv 3) (pa_cons (pv 6) (pa_cons (pe_ix ix_list (pv 5) pe_int (fun _ _ => rfl)) pa_nil))))))
      (pss_one (ps_asg (pe_ix ix_list (pv 5) pe_int (fun _ _ => rfl)) (pg_sub (pv 2) (pv 6) set_list))))))))), ?_⟩
    have H0 : Hp := del (del H t) bp
    refine s_while (fun fu σ' H' => ∃ a5 a6 a7 psi Mi bsi bi, σ' = [some (.ref t), some (.int (m : Int)), some (.ref bp), some (.int bi), some (.int (wide : Int)), a5, a6, a7] ∧ Ex (del (del H t) bp) H' ∧ Mat H' t psi Mi ∧ TabOk (wide + 1) Mi ∧ Mi.length = m + 1 ∧
      NL H' bp bsi ∧ bsi.length = m ∧ (∀ q ∈ psi, q ∈ ps ∨ H q = none) ∧ climb intN m wide fu Mi bsi bi = some (res, M', bs')) fuel ⟨_, _, _, ps, M, bs, b, rfl, ex_del.trans ex_del, hM, hT, hml, hB, hbl, (fun q hq => .inl hq), hcl⟩ fun fu σ' H1 hw => ⟨true, et_B ev_c, fun _ H2 e2 => ?_, fun q => Bool.noConfusion q⟩
    obtain ⟨a5, a6, a7, psi, Mi, bsi, bi, rfl, e1, hM1, hT1, hl1, hB1, hbl1, hq1, hc1⟩ := hw
    cases fu with
    | zero => cases hc1
    | succ fu =>
      refine ⟨fun σ2 H' => ∃ a5 a6 a7 psi Mi bsi bi, σ2 = [some (.ref t), some (.int (m : Int)), some (.ref bp), some (.int bi), some (.int (wide : Int)), a5, a6, a7] ∧ Ex (del (del H t) bp) H' ∧ Mat H' t psi Mi ∧ TabOk (wide + 1) Mi ∧ Mi.length = m + 1 ∧
        NL H' bp bsi ∧ bsi.length = m ∧ (∀ q ∈ psi, q ∈ ps ∨ H q = none) ∧ climb intN m wide fu Mi bsi bi = some (res, M', bs'), fun σ2 H' q => ⟨fu, Nat.lt_succ_self fu, q⟩, ?_⟩
      have hM2 := hM1.ex e2
      have hB2 := hB1.ex e2
      have hlast : m < Mi.length := by omega
      have hRl := hT1 _ (getD_mem hlast)
      obtain ⟨pl, hpl, hIl⟩ := hM2.rows.row m hlast
      have hpsl : psi.length = m + 1 := by rw [hM1.rows.len, hl1]
      have hend : (psi.map V.ref).getLast? = some (.ref pl) := by
        rw [List.getLast?_eq_getElem?, List.length_map, hpsl]
        exact ref_at hpl
      have hfp := fp_take (wide := wide) hRl.1
      refine q_asgL (xs := (spots (fun x => decide (0 < x)) (Mi.getD m []) wide).map fun (n : Nat) => V.int (n : Int)) (el_lcV (fun k => decide (0 < (Mi.getD m []).getD k 0)) (fun k => .int (k : Int)) (ei_range wide (ea_cons (ev_var rfl) ea_nil) rfl (by omega)) (by omega) tg_name (fun _ => rfl)
        (fun k H3 e3 hk => ev_gt (ev_ixL (ev_ixEnd (ev_var rfl) ev_neg1 (hM2.ex e3).at_ hend) (ev_var rfl) (hIl.ex e3).at (int_at (by rw [hRl.1]; omega))) ev_c) (fun k H3 e3 hk _ => ev_var rfl)) fun p H3 hp e3 h3 => ?_
      have hM3 := hM2.ex e3
      have hB3 := hB2.ex e3
      cases hs : (spots (fun x => decide (0 < x)) (Mi.getD m []) wide).head? with
      | none =>
        rw [hs] at hfp
        rw [climb_done hfp] at hc1
        have h0 := Option.some.inj hc1
        have e0 : spots (fun x => decide (0 < x)) (Mi.getD m []) wide = [] := List.head?_eq_none_iff.mp hs
        refine q_yes (ev_eqI (ev_len (ev_var rfl) (sq_of h3)) ev_c) (by rw [e0]; rfl) fun H4 e4 => ?_
        refine s_ret (ev_var rfl) fun H5 e5 => ?_
        have r1 : res = some bi := (congrArg (fun z => z.1) h0).symm
        have r2 : M' = Mi := (congrArg (fun z => z.2.1) h0).symm
        have r3 : bs' = bsi := (congrArg (fun z => z.2.2) h0).symm
        have k' := k H5 psi ((((e1.trans e2).trans e3).trans e4).trans e5)
        rw [r1, r2, r3] at k'
        exact k' (hM3.ex (e4.trans e5)) (hB3.ex (e4.trans e5)) hT1 hl1 hbl1 hq1
      | some c =>
        rw [hs] at hfp
        have hcw := spots_lt hs
        have hc0 : ((spots (fun x => decide (0 < x)) (Mi.getD m []) wide).map fun (n : Nat) => V.int (n : Int))[0]? = some (.int (c : Int)) := by
          rw [List.getElem?_map, head_at hs]
          rfl
        refine q_skip (ev_eqI (ev_len (ev_var rfl) (sq_of h3)) ev_c) (decide_eq_false (fun z => by
          have z2 : ((spots (fun x => decide (0 < x)) (Mi.getD m []) wide).map fun (n : Nat) => V.int (n : Int)).length = 0 := by omega
          rw [List.length_eq_zero_iff.mp z2] at hc0
          cases hc0)) fun H4 e4 => ?_
        have h4 : H4 p = _ := e4 p _ h3
        have hM4 := hM3.ex e4
        have hB4 := hB3.ex e4
        refine q_asg (ev_call (z := optV (lvAt Mi bsi c m)) (ea_cons (ev_var rfl) (ea_cons (ev_var rfl) (ea_cons (ev_var rfl) (ea_cons (ev_ixL (i := 0) (ev_var rfl) ev_c h4 hc0) ea_nil)))) fun H5 e5 Q5 q5 E5 =>
          ⟨t, bp, psi, Mi, bsi, wide + 1, m, c, rfl, hM4.ex e5, hT1, by omega, by omega, hB4.ex e5, hbl1, by omega, q5⟩) fun H5 e5 => ?_
        have h5 : H5 p = _ := e5 p _ h4
        have hM5 := hM4.ex e5
        have hB5 := hB4.ex e5
        have e15 := (((e1.trans e2).trans e3).trans e4).trans e5
        cases hl : lvAt Mi bsi c m with
        | none =>
          rw [climb_open hfp hl] at hc1
          have h0 := Option.some.inj hc1
          refine q_yes (ev_isN (ev_var rfl)) rfl fun H6 e6 => s_ret ev_c fun H7 e7 => ?_
          have r1 : res = none := (congrArg (fun z => z.1) h0).symm
          have r2 : M' = Mi := (congrArg (fun z => z.2.1) h0).symm
          have r3 : bs' = bsi := (congrArg (fun z => z.2.2) h0).symm
          have k' := k H7 psi ((e15.trans e6).trans e7)
          rw [r1, r2, r3] at k'
          exact k' (hM5.ex (e6.trans e7)) (hB5.ex (e6.trans e7)) hT1 hl1 hbl1 hq1
        | some r =>
          have hrm : r < m := lvAt_lt (Nat.le_refl m) r hl
          rw [climb_turn hfp hl] at hc1
          have hc2 := hc1
          obtain ⟨tb, ht1, ht2⟩ := Option.bind_eq_some_iff.mp hc2
          obtain ⟨M2, b2⟩ := tb
          obtain ⟨hT2, hl2⟩ := turned_ok ht1 hT1 (by omega)
          have hl2 : M2.length = Mi.length := hl2
          refine q_skip (ev_isN (ev_var rfl)) rfl fun H6 e6 => ?_
          have h6 : H6 p = _ := e6 p _ h5
          have hM6 := hM5.ex e6
          have hB6 := hB5.ex e6
          have nbt : bp ≠ t := fun z => by
            have z1 := hB6.at
            rw [z, hM6.at_] at z1
            have z2 := congrArg List.length (HO.lst.inj (Option.some.inj z1))
            rw [List.length_map, List.length_map] at z2
            omega
          have npt : p ≠ t := fun z => by
            rw [z, hM2.at_] at hp
            cases hp
          have npb : p ≠ bp := fun z => by
            rw [z, hB2.at] at hp
            cases hp
          -- bottom = turned(..)
          refine q_call (ea_cons (ev_var rfl) (ea_cons (ev_var rfl) (ea_cons (ev_var rfl) (ea_cons (ev_ixL (i := 0) (ev_var rfl) ev_c h6 hc0) ea_nil)))) fun H7 e7 => ?_
          refine ⟨t, psi, Mi, wide + 1, bi, r, c, M2, b2, rfl, hM6.ex e7, hT1, by omega, by omega, by omega, by omega, ht1, fun H8 ps8 e8 hM8 hq8 => ?_⟩
          have h8 : H8 p = _ := e8 p _ (by rw [del_ne npt]; exact e7 p _ h6)
          have hB8 : NL H8 bp bsi := e8 bp _ (by rw [del_ne nbt]; exact hB6.ex e7)
          have e18 : Ex (del (del H t) bp) H8 := by
            refine Ex.trans ?_ e8
            intro a o ha
            have ha2 := (del_some ha).2
            rw [del_ne (del_some ha2).1]
            exact e7 a _ (e6 a _ (e15 a o ha))
          have hq : ∀ q ∈ ps8, q ∈ ps ∨ H q = none := fun q hq => by
            rcases hq8 q hq with z | z
            · exact hq1 q z
            · refine .inr ?_
              by_cases z1 : q = t
              · rw [z1, (hM6.ex e7).at_] at z
                cases z
              · by_cases z2 : q = bp
                · rw [z2, (hB6.ex e7).at] at z
                  cases z
                · have z3 := fresh_back ((e15.trans e6).trans e7) z
                  rw [del_ne z2, del_ne z1] at z3
                  exact z3
          have hn8 : ∀ q ∈ ps8, q ≠ bp := fun q hq' z => by
            rcases hq q hq' with z1 | z1
            · exact hnb q z1 z
            · rw [z, hB.at] at z1
              cases z1
          refine s_setL hB8.at (ev_ixL (i := 0) (ev_var rfl) ev_c h8 hc0) (ev_var rfl) (ev_var rfl) (by rw [List.length_map, hbl1]; exact hrm) fun H9 e9 => ?_
          have nb : ∀ q, Ex (del (del H t) bp) H9 → Ex (del (del H t) bp) (upd H9 bp q) := fun q z => Ex.mut z del_at
          refine ⟨_, _, _, ps8, M2, bsi.set r c, b2, rfl, nb _ (e18.trans e9), ?_, hT2, by omega, ?_, by rw [List.length_set, hbl1], hq, ht2⟩
          · have hM9 := hM8.ex e9
            refine ⟨by rw [upd_ne (Ne.symm nbt)]; exact hM9.at_, hM9.rows.len, fun i hi => ?_⟩
            obtain ⟨a, a1, a2⟩ := hM9.rows.row i hi
            refine ⟨a, a1, ?_⟩
            have nab : a ≠ bp := hn8 a (List.mem_of_getElem? a1)
            show upd H9 bp _ a = _
            rw [upd_ne nab]
            exact a2
          · show upd H9 bp _ bp = _
            rw [upd_same, nat_set]
end
end Fd
end

section
set_option Elab.async false
set_option linter.all false
set_option maxRecDepth 100000
set_option maxHeartbeats 4000000
/-! W7: begun. -/
namespace Ew
open PySem PySem.Spec PyProof.Rows L2 Evl
section
variable {K : Fg} {σ : L2.St} {H H' : Hp} {ta tb te tx : TE} {t u : TT} {x y z v : V} {r : R2} {D : Ends} {tu tw tz : TS}
theorem el_if {b : Bool} {xs : List V} (h : EvT t σ H b) (h1 : b = true → EvL ta σ H xs) (h2 : b = false → EvL tb σ H xs) : EvL (tIf t ta tb) σ H xs := fun H1 e Q q => h H1 e _ fun H2 e2 => by
  cases b with
  | true =>
    show ta σ H2 Q
    exact h1 rfl H2 (e.trans e2) Q fun p H3 hp e3 h3 => q p H3 (fresh_back e2 hp) (e2.trans e3) h3
  | false =>
    show tb σ H2 Q
    exact h2 rfl H2 (e.trans e2) Q fun p H3 hp e3 h3 => q p H3 (fresh_back e2 hp) (e2.trans e3) h3
theorem ev_sumN {ns : List Int} (h : EvL te σ H (ns.map V.int)) : Ev (tCB (rSum K) (tCons te tNil)) σ H (.int ns.sum) := fun H1 e Q q =>
  h H1 e _ fun p H2 _ e2 h2 => ⟨p, ns, rfl, sq_of h2, q H2 e2⟩
/-- a, b = e, [..] where a tuple is made -/
theorem q_tup2L {i j : Nat} {ys : List V} (h : Ev ta σ H x) (h2 : EvL tb σ H ys) (k : ∀ p H1, H p = none → Ex H H1 → H1 p = some (.lst ys) → tz D ((σ.set i (some x)).set j (some (.ref p))) H1) :
    tSeq (tAsg (tTup (tCons ta (tCons tb tNil))) (gTup K 2 (gCons (gName i) (gCons (gName j) gNil)))) tz D σ H :=
  h H (Ex.refl H) _ fun H1 e1 => h2 H1 e1 _ fun p H2 hp e2 h2 => ⟨by show 2 ≤ sizeLine; decide, fun c hc => ⟨c, _, rfl, st_of upd_same, rfl, _, _, rfl, _, _, rfl, rfl,
    k p _ (fresh_back e1 hp) ((e1.trans e2).trans (Ex.new hc)) (by rw [upd_ne (ne_of_none h2 hc)]; exact h2)⟩⟩
/-- return ([..], [..], e) -/
theorem s_ret3 {xs ys : List V} {tc : TE} (h1 : EvL ta σ H xs) (h2 : ∀ H1, Ex H H1 → EvL tb σ H1 ys) (h3 : ∀ H1, Ex H H1 → Ev tc σ H1 z) (k : ∀ p a b H1, H p = none → H a = none → H b = none → a ≠ b → Ex H H1 → H1 a = some (.lst xs) → H1 b = some (.lst ys) → H1 p = some (.tup [.ref a, .ref b, z]) → D.rt (.ref p) H1) :
    tRet (tTup (tCons ta (tCons tb (tCons tc tNil)))) D σ H :=
  h1 H (Ex.refl H) _ fun a H1 ha e1 ha1 => h2 H1 e1 H1 (Ex.refl H1) _ fun b H2 hb e2 hb2 => h3 H2 (e1.trans e2) H2 (Ex.refl H2) _ fun H3 e3 => ⟨by show 3 ≤ sizeLine; decide, fun p hp =>
    k p a b _ (fresh_back ((e1.trans e2).trans e3) hp) ha (fresh_back e1 hb) (ne_of_none ha1 hb) (((e1.trans e2).trans e3).trans (Ex.new hp))
      (by rw [upd_ne (ne_of_none (e3 a _ (e2 a _ ha1)) hp)]; exact e3 a _ (e2 a _ ha1)) (by rw [upd_ne (ne_of_none (e3 b _ hb2) hp)]; exact e3 b _ hb2) upd_same⟩
theorem q_asgLN {n i : Nat} {o : Nat → HO} (h : EvLN te σ H n o) (k : ∀ (p : Addr) (ps : List Addr) (H1 : Hp), H p = none → Ex H H1 → H1 p = some (.lst (ps.map V.ref)) → ps.length = n → (∀ i, i < n → ∃ q, ps[i]? = some q ∧ H q = none ∧ H1 q = some (o i)) → tz D (σ.set i (some (.ref p))) H1) : tSeq (tAsg te (gName i)) tz D σ H :=
  h H (Ex.refl H) _ k
theorem q_appN {l : Addr} {xs : List V} {o : HO} (hl : H l = some (.lst xs)) (ha : Ev ta σ H (.ref l)) (h : EvN te σ H o) (hz : xs.length < 100000) (k : ∀ p H1, H p = none → Ex H H1 → H1 p = some o → tz D σ (upd H1 l (.lst (xs ++ [.ref p])))) :
    tSeq (tDrop (tBM K "list" rAppend ta (tCons te tNil))) tz D σ H := ha H (Ex.refl H) _ fun H1 e1 =>
  ⟨Or.inl ⟨rfl, xs, sq_of (e1 l _ hl)⟩, h H1 e1 _ fun p H2 hp e2 h2 => ⟨l, xs, .ref p, rfl, rfl, e2 l _ (e1 l _ hl), sz_lt hz, k p H2 (fresh_back e1 hp) (e1.trans e2) h2⟩⟩
/-- xs.pop() as a statement -/
theorem q_pop {l : Addr} {xs : List V} {y : V} (hl : H l = some (.lst xs)) (hy : xs[xs.length - 1]? = some y) (ha : Ev ta σ H (.ref l)) (k : ∀ H1, Ex H H1 → tz D σ (upd H1 l (.lst xs.dropLast))) : tSeq (tDrop (tBM0 K "list" rPop ta)) tz D σ H :=
  ha H (Ex.refl H) _ fun H1 e1 => ⟨Or.inl ⟨rfl, xs, sq_of (e1 l _ hl)⟩, l, xs, y, rfl, rfl, e1 l _ hl, hy, k H1 e1⟩
end
/-- a table with one more row -/
theorem Mat.snoc {H H1 : Hp} {t : Addr} {ps : List Addr} {T : List (List Int)} {p : Addr} {r : List Int} (h : Mat H t ps T) (e : Ex H H1) (hn : H p = none) (hp : IL H1 p r) : Mat (upd H1 t (.lst (ps.map V.ref ++ [.ref p]))) t (ps ++ [p]) (T ++ [r]) := by
  have npt : p ≠ t := fun z => by
    rw [z, h.at_] at hn
    cases hn
  refine ⟨by rw [upd_same, List.map_append]; rfl, by rw [List.length_append, List.length_append, h.rows.len]; rfl, fun i hi => ?_⟩
  rw [List.length_append] at hi
  by_cases hi2 : i < T.length
  · obtain ⟨a, h1, h2⟩ := h.rows.row i hi2
    refine ⟨a, by rw [List.getElem?_append_left (by rw [h.rows.len]; exact hi2)]; exact h1, ?_⟩
    rw [List.getD_eq_getElem?_getD, List.getElem?_append_left hi2, ← List.getD_eq_getElem?_getD]
    show upd H1 t _ a = _
    rw [upd_ne (h.ne h1 h2)]
    exact e a _ h2
  · have e3 : i = T.length := by
      have : i < T.length + 1 := hi
      omega
    subst e3
    refine ⟨p, by rw [List.getElem?_append_right (by rw [h.rows.len]; exact Nat.le_refl _), h.rows.len, Nat.sub_self]; rfl, ?_⟩
    rw [List.getD_eq_getElem?_getD, List.getElem?_append_right (Nat.le_refl _), Nat.sub_self]
    show upd H1 t _ p = _
    rw [upd_ne npt]
    exact hp
theorem mat_new {H : Hp} {p : Addr} {ps : List Addr} {T : List (List Int)} (h1 : H p = some (.lst (ps.map V.ref))) (h2 : ps.length = T.length) (h3 : ∀ i, i < T.length → ∃ q, ps[i]? = some q ∧ H q = some (.lst ((T.getD i []).map V.int))) : Mat H p ps T := ⟨h1, h2, h3⟩
theorem Mat.pop {H : Hp} {t : Addr} {ps : List Addr} {T : List (List Int)} (h : Mat H t ps T) : Mat (upd H t (.lst (ps.map V.ref).dropLast)) t ps.dropLast T.dropLast := by
  refine ⟨by rw [upd_same, ← List.map_dropLast], by rw [List.length_dropLast, List.length_dropLast, h.rows.len], fun i hi => ?_⟩
  rw [List.length_dropLast] at hi
  obtain ⟨a, h1, h2⟩ := h.rows.row i (by omega)
  have h3 : ps.dropLast[i]? = ps[i]? := by
    rw [List.getElem?_dropLast, if_pos (by rw [h.rows.len]; exact hi)]
  have h4 : T.dropLast.getD i [] = T.getD i [] := by
    rw [List.getD_eq_getElem?_getD, List.getElem?_dropLast, if_pos hi, ← List.getD_eq_getElem?_getD]
  refine ⟨a, by rw [h3]; exact h1, ?_⟩
  rw [h4]
  show upd H t _ a = _
  rw [upd_ne (h.ne h1 h2)]
  exact h2
end Ew
namespace Tx
open PySem L2
/-- a comprehension's own scope, within a statement -/
def lcSc : Expr → Scope
  | .ListComp _ _ sc _ => sc
  | _ => { kind := .function, names := [], isGenerator := false, isCoroutine := false }
def asgVal : Stmt → Expr
  | .Assign _ e _ => e
  | _ => .Constant .none 0 ⟨0, 0, 0, 0⟩
def arg0 : Expr → Expr
  | .Call _ (e :: _) _ _ => e
  | e => e
def exprOf : Stmt → Expr
  | .Expr e _ => e
  | _ => .Constant .none 0 ⟨0, 0, 0, 0⟩
def stOf (s : Stmt) (i : Nat) : Stmt := (defBody s).getD i (.Pass ⟨0, 0, 0, 0⟩)
abbrev q_begun0 : Scope := lcSc (asgVal (stOf s_begun 0))
abbrev q_begun2 : Scope := lcSc (arg0 (exprOf (stOf s_begun 2)))
end Tx
namespace Fd
open PySem PySem.Spec PyProof.Rows L2 Evl Ew Tx FR
section
variable {P : Program} {w : World} {K : PySem.W.Frag} {mg : Str → Option Value} {base : Heap}
def sp_begun : Sp := fun vs H Q _ => ∃ (rp : Addr) (ps0 : List Addr) (R : List (List Int)) (wide : Nat) (res : Option (List (List Int) × List Nat × Int)), vs = [.ref rp, .int (wide : Int)] ∧ Mat H rp ps0 R ∧ (∀ r ∈ R, r.length = wide + 1) ∧ R.length ≤ 200 ∧ wide ≤ 200 ∧ begun intN R wide = some res ∧
  (res = none → ∀ H2, Ex H H2 → Q .non H2) ∧
  ∀ T bs b, res = some (T, bs, b) → ∀ p t bp ps H2, H p = none → H t = none → H bp = none → Ex H H2 → H2 p = some (.tup [.ref t, .ref bp, .int b]) → Mat H2 t ps T → NL H2 bp bs → TabOk (wide + 1) T → bs.length = T.length → T.length ≤ R.length → (∀ k ∈ bs, k < wide) → t ≠ bp → p ≠ t → p ≠ bp → (∀ q ∈ ps, q ≠ bp) → Q (.ref p) H2
theorem map_at {α β : Type} (d : α) (S : List α) (f : α → β) : S.map f = (List.range S.length).map fun i => f (S.getD i d) := by
  refine List.ext_getElem? fun i => ?_
  rw [List.getElem?_map, List.getElem?_map]
  by_cases hi : i < S.length
  · rw [List.getElem?_range hi, List.getElem?_eq_getElem hi]
    show some (f S[i]) = some (f (S.getD i d))
    rw [List.getD_eq_getElem?_getD, List.getElem?_eq_getElem hi]
    rfl
  · have h6 : (List.range S.length)[i]? = none := List.getElem?_eq_none (by rw [List.length_range]; omega)
    rw [List.getElem?_eq_none (by omega), h6]
    rfl
theorem base0_at {m wide : Nat} : (base0 m wide).map (fun (n : Nat) => V.int (n : Int)) = (List.range m).map fun (i : Nat) => V.int ((wide : Int) + (i : Int)) := by
  unfold base0
  rw [List.map_map]
  refine List.map_congr_left fun i _ => ?_
  show V.int ((wide + i : Nat) : Int) = _
  rw [Int.natCast_add]
theorem dropLast_ok {n : Nat} {T : List (List Int)} (h : TabOk n T) : TabOk n T.dropLast := fun r hr => h r (List.dropLast_subset T hr)
theorem ok_begun (T : Txt K mg) : FnOk P w K mg base CX0 3 T.begun.a T.begun.d p_begun sp_begun := by
  have G1 := ok_climbed (P := P) (w := w) (base := base) T
  have G2 := ok_turned (P := P) (w := w) (base := base) T
  refine T.begun.F.ok sc_begun (fun vs H Q E h => ?_) (fun cdv A outer s H vs Q E hr h => ?_)
  · obtain ⟨rp, ps0, R, wide, res, rfl, _⟩ := h
    rfl
  · obtain ⟨rp, ps0, R, wide, res, rfl, hM, hRl, hm, hwd, hbg, kN, kS⟩ := h
    have nd := sc_begun.nd
    refine ⟨_, pss_cons (ps_set (i := 2) nd rfl (Or.inr rfl) (pe_lc (own := [("row", 9)]) (by rfl) nd (pi_list (pv 0)) (blkOk_by (own := [("row", 9)]) (N := n_begun) (sc := defScope s_begun) (by decide +kernel))
          (fun _ _ _ _ _ => pg_name (i := 9) nd rfl (Or.inl rfl)) (fun _ _ _ _ _ => pts_nil)
          (fun _ _ _ _ _ => pe_ifExp (pt_cmpR op_ge (pe_ix (r := rIxL K) ix_list (pv 9) (pe_un un_neg pe_int) (fun _ _ => rfl)) pe_int (nomark _)) (pe_callTy (r := rListS K) call_list_of (by rfl) T.z.list (by decide +kernel) (pa_cons (pv 9) pa_nil))
            (pe_lc (own := [("part", 10)]) (wi := iList K (tVar 9)) (g := gName 10) (tt := tYes) (te := tUn (rU fun i => .int (-i)) (tVar 10)) (by rfl) nd (pi_list (pv 9)) (blkOk_by (own := [("part", 10)]) (N := n_begun) (sc := relS q_begun0 (defScope s_begun)) (by decide +kernel)) (fun _ _ _ _ _ => pg_name (i := 10) nd rfl (Or.inl rfl)) (fun _ _ _ _ _ => pts_nil) (fun _ _ _ _ _ => pe_un un_neg (pv 10))))))
      (pss_cons (ps_asg (pe_tup (pa_cons (pe_callB call_len_seq (by rfl) T.z.len PySem.boot_len (pa_cons (pv 2) pa_nil)) (pa_cons (pe_lc (own := [("at", 5)]) (by rfl) nd (pi_range1 (by rfl) T.z.range (pa_cons (pe_callB call_len_seq (by rfl) T.z.len PySem.boot_len (pa_cons (pv 2) pa_nil)) pa_nil)) (blkOk_by (own := [("at", 5)]) (N := n_begun) (sc := defScope s_begun) (by decide +kernel))
          (fun _ _ _ _ _ => pg_name (i := 5) nd rfl (Or.inl rfl)) (fun _ _ _ _ _ => pts_nil) (fun _ _ _ _ _ => pe_op op_add (pv 1) (pv 5))) pa_nil))) (pg_tup rfl (pgs_cons (pg_name (i := 3) nd rfl (Or.inl rfl)) (pgs_cons (pg_name (i := 4) nd rfl (Or.inr rfl)) pgs_nil))))
      (pss_cons (ps_expr (pe_bm PySem.F.plainAttrs_list PySem.F.slot_list_append PySem.F.type_list_append mt_append (pv 2) (pa_cons
          (pe_lc (own := [("column", 11)]) (by rfl) nd (pi_range1 (by rfl) T.z.range (pa_cons (pe_op op_add (pv 1) pe_int) pa_nil)) (blkOk_by (own := [("column", 11)]) (N := n_begun) (sc := defScope s_begun) (by decide +kernel))
            (fun _ _ _ _ _ => pg_name (i := 11) nd rfl (Or.inr rfl)) (fun _ _ _ _ _ => pts_nil)
            (fun _ _ _ _ _ => pe_callB (r := rSum K) (cr_sum rfl) (by rfl) T.z.sum (by decide +kernel) (pa_cons (pe_lc (own := [("row", 9)]) (wi := iList K (tVar 2)) (g := gName 9) (tt := tYes) (te := tOp (rIxL K) (tVar 9) (tVar 11)) (by rfl) nd (pi_list (pv 2)) (blkOk_by (own := [("row", 9)]) (N := n_begun) (sc := relS q_begun2 (defScope s_begun)) (by decide +kernel))
              (fun _ _ _ _ _ => pg_name (i := 9) nd rfl (Or.inl rfl)) (fun _ _ _ _ _ => pts_nil) (fun _ _ _ _ _ => pe_ix (r := rIxL K) ix_list (pv 9) (pv 11) (fun _ _ => rfl))) pa_nil))) pa_nil)))
      (pss_cons (ps_set (i := 6) nd rfl (Or.inl rfl) (pe_call G1 hr (by rfl) T.climbed.g T.climbed.F.kp T.climbed.b .nil pass0 (pa_cons (pv 2) (pa_cons (pv 3) (pa_cons (pv 4) (pa_cons pe_int (pa_cons (pv 1) pa_nil)))))))
      (pss_cons (ps_if (pt_cmpR op_ne (pe_ix ix_list (pe_ix ix_list (pv 2) (pe_un un_neg pe_int) (fun _ _ => rfl)) (pe_un un_neg pe_int) (fun _ _ => rfl)) pe_int (nomark _)) (pss_one (ps_ret pe_non)) pss_nil)
      (pss_cons (ps_expr (pe_bm0 PySem.F.plainAttrs_list PySem.F.slot_list_pop PySem.F.type_list_pop mt_pop (pv 2)))
      (pss_cons (ps_for PassesOwn.never rfl (pi_range1 (by rfl) T.z.range (pa_cons (pv 3) pa_nil)) (pg_name (i := 5) nd rfl (Or.inr rfl))
        (pss_cons (ps_setLc (i := 7) (own := [("column", 11)]) rfl nd rfl rfl (sw_true rfl rfl rfl (by decide +kernel)) (pi_range1 (by rfl) T.z.range (pa_cons (pv 1) pa_nil)) (blkOk_by (own := [("column", 11)]) (N := n_begun) (sc := defScope s_begun) (by decide +kernel))
            (fun _ _ _ _ _ => pg_name (i := 11) nd rfl (Or.inl rfl)) (fun _ _ _ _ _ => pts_one (pt_cmpR op_ne (pe_ix (r := rIxL K) ix_list (pe_ix (r := rIxL K) ix_list (pv 2) (pv 5) (fun _ _ => rfl)) (pv 11) (fun _ _ => rfl)) pe_int (nomark _))) (fun _ _ _ _ _ => pv 11))
        (pss_one (ps_if (PW.pt (pw_and (pt_cmpR op_ge (pe_ix ix_list (pv 4) (pv 5) (fun _ _ => rfl)) (pv 1) (nomark _)) (pw_and1 (pt_cmpR op_gt (pe_callB call_len_seq (by rfl) T.z.len PySem.boot_len (pa_cons (pv 7) pa_nil)) pe_int (nomark _)))))
          (pss_cons (ps_set (i := 6) nd rfl (Or.inl rfl) (pe_call G2 (hr.mono (by decide)) (by rfl) T.turned.g T.turned.F.kp T.turned.b .nil pass0 (pa_cons (pv 2) (pa_cons (pv 6) (pa_cons (pv 5) (pa_cons (pe_ix ix_list (pv 7) pe_int (fun _ _ => rfl)) pa_nil))))))
          (pss_one (ps_asg (pe_ix ix_list (pv 7) pe_int (fun _ _ => rfl)) (pg_sub (pv 4) (pv 5) set_list)))) pss_nil))))
      (pss_cons (ps_setLc (i := 8) (own := [("at", 5)]) rfl nd rfl rfl (sw_true rfl rfl rfl (by decide +kernel)) (pi_range1 (by rfl) T.z.range (pa_cons (pv 3) pa_nil)) (blkOk_by (own := [("at", 5)]) (N := n_begun) (sc := defScope s_begun) (by decide +kernel))
            (fun _ _ _ _ _ => pg_name (i := 5) nd rfl (Or.inl rfl)) (fun _ _ _ _ _ => pts_one (pt_cmpR op_lt (pe_ix (r := rIxL K) ix_list (pv 4) (pv 5) (fun _ _ => rfl)) (pv 1) (nomark _))) (fun _ _ _ _ _ => pv 5))
      (pss_one (ps_ret (pe_tup (pa_cons (pe_lc (own := [("at", 5)]) (by rfl) nd (pi_list (pv 8)) (blkOk_by (own := [("at", 5)]) (N := n_begun) (sc := defScope s_begun) (by decide +kernel)) (fun _ _ _ _ _ => pg_name (i := 5) nd rfl (Or.inl rfl)) (fun _ _ _ _ _ => pts_nil) (fun _ _ _ _ _ => pe_ix (r := rIxL K) ix_list (pv 2) (pv 5) (fun _ _ => rfl)))
          (pa_cons (pe_lc (own := [("at", 5)]) (by rfl) nd (pi_list (pv 8)) (blkOk_by (own := [("at", 5)]) (N := n_begun) (sc := defScope s_begun) (by decide +kernel)) (fun _ _ _ _ _ => pg_name (i := 5) nd rfl (Or.inl rfl)) (fun _ _ _ _ _ => pts_nil) (fun _ _ _ _ _ => pe_ix (r := rIxL K) ix_list (pv 4) (pv 5) (fun _ _ => rfl)))
          (pa_cons (pv 6) pa_nil))))))))))))), ?_⟩
    obtain ⟨f1, f2, b, T1, bs1, hcl, alt⟩ := begun_some hbg
    have hps0 : ps0.length = R.length := hM.rows.len
    -- table = [..]
    have hI0 := ei_list (K := K) (tl := tVar 0) (σ := start n_begun [.ref rp, .int (wide : Int)]) (ev_var rfl) hM.at_
    rw [List.length_map, hps0] at hI0
    refine q_asgLN (n := R.length) (o := fun i => .lst (((R.map signI).getD i []).map V.int)) (el_new _ hI0 (by omega) tg_name (fun _ => rfl) fun i H1 e1 hi => ?_) fun t ps H1 ht e1 h1 hl1 hr1 => ?_
    · obtain ⟨pi, hpi, hIi⟩ := hM.rows.row i hi
      have ha : atV (ps0.map V.ref) i = .ref pi := atV_of (ref_at hpi)
      have hv : ((wipe (start n_begun [.ref rp, .int (wide : Int)]) [9]).set 9 (some (atV (ps0.map V.ref) i)))[9]? = some (some (.ref pi)) := by
        rw [ha]
        rfl
      have hRi : (R.getD i []).length = wide + 1 := hRl _ (getD_mem hi)
      have eS : (R.map signI).getD i [] = signI (R.getD i []) := by
        rw [List.getD_eq_getElem?_getD, List.getElem?_map, List.getElem?_eq_getElem hi, List.getD_eq_getElem?_getD, List.getElem?_eq_getElem hi]
        rfl
      show EvN _ _ _ (.lst (((R.map signI).getD i []).map V.int))
      rw [eS]
      refine el_if (ev_ge (ev_ixEnd (ev_var hv) ev_neg1 (hIi.ex e1).at (int_last (by omega))) ev_c) (fun hb => ?_) (fun hb => ?_)
      · have h0 : signI (R.getD i []) = R.getD i [] := by
          unfold signI
          rw [if_neg (by
            have := of_decide_eq_true hb
            omega)]
        rw [h0]
        exact el_list (ev_var hv) (sq_of (hIi.ex e1).at)
      · have h0 : signI (R.getD i []) = (R.getD i []).map (fun x => -x) := by
          unfold signI
          rw [if_pos (by
            have := of_decide_eq_false hb
            omega)]
        rw [h0, ← range_map_getD hRi]
        have hI1 := ei_list (K := K) (tl := tVar 9) (σ := (wipe (start n_begun [.ref rp, .int (wide : Int)]) [9]).set 9 (some (atV (ps0.map V.ref) i))) (ev_var hv) (hIi.ex e1).at
        rw [List.length_map, hRi] at hI1
        refine el_map (fun j => .int (-((R.getD i []).getD j 0))) hI1 (by omega) tg_name (fun _ => rfl) fun j H9 e9 hj => ?_
        refine ev_un (ev_var ?_) ru_neg
        rw [atV_int (by omega)]
        rfl
    have hSl : (R.map signI).length = R.length := List.length_map _
    have hM1 : Mat H1 t ps (R.map signI) := mat_new h1 (by rw [hl1, hSl]) fun i hi => by
      obtain ⟨q, q1, _, q3⟩ := hr1 i (by omega)
      exact ⟨q, q1, q3⟩
    -- many, base = ..
    refine q_tup2L (ev_len (ev_var rfl) (sq_of hM1.at_)) (el_map (fun i => .int ((wide : Int) + (i : Int))) (ei_range R.length (ea_cons (ev_len (ev_var rfl) (sq_of hM1.at_)) ea_nil) (by rw [List.length_map, hl1]) (by omega)) (by omega) tg_name (fun _ => rfl)
      (fun i H2 e2 hi => ev_add (ev_var rfl) (ev_var rfl))) fun bp H2 hbp e2 h2 => ?_
    rw [List.length_map, hl1]
    have hB2 : NL H2 bp (base0 R.length wide) := by
      show H2 bp = _
      rw [h2, base0_at]
    have hM2 := hM1.ex e2
    have hbl : (base0 R.length wide).length = R.length := by
      unfold base0
      rw [List.length_map, List.length_range]
    have hnb2 : ∀ q ∈ ps, q ≠ bp := fun q hq => by
      obtain ⟨i, hi, ei⟩ := List.mem_iff_getElem.mp hq
      obtain ⟨q', q1, _, q3⟩ := hr1 i (by omega)
      have eq' : q' = q := by
        rw [List.getElem?_eq_getElem hi] at q1
        exact (Option.some.inj q1).symm.trans ei
      rw [eq'] at q3
      exact ne_of_none q3 hbp
    have hHt : H t = none := ht
    have hHb : H bp = none := fresh_back e1 hbp
    have ntb : t ≠ bp := ne_of_none h1 hbp
    -- table.append(..)
    refine q_appN (o := .lst ((sumRow (R.map signI) wide).map V.int)) hM2.at_ (ev_var rfl) ?_ (by rw [List.length_map]; omega) fun pl H3 hpl e3 h3 => ?_
    · have es : (sumRow (R.map signI) wide).map V.int = (List.range (wide + 1)).map fun c => V.int (((R.map signI).map fun r => r.getD c 0).sum) := by
        unfold sumRow
        rw [List.map_map]
        rfl
      rw [es]
      refine evN_L (el_map (fun c => .int (((R.map signI).map fun r => r.getD c 0).sum)) (ei_range (wide + 1) (ea_cons (ev_add (ev_var rfl) ev_c) ea_nil) (by omega) (by omega)) (by omega) tg_name (fun _ => rfl) fun c H4 e4 hc => ?_)
      have hM4 := hM2.ex e4
      have hI4 := ei_list (K := K) (tl := tVar 2) (σ := (wipe ((((start n_begun [.ref rp, .int (wide : Int)]).set 2 (some (.ref t))).set 3 (some (.int (R.length : Int)))).set 4 (some (.ref bp))) [11]).set 11 (some (.int (c : Int)))) (ev_var rfl) hM4.at_
      rw [List.length_map, hl1] at hI4
      have el : (((R.map signI).map fun r => r.getD c 0)).map V.int = (List.range R.length).map fun i => V.int (((R.map signI).getD i []).getD c 0) := by
        rw [List.map_map, map_at [] (R.map signI), hSl]
        rfl
      refine ev_sumN ?_
      rw [el]
      refine el_map (fun i => .int (((R.map signI).getD i []).getD c 0)) hI4 (by omega) tg_name (fun _ => rfl) fun i H5 e5 hi => ?_
      obtain ⟨pi, hpi, hIi⟩ := hM4.rows.row i (by omega)
      have ha : atV (ps.map V.ref) i = .ref pi := atV_of (ref_at hpi)
      have hLi : ((R.map signI).getD i []).length = wide + 1 := by
        have h5 := getD_mem (T := R.map signI) (i := i) (by omega)
        obtain ⟨q, hq, eq'⟩ := List.mem_map.mp h5
        rw [← eq', sign_len]
        exact hRl q hq
      refine ev_ixL (ev_var ?_) (ev_var rfl) (hIi.ex e5).at (int_at (by omega))
      rw [ha]
      rfl
    have hM3 := Mat.snoc hM2 e3 hpl h3
    have hT3 := start_ok hRl f1 f2
    have hB3 : NL (upd H3 t (.lst (ps.map V.ref ++ [.ref pl]))) bp (base0 R.length wide) := by
      show upd H3 t _ bp = _
      rw [upd_ne (Ne.symm ntb)]
      exact hB2.ex e3
    have e03 : Ex H (upd H3 t (.lst (ps.map V.ref ++ [.ref pl]))) := Ex.mut ((e1.trans e2).trans e3) hHt
    have nplb : pl ≠ bp := fun z => by
      rw [z, hB2.at] at hpl
      cases hpl
    generalize upd H3 t (.lst (ps.map V.ref ++ [.ref pl])) = H4 at hM3 hB3 e03 ⊢
    -- bottom = climbed(..)
    refine q_call (ea_cons (ev_var rfl) (ea_cons (ev_var rfl) (ea_cons (ev_var rfl) (ea_cons ev_c (ea_cons (ev_var rfl) ea_nil))))) fun H5 e5 => ?_
    refine ⟨t, bp, ps ++ [pl], R.map signI ++ [sumRow (R.map signI) wide], base0 R.length wide, wide, R.length, FUEL, 1, some b, T1, bs1, rfl, hM3.ex e5, hT3, by rw [List.length_append, hSl]; rfl, hm, hwd, hB3.ex e5, hbl, fun q hq => ?_, hcl, fun H6 ps6 e6 hM6 hB6 hT6 hl6 hbl6 hq6 => ?_⟩
    · rcases List.mem_append.mp hq with z | z
      · exact hnb2 q z
      · rw [List.mem_singleton.mp z]
        exact nplb
    have e06 : Ex H H6 := fun a o ha => by
      refine e6 a o ?_
      rw [del_ne (ne_of_none ha hHb), del_ne (ne_of_none ha hHt)]
      exact e5 a o (e03 a o ha)
    have hnb6 : ∀ q ∈ ps6, q ≠ bp := fun q hq z => by
      rcases hq6 q hq with z1 | z1
      · rcases List.mem_append.mp z1 with z2 | z2
        · exact hnb2 q z2 z
        · rw [List.mem_singleton.mp z2] at z
          exact nplb z
      · rw [z, (hB3.ex e5).at] at z1
        cases z1
    have hlast : R.length < T1.length := by omega
    have hRL := hT6 _ (getD_mem hlast)
    obtain ⟨pe, hpe, hIe⟩ := hM6.rows.row R.length hlast
    have hps6 : ps6.length = R.length + 1 := by rw [hM6.rows.len, hl6]
    have hend : (ps6.map V.ref).getLast? = some (.ref pe) := by
      rw [List.getLast?_eq_getElem?, List.length_map, hps6]
      exact ref_at hpe
    have hT := ev_neI (ta := tOp (rIxL K) (tOp (rIxL K) (tVar 2) (tUn (rU fun i => .int (-i)) (tC (.int 1)))) (tUn (rU fun i => .int (-i)) (tC (.int 1)))) (tb := tC (.int 0))
      (σ := ((((start n_begun [.ref rp, .int (wide : Int)]).set 2 (some (.ref t))).set 3 (some (.int (R.length : Int)))).set 4 (some (.ref bp))).set 6 (some (optI (some b)))) (ev_ixEnd (K := K) (ev_ixEnd (K := K) (ev_var rfl) ev_neg1 hM6.at_ hend) ev_neg1 hIe.at (int_last (by rw [hRL.1]; omega))) ev_c
    rcases alt with ⟨hz, hres⟩ | ⟨hz, T2, bs2, b2, hdr, hres⟩
    · exact q_yes hT (by rw [decide_eq_false hz]; rfl) fun H7 e7 => s_ret ev_c fun H8 e8 => kN hres H8 ((e06.trans e7).trans e8)
    refine q_skip hT (by rw [hz]; rfl) fun H7 e7 => ?_
    have hM7 := hM6.ex e7
    -- table.pop()
    refine q_pop hM7.at_ (y := .ref pe) (by rw [List.length_map, hps6]; exact ref_at hpe) (ev_var rfl) fun H8 e8 => ?_
    have hM8 := Mat.pop (hM7.ex e8)
    have hB8 : NL (upd H8 t (.lst (ps6.map V.ref).dropLast)) bp bs1 := by
      show upd H8 t _ bp = _
      rw [upd_ne (Ne.symm ntb)]
      exact hB6.ex (e7.trans e8)
    have e08 : Ex H (upd H8 t (.lst (ps6.map V.ref).dropLast)) := Ex.mut ((e06.trans e7).trans e8) hHt
    generalize upd H8 t (.lst (ps6.map V.ref).dropLast) = H9 at hM8 hB8 e08 ⊢
    have hnb9 : ∀ q ∈ ps6.dropLast, q ≠ bp := fun q hq => hnb6 q (List.dropLast_subset _ hq)
    -- the loop
    refine q_for (ew_range R.length (ea_cons (ev_var rfl) ea_nil) rfl (by omega))
      (fun i σ' H' => ∃ a5 a7 a8 a9 a10 a11 psi Ti bsi bi, σ' = [some (.ref rp), some (.int (wide : Int)), some (.ref t), some (.int (R.length : Int)), some (.ref bp), a5, some (.int bi), a7, a8, a9, a10, a11] ∧ Ex H H' ∧ Mat H' t psi Ti ∧ TabOk (wide + 1) Ti ∧ Ti.length = R.length ∧
        NL H' bp bsi ∧ bsi.length = R.length ∧ (∀ q ∈ psi, q ≠ bp) ∧ drive intN wide (R.length - i) i Ti bsi bi = some (T2, bs2, b2))
      (fun H10 e10 _ => ⟨_, _, _, _, _, _, ps6.dropLast, T1.dropLast, bs1, b, rfl, e08.trans e10, hM8.ex e10, dropLast_ok hT6, by rw [List.length_dropLast]; omega, hB8.ex e10, hbl6, hnb9, hdr⟩) (fun _ _ _ _ => trivial) (fun i x σ' H10 H11 hi hP y => ?_) (fun σ' H10 hP => ?_)
    · obtain ⟨a5, a7, a8, a9, a10, a11, psi, Ti, bsi, bi, rfl, e10, hMi, hTi, hli, hBi, hbli, hnbi, hdi⟩ := hP
      refine y_name y ?_
      have hi' : i < Ti.length := by omega
      have hRi := hTi _ (getD_mem hi')
      obtain ⟨pi, hpi, hIi⟩ := hMi.rows.row i hi'
      have en : R.length - i = (R.length - (i + 1)) + 1 := by omega
      rw [en] at hdi
      refine q_asgL (xs := (FR.spots (fun x => decide (x ≠ 0)) (Ti.getD i []) wide).map fun (n : Nat) => V.int (n : Int)) (el_lcV (fun k => decide ((Ti.getD i []).getD k 0 ≠ 0)) (fun k => .int (k : Int)) (ei_range wide (ea_cons (ev_var rfl) ea_nil) rfl (by omega)) (by omega) tg_name (fun _ => rfl)
        (fun k H12 e12 hk => ?_) (fun k H12 e12 hk _ => ev_var rfl)) fun fp H12 hfp e12 h12 => ?_
      · refine et_is (ev_neI (ev_ixL (ev_ixL (ev_var rfl) (ev_var rfl) (hMi.ex e12).at_ (ref_at hpi)) (ev_var rfl) (hIi.ex e12).at (int_at (by rw [hRi.1]; omega))) ev_c) ?_
        by_cases q : (Ti.getD i []).getD k 0 = 0
        · rw [decide_eq_true q, decide_eq_false (fun z => z q)]
          rfl
        · rw [decide_eq_false q, decide_eq_true q]
          rfl
      have hM12 := hMi.ex e12
      have hB12 := hBi.ex e12
      have hfn := fn_take (wide := wide) hRi.1
      have hcond := et_and (t := tTest (tOp (rI0 fun i j => .bl (decide (j ≤ i))) (tOp (rIxL K) (tVar 4) (tVar 5)) (tVar 1))) (u := tTest (tOp (rI0 fun i j => .bl (decide (j < i))) (tCB (rLenS K) (tCons (tVar 7) tNil)) (tC (.int 0))))
        (σ := [some (.ref rp), some (.int (wide : Int)), some (.ref t), some (.int (R.length : Int)), some (.ref bp), some (.int (i : Int)), some (.int bi), some (.ref fp), a8, a9, a10, a11]) (ev_ge (ev_ixL (K := K) (ev_var rfl) (ev_var rfl) hB12.at (nat_at (by omega))) (ev_var rfl)) (fun _ => ev_gt (ev_len (ev_var rfl) (sq_of h12)) ev_c)
      by_cases hw : wide ≤ bsi.getD i 0
      · cases hs : (FR.spots (fun x => decide (x ≠ 0)) (Ti.getD i []) wide).head? with
        | none =>
          rw [hs] at hfn
          rw [drive_none hw hfn] at hdi
          have e0 : FR.spots (fun x => decide (x ≠ 0)) (Ti.getD i []) wide = [] := List.head?_eq_none_iff.mp hs
          refine s_skip hcond (by rw [e0, Bool.and_eq_false_iff]; exact .inr rfl) fun H13 e13 => ?_
          exact ⟨_, _, _, _, _, _, psi, Ti, bsi, bi, rfl, (e10.trans e12).trans e13, hM12.ex e13, hTi, hli, hB12.ex e13, hbli, hnbi, hdi⟩
        | some c =>
          rw [hs] at hfn
          have hcw := spots_lt hs
          rw [drive_some hw hfn] at hdi
          obtain ⟨tb, ht1, ht2⟩ := Option.bind_eq_some_iff.mp hdi
          obtain ⟨T3, b3⟩ := tb
          obtain ⟨hT3', hl3'⟩ := turned_ok ht1 hTi hi'
          have hl3' : T3.length = Ti.length := hl3'
          have hc0 : ((FR.spots (fun x => decide (x ≠ 0)) (Ti.getD i []) wide).map fun (n : Nat) => V.int (n : Int))[0]? = some (.int (c : Int)) := by
            rw [List.getElem?_map, head_at hs]
            rfl
          have hlen : (0 : Int) < (((FR.spots (fun x => decide (x ≠ 0)) (Ti.getD i []) wide).map fun (n : Nat) => V.int (n : Int)).length : Int) := by
            have h5 := (List.getElem?_eq_some_iff.mp hc0).1
            omega
          refine s_yes hcond (by
            rw [Bool.and_eq_true_iff]
            exact ⟨decide_eq_true (by omega), decide_eq_true hlen⟩) fun H13 e13 => ?_
          have hM13 := hM12.ex e13
          have hB13 := hB12.ex e13
          have h13 : H13 fp = _ := e13 fp _ h12
          have nft : fp ≠ t := fun z => by
            rw [z, hMi.at_] at hfp
            cases hfp
          refine q_call (ea_cons (ev_var rfl) (ea_cons (ev_var rfl) (ea_cons (ev_var rfl) (ea_cons (ev_ixL (i := 0) (ev_var rfl) ev_c h13 hc0) ea_nil)))) fun H14 e14 => ?_
          refine ⟨t, psi, Ti, wide + 1, bi, i, c, T3, b3, rfl, hM13.ex e14, hTi, by omega, by omega, hi', by omega, ht1, fun H15 ps15 e15 hM15 hq15 => ?_⟩
          have h15 : H15 fp = _ := e15 fp _ (by rw [del_ne nft]; exact e14 fp _ h13)
          have hB15 : NL H15 bp bsi := e15 bp _ (by rw [del_ne (Ne.symm ntb)]; exact hB13.ex e14)
          have e015 : Ex H H15 := fun a o ha => by
            refine e15 a o ?_
            rw [del_ne (ne_of_none ha hHt)]
            exact e14 a o (e13 a o (e12 a o (e10 a o ha)))
          have hnb15 : ∀ q ∈ ps15, q ≠ bp := fun q hq z => by
            rcases hq15 q hq with z1 | z1
            · exact hnbi q z1 z
            · rw [z, (hB13.ex e14).at] at z1
              cases z1
          refine s_setL hB15.at (ev_ixL (i := 0) (ev_var rfl) ev_c h15 hc0) (ev_var rfl) (ev_var rfl) (by rw [List.length_map, hbli]; exact hi) fun H16 e16 => ?_
          have hM16 := hM15.ex e16
          refine ⟨_, _, _, _, _, _, ps15, T3, bsi.set i c, b3, rfl, Ex.mut (e015.trans e16) hHb, ?_, hT3', by omega, ?_, by rw [List.length_set, hbli], hnb15, ht2⟩
          · refine ⟨by rw [upd_ne ntb]; exact hM16.at_, hM16.rows.len, fun j hj => ?_⟩
            obtain ⟨a, a1, a2⟩ := hM16.rows.row j hj
            refine ⟨a, a1, ?_⟩
            show upd H16 bp _ a = _
            rw [upd_ne (hnb15 a (List.mem_of_getElem? a1))]
            exact a2
          · show upd H16 bp _ bp = _
            rw [upd_same, nat_set]
      · rw [drive_low hw] at hdi
        refine s_skip hcond (by
          rw [Bool.and_eq_false_iff]
          exact .inl (decide_eq_false (by omega))) fun H13 e13 => ?_
        exact ⟨_, _, _, _, _, _, psi, Ti, bsi, bi, rfl, (e10.trans e12).trans e13, hM12.ex e13, hTi, hli, hB12.ex e13, hbli, hnbi, hdi⟩
    · obtain ⟨a5, a7, a8, a9, a10, a11, psi, Ti, bsi, bi, rfl, e10, hMi, hTi, hli, hBi, hbli, hnbi, hdi⟩ := hP
      rw [Nat.sub_self, drive_zero] at hdi
      have h0 := Option.some.inj hdi
      have r1 : Ti = T2 := congrArg (fun z => z.1) h0
      have r2 : bsi = bs2 := congrArg (fun z => z.2.1) h0
      have r3 : bi = b2 := congrArg (fun z => z.2.2) h0
      subst r1 r2 r3
      -- kept = [..]
      have eK : (keptOf R.length wide bsi).map (fun (n : Nat) => V.int (n : Int)) = given R.length (fun k => decide (((bsi.getD k 0 : Nat) : Int) < (wide : Int))) (fun k => .int (k : Int)) := by
        unfold keptOf given
        congr 1
        refine List.filter_congr fun k _ => ?_
        exact decide_eq_decide.mpr (by omega)
      refine q_asgL (xs := (keptOf R.length wide bsi).map fun (n : Nat) => V.int (n : Int)) ?_ fun kp H11 hkp e11 h11 => ?_
      · rw [eK]
        exact el_lcV _ _ (ei_range R.length (ea_cons (ev_var rfl) ea_nil) rfl (by omega)) (by omega) tg_name (fun _ => rfl)
          (fun k H12 e12 hk => ev_lt (ev_ixL (ev_var rfl) (ev_var rfl) (hBi.ex e12).at (nat_at (by omega))) (ev_var rfl)) (fun k H12 e12 hk _ => ev_var rfl)
      have hM11 := hMi.ex e11
      have hB11 := hBi.ex e11
      have hks : ∀ j, j < (keptOf R.length wide bsi).length → (keptOf R.length wide bsi).getD j 0 < R.length ∧ bsi.getD ((keptOf R.length wide bsi).getD j 0) 0 < wide := fun j hj => by
        have h5 : (keptOf R.length wide bsi).getD j 0 ∈ keptOf R.length wide bsi := by
          rw [List.getD_eq_getElem?_getD, List.getElem?_eq_getElem hj]
          exact List.getElem_mem hj
        obtain ⟨h6, h7⟩ := List.mem_filter.mp h5
        exact ⟨List.mem_range.mp h6, of_decide_eq_true h7⟩
      have hkl : (keptOf R.length wide bsi).length ≤ R.length := by
        have h5 := List.length_filter_le (fun i => decide (bsi.getD i 0 < wide)) (List.range R.length)
        rw [List.length_range] at h5
        exact h5
      have hat : ∀ j, j < (keptOf R.length wide bsi).length → atV ((keptOf R.length wide bsi).map fun (n : Nat) => V.int (n : Int)) j = .int ((keptOf R.length wide bsi).getD j 0 : Nat) := fun j hj => atV_of (nat_at hj)
      generalize hks0 : keptOf R.length wide bsi = ks at *
      have hIK := fun (H12 : Hp) (e12 : Ex H11 H12) => ei_list (K := K) (tl := tVar 8) (σ := [some (.ref rp), some (.int (wide : Int)), some (.ref t), some (.int (R.length : Int)), some (.ref bp), a5, some (.int bi), a7, some (.ref kp), a9, a10, a11]) (ev_var rfl) (e12 kp _ h11)
      refine s_ret3 (xs := (ks.map fun i => psi.getD i 0).map V.ref) (ys := (ks.map fun i => bsi.getD i 0).map fun (n : Nat) => V.int (n : Int)) ?_ (fun H12 e12 => ?_) (fun _ _ => ev_var rfl) fun p a b' H12 hp ha hb' nab e12 ha2 hb2 hp2 => ?_
      · have ex : (ks.map fun i => psi.getD i 0).map V.ref = (List.range ks.length).map fun j => V.ref (psi.getD (ks.getD j 0) 0) := by
          rw [List.map_map]
          refine List.ext_getElem? fun j => ?_
          rw [List.getElem?_map, List.getElem?_map]
          by_cases hj : j < ks.length
          · rw [List.getElem?_range hj, List.getElem?_eq_getElem hj]
            show some (V.ref (psi.getD ks[j] 0)) = some (V.ref (psi.getD (ks.getD j 0) 0))
            rw [List.getD_eq_getElem?_getD (l := ks), List.getElem?_eq_getElem hj]
            rfl
          · have h5 : ks[j]? = none := List.getElem?_eq_none (by omega)
            have h6 : (List.range ks.length)[j]? = none := List.getElem?_eq_none (by rw [List.length_range]; omega)
            rw [h5, h6]
            rfl
        rw [ex]
        have hI := hIK H11 (Ex.refl H11)
        rw [List.length_map] at hI
        refine el_map (fun j => .ref (psi.getD (ks.getD j 0) 0)) hI (by omega) tg_name (fun _ => rfl) fun j H13 e13 hj => ?_
        obtain ⟨hj1, hj2⟩ := hks j hj
        obtain ⟨pj, hpj, _⟩ := hM11.rows.row (ks.getD j 0) (by omega)
        have e5 : psi.getD (ks.getD j 0) 0 = pj := by
          rw [List.getD_eq_getElem?_getD, hpj]
          rfl
        rw [e5]
        refine ev_ixL (ev_var rfl) (ev_var ?_) (hM11.ex e13).at_ (ref_at hpj)
        rw [hat j hj]
        rfl
      · have ex : (ks.map fun i => bsi.getD i 0).map (fun (n : Nat) => V.int (n : Int)) = (List.range ks.length).map fun j => V.int ((bsi.getD (ks.getD j 0) 0 : Nat) : Int) := by
          rw [List.map_map]
          refine List.ext_getElem? fun j => ?_
          rw [List.getElem?_map, List.getElem?_map]
          by_cases hj : j < ks.length
          · rw [List.getElem?_range hj, List.getElem?_eq_getElem hj]
            show some (V.int ((bsi.getD ks[j] 0 : Nat) : Int)) = some (V.int ((bsi.getD (ks.getD j 0) 0 : Nat) : Int))
            rw [List.getD_eq_getElem?_getD (l := ks), List.getElem?_eq_getElem hj]
            rfl
          · have h5 : ks[j]? = none := List.getElem?_eq_none (by omega)
            have h6 : (List.range ks.length)[j]? = none := List.getElem?_eq_none (by rw [List.length_range]; omega)
            rw [h5, h6]
            rfl
        rw [ex]
        have hI := hIK H12 e12
        rw [List.length_map] at hI
        refine el_map (fun j => .int ((bsi.getD (ks.getD j 0) 0 : Nat) : Int)) hI (by omega) tg_name (fun _ => rfl) fun j H13 e13 hj => ?_
        obtain ⟨hj1, hj2⟩ := hks j hj
        refine ev_ixL (ev_var rfl) (ev_var ?_) ((hB11.ex e12).ex e13).at (nat_at (by omega))
        rw [hat j hj]
        rfl
      · have hM12 := hM11.ex e12
        refine kS _ _ _ hres p a b' (ks.map fun i => psi.getD i 0) H12 (fresh_back (e10.trans e11) hp) (fresh_back (e10.trans e11) ha) (fresh_back (e10.trans e11) hb') ((e10.trans e11).trans e12) hp2 ?_ hb2 ?_ (by rw [List.length_map, List.length_map]) (by rw [List.length_map]; exact hkl) ?_ nab (ne_of hp2 ha2 (by intro z; cases z)) (ne_of hp2 hb2 (by intro z; cases z)) ?_
        · refine ⟨ha2, by rw [List.length_map, List.length_map], fun j hj => ?_⟩
          rw [List.length_map] at hj
          obtain ⟨hj1, hj2⟩ := hks j hj
          obtain ⟨pj, hpj, hIj⟩ := hM12.rows.row (ks.getD j 0) (by omega)
          have h5 : ks[j]? = some (ks.getD j 0) := by
            rw [List.getD_eq_getElem?_getD, List.getElem?_eq_getElem hj]
            rfl
          refine ⟨pj, ?_, ?_⟩
          · rw [List.getElem?_map, h5]
            show some (psi.getD (ks.getD j 0) 0) = some pj
            rw [List.getD_eq_getElem?_getD (l := psi), hpj]
            rfl
          · rw [List.getD_eq_getElem?_getD, List.getElem?_map, h5]
            exact hIj
        · intro r hr'
          obtain ⟨i, hi, rfl⟩ := List.mem_map.mp hr'
          obtain ⟨j, hj, ej⟩ := List.mem_iff_getElem.mp hi
          have h5 := hks j hj
          rw [List.getD_eq_getElem?_getD, List.getElem?_eq_getElem hj] at h5
          have h6 : ks[j] < R.length := h5.1
          exact hTi _ (getD_mem (by rw [← ej]; omega))
        · intro k hk
          obtain ⟨i, hi, rfl⟩ := List.mem_map.mp hk
          obtain ⟨j, hj, ej⟩ := List.mem_iff_getElem.mp hi
          have h5 := hks j hj
          rw [List.getD_eq_getElem?_getD, List.getElem?_eq_getElem hj] at h5
          rw [← ej]
          exact h5.2
        · intro q hq z
          obtain ⟨i, hi, e6⟩ := List.mem_map.mp hq
          obtain ⟨j, hj, ej⟩ := List.mem_iff_getElem.mp hi
          have h5 := hks j hj
          rw [List.getD_eq_getElem?_getD, List.getElem?_eq_getElem hj] at h5
          have h6 : ks[j] < R.length := h5.1
          obtain ⟨pj, hpj, hIj⟩ := hM11.rows.row ks[j] (by omega)
          have e7 : pj = q := by
            rw [← e6, ← ej, List.getD_eq_getElem?_getD, hpj]
            rfl
          rw [← z, ← e7] at hb'
          rw [hIj.at] at hb'
          cases hb'
end
end Fd
end

section
set_option Elab.async false
set_option linter.all false
set_option maxRecDepth 100000
set_option maxHeartbeats 4000000
/-! W8: most. -/
namespace Ew
open PySem PySem.Spec PyProof.Rows L2 Evl
section
variable {K : Fg} {σ : L2.St} {H H' : Hp} {ta tb te tx : TE} {t u : TT} {x y z v : V} {r : R2} {D : Ends} {tu tw tz : TS}
theorem el_cat {xs zs : List V} (h1 : EvL ta σ H xs) (h2 : EvL tb σ H zs) (hz : xs.length + zs.length ≤ 100000) : EvL (tOp rCat ta tb) σ H (xs ++ zs) := fun H1 e Q q =>
  h1 H1 e _ fun a H2 na e2 ha => h2 H2 (e.trans e2) _ fun b H3 nb e3 hb => ⟨a, b, xs, zs, rfl, rfl, e3 a _ ha, hb, sz_of hz, fun p hp => q p _ (fresh_back (e2.trans e3) hp) ((e2.trans e3).trans (Ex.new hp)) upd_same⟩
def rTupS (K : Fg) : List V → Hp → VK → Prop := fun xs H Q => ∃ p ys, xs = [.ref p] ∧ ((SqL K H p ys ∧ ∀ l, H l = none → Q (.ref l) (upd H l (.tup ys))) ∨ (SqT K H p ys ∧ Q (.ref p) H))
theorem eu_tupL {p : Addr} {xs : List V} (ha : Ev ta σ H (.ref p)) (h : H p = some (.lst xs)) : EvU (tCB (rTupS K) (tCons ta tNil)) σ H xs := fun H1 e Q q =>
  ha H1 e _ fun H2 e2 => ⟨p, xs, rfl, .inl ⟨sq_of (e2 p _ (e p _ h)), fun l hl => q l _ (fresh_back e2 hl) (e2.trans (Ex.new hl)) upd_same⟩⟩
theorem eu_tupN {xs : List V} (ha : EvL ta σ H xs) : EvU (tCB (rTupS K) (tCons ta tNil)) σ H xs := fun H1 e Q q =>
  ha H1 e _ fun p H2 hp e2 h => ⟨p, xs, rfl, .inl ⟨sq_of h, fun l hl => q l _ (fresh_back e2 hl) (e2.trans (Ex.new hl)) upd_same⟩⟩
/-- a, b, c = e, e a triple that stands -/
theorem q_unp3 {i j l : Nat} {p : Addr} (h : Ev te σ H (.ref p)) (hp : H p = some (.tup [x, y, z])) (k : ∀ H1, Ex H H1 → tz D (((σ.set i (some x)).set j (some y)).set l (some z)) H1) : tSeq (tAsg te (gTup K 3 (gCons (gName i) (gCons (gName j) (gCons (gName l) gNil))))) tz D σ H :=
  h H (Ex.refl H) _ fun H1 e1 => ⟨p, _, rfl, st_of (e1 p _ hp), rfl, _, _, rfl, _, _, rfl, _, _, rfl, rfl, k _ e1⟩
/-- return (e, f) where e makes a tuple -/
theorem s_retU2 {xs : List V} (h1 : EvU ta σ H xs) (h2 : ∀ H1, Ex H H1 → Ev tb σ H1 z) (k : ∀ p a H1, H p = none → H a = none → a ≠ p → Ex H H1 → H1 a = some (.tup xs) → H1 p = some (.tup [.ref a, z]) → D.rt (.ref p) H1) : tRet (tTup (tCons ta (tCons tb tNil))) D σ H :=
  h1 H (Ex.refl H) _ fun a H1 ha e1 ha1 => h2 H1 e1 H1 (Ex.refl H1) _ fun H2 e2 => ⟨by show 2 ≤ sizeLine; decide, fun p hp =>
    k p a _ (fresh_back (e1.trans e2) hp) ha (ne_of_none (e2 a _ ha1) hp) ((e1.trans e2).trans (Ex.new hp)) (by rw [upd_ne (ne_of_none (e2 a _ ha1) hp)]; exact e2 a _ ha1) upd_same⟩
end
end Ew
namespace Fd
open PySem PySem.Spec PyProof.Rows L2 Evl Ew Tx FR
section
variable {P : Program} {w : World} {K : PySem.W.Frag} {mg : Str → Option Value} {base : Heap}
def sp_most : Sp := fun vs H Q _ => ∃ (rp gp : Addr) (ps0 : List Addr) (R : List (List Int)) (goal : List Int) (res : Option (Option (List Int × Int))), vs = [.ref rp, .ref gp] ∧ Mat H rp ps0 R ∧ IL H gp goal ∧ (∀ r ∈ R, r.length = goal.length + 1) ∧ R.length ≤ 200 ∧ goal.length ≤ 200 ∧ most intN R goal = some res ∧
  (res = none → ∀ H2, Ex H H2 → Q .non H2) ∧
  (res = some none → ∀ p H2, H p = none → Ex H H2 → H2 p = some (.tup []) → Q (.ref p) H2) ∧
  ∀ tops b, res = some (some (tops, b)) → tops.length = goal.length → (∀ x ∈ tops, Fit x) → 0 < b → Fit b → ∀ p a H2, H p = none → H a = none → Ex H H2 → H2 a = some (.tup (tops.map V.int)) → H2 p = some (.tup [.ref a, .int b]) → Q (.ref p) H2
theorem fit_lit (n : Int) (h : n.natAbs < 1000000) : Fit n := by
  unfold Fit
  refine Nat.lt_trans h ?_
  decide +kernel
theorem ok_most (T : Txt K mg) : FnOk P w K mg base CX0 4 T.most.a T.most.d p_most sp_most := by
  have G1 := ok_begun (P := P) (w := w) (base := base) T
  have G2 := ok_climbed (P := P) (w := w) (base := base) T
  refine T.most.F.ok sc_most (fun vs H Q E h => ?_) (fun cdv A outer s H vs Q E hr h => ?_)
  · obtain ⟨rp, gp, ps0, R, goal, res, rfl, _⟩ := h
    rfl
  · obtain ⟨rp, gp, ps0, R, goal, res, rfl, hM, hG, hRl, hm, hwd, hmo, kN, kE, kS⟩ := h
    have nd := sc_most.nd
    refine ⟨_, pss_cons (ps_set (i := 2) nd rfl (Or.inl rfl) (pe_callB call_len_seq (by rfl) T.z.len PySem.boot_len (pa_cons (pv 1) pa_nil)))
      (pss_cons (ps_set (i := 3) nd rfl (Or.inl rfl) (pe_call G1 hr (by rfl) T.begun.g T.begun.F.kp T.begun.b .nil pass0 (pa_cons (pv 0) (pa_cons (pv 2) pa_nil))))
      (pss_cons (ps_if (pt_cmpR op_isN (pv 3) pe_non (nomark _)) (pss_one (ps_ret pe_non)) pss_nil)
      (pss_cons (ps_asg (pv 3) (pg_tup rfl (pgs_cons (pg_name (i := 4) nd rfl (Or.inr rfl)) (pgs_cons (pg_name (i := 5) nd rfl (Or.inr rfl)) (pgs_cons (pg_name (i := 6) nd rfl (Or.inr rfl)) pgs_nil)))))
      (pss_cons (ps_set (i := 7) nd rfl (Or.inl rfl) (pe_callB call_len_seq (by rfl) T.z.len PySem.boot_len (pa_cons (pv 4) pa_nil)))
      (pss_cons (ps_set (i := 8) nd rfl (Or.inl rfl) (pe_op op_cat (pe_lc (own := [("part", 11)]) (by rfl) nd (pi_list (pv 1)) (blkOk_by (own := [("part", 11)]) (N := n_most) (sc := defScope s_most) (by decide +kernel))
            (fun _ _ _ _ _ => pg_name (i := 11) nd rfl (Or.inl rfl)) (fun _ _ _ _ _ => pts_nil) (fun _ _ _ _ _ => pe_op op_mulW (pv 11) (pv 6))) (pe_lst (pa_cons pe_int pa_nil))))
      (pss_cons (ps_for PassesOwn.never rfl (pi_range1 (by rfl) T.z.range (pa_cons (pv 7) pa_nil)) (pg_name (i := 9) nd rfl (Or.inr rfl))
        (pss_one (ps_setLc (i := 8) (own := [("k", 12), ("part", 11)]) (g := gTup K 2 (gCons (gName 12) (gCons (gName 11) gNil))) rfl nd rfl rfl (sw_true rfl rfl rfl (by decide +kernel)) (pi_enum (by rfl) T.z.enumerate (pa_cons (pv 8) pa_nil)) (blkOk_by (own := [("k", 12), ("part", 11)]) (N := n_most) (sc := defScope s_most) (by decide +kernel))
            (fun _ _ _ _ _ => pg_tup rfl (pgs_cons (pg_name (i := 12) nd rfl (Or.inl rfl) (Or.inr rfl)) (pgs_cons (pg_name (i := 11) nd rfl (Or.inl rfl) (Or.inr rfl)) pgs_nil))) (fun _ _ _ _ _ => pts_nil)
            (fun _ _ _ _ _ => pe_op op_sub (pv 11) (pe_op op_mulW (pe_ix (r := rIxL K) ix_list (pv 1) (pe_ix (r := rIxL K) ix_list (pv 5) (pv 9) (fun _ _ => rfl)) (fun _ _ => rfl)) (pe_ix (r := rIxL K) ix_list (pe_ix (r := rIxL K) ix_list (pv 4) (pv 9) (fun _ _ => rfl)) (pv 12) (fun _ _ => rfl)))))))
      (pss_cons (ps_expr (pe_bm PySem.F.plainAttrs_list PySem.F.slot_list_append PySem.F.type_list_append mt_append (pv 4) (pa_cons (pv 8) pa_nil)))
      (pss_cons (ps_set (i := 6) nd rfl (Or.inr rfl) (pe_call G2 (hr.mono (by decide)) (by rfl) T.climbed.g T.climbed.F.kp T.climbed.b .nil pass0 (pa_cons (pv 4) (pa_cons (pv 7) (pa_cons (pv 5) (pa_cons (pv 6) (pa_cons (pv 2) pa_nil)))))))
      (pss_cons (ps_if (pt_cmpR op_isN (pv 6) pe_non (nomark _)) (pss_one (ps_ret (pe_tup pa_nil))) pss_nil)
      (pss_cons (ps_setLc (i := 10) (own := [("column", 13)]) rfl nd rfl rfl (sw_true rfl rfl rfl (by decide +kernel)) (pi_range1 (by rfl) T.z.range (pa_cons (pv 2) pa_nil)) (blkOk_by (own := [("column", 13)]) (N := n_most) (sc := defScope s_most) (by decide +kernel))
            (fun _ _ _ _ _ => pg_name (i := 13) nd rfl (Or.inl rfl)) (fun _ _ _ _ _ => pts_nil) (fun _ _ _ _ _ => pe_int))
      (pss_cons (ps_for PassesOwn.never rfl (pi_range1 (by rfl) T.z.range (pa_cons (pv 7) pa_nil)) (pg_name (i := 9) nd rfl (Or.inr rfl))
        (pss_one (ps_asg (pe_ix ix_list (pe_ix ix_list (pv 4) (pv 9) (fun _ _ => rfl)) (pe_un un_neg pe_int) (fun _ _ => rfl)) (pg_sub (pv 10) (pe_ix ix_list (pv 5) (pv 9) (fun _ _ => rfl)) set_list))))
      (pss_one (ps_ret (pe_tup (pa_cons (pe_callTy (r := rTupS K) call_tuple_of (by rfl) T.z.tuple (by decide +kernel) (pa_cons (pv 10) pa_nil)) (pa_cons (pv 6) pa_nil)))))))))))))))), ?_⟩
    obtain ⟨hgf, alt⟩ := most_some hmo
    refine q_asg (ev_len (ev_var rfl) (sq_of hG.at)) fun H1 e1 => ?_
    rw [List.length_map]
    rcases alt with ⟨hb, hres⟩ | ⟨T1, bs, b, hb, hmf⟩
    · refine q_call (ea_cons (ev_var rfl) (ea_cons (ev_var rfl) ea_nil)) fun H2 e2 => ?_
      refine ⟨rp, ps0, R, goal.length, none, rfl, hM.ex (e1.trans e2), hRl, hm, hwd, hb, fun _ H3 e3 => ?_, fun _ _ _ z => by cases z⟩
      exact q_yes (ev_isN (ev_var rfl)) rfl fun H4 e4 => s_ret ev_c fun H5 e5 => kN hres H5 ((((e1.trans e2).trans e3).trans e4).trans e5)
    refine q_call (ea_cons (ev_var rfl) (ea_cons (ev_var rfl) ea_nil)) fun H2 e2 => ?_
    refine ⟨rp, ps0, R, goal.length, some (T1, bs, b), rfl, hM.ex (e1.trans e2), hRl, hm, hwd, hb, (fun z => by cases z), fun T' bs' b' z fr t bp ps H3 hfr ht hbp e3 hp3 hM3 hB3 hT3 hbl hTl hbw ntb npt npb hnb => ?_⟩
    have z1 := Option.some.inj z
    obtain rfl : T1 = T' := congrArg (fun z => z.1) z1
    obtain rfl : bs = bs' := congrArg (fun z => z.2.1) z1
    obtain rfl : b = b' := congrArg (fun z => z.2.2) z1
    obtain ⟨hb0, hbf, hpf, d, T2, bs2, hcl, hend⟩ := mostFrom_some hmf
    have e03 : Ex H H3 := (e1.trans e2).trans e3
    have hHt : H t = none := fresh_back (e1.trans e2) ht
    have hHb : H bp = none := fresh_back (e1.trans e2) hbp
    refine q_skip (ev_isN (ev_var rfl)) rfl fun H4 e4 => ?_
    refine q_unp3 (ev_var rfl) (e4 fr _ hp3) fun H5 e5 => ?_
    have hM5 := hM3.ex (e4.trans e5)
    have hB5 := hB3.ex (e4.trans e5)
    have hG5 := hG.ex ((e03.trans e4).trans e5)
    have e05 : Ex H H5 := (e03.trans e4).trans e5
    refine q_asg (ev_len (ev_var rfl) (sq_of hM5.at_)) fun H6 e6 => ?_
    rw [List.length_map, hM3.rows.len]
    have hG6 := hG5.ex e6
    refine q_asgL (xs := (price0 goal b).map V.int) ?_ fun lp H7 hlp e7 h7 => ?_
    · have es : (price0 goal b).map V.int = ((List.range goal.length).map fun i => V.int (goal.getD i 0 * b)) ++ [.int 0] := by
        unfold price0
        rw [List.map_append, List.map_map, map_at 0 goal]
        rfl
      rw [es]
      have hI := ei_list (K := K) (tl := tVar 1) (σ := [some (.ref rp), some (.ref gp), some (.int (goal.length : Int)), some (.ref fr), some (.ref t), some (.ref bp), some (.int b), some (.int (T1.length : Int)), none, none, none, none, none, none]) (ev_var rfl) hG6.at
      rw [List.length_map] at hI
      refine el_cat (el_map (fun i => .int (goal.getD i 0 * b)) hI (by omega) tg_name (fun _ => rfl) fun i H8 e8 hi => ?_) (el_lst (ea_cons ev_c ea_nil) (by decide)) (by rw [List.length_map, List.length_range]; show goal.length + 1 ≤ 100000; omega)
      refine ev_mulW (ev_var ?_) (ev_var rfl) (mul_fit (hgf _ (mem_getD hi)) hbf)
      rw [atV_int hi]
      rfl
    -- the pricing
    refine q_for (ew_range T1.length (ea_cons (ev_var rfl) ea_nil) rfl (by omega))
      (fun i σ' H' => ∃ a9 a10 a11 a12 a13 lp last, σ' = [some (.ref rp), some (.ref gp), some (.int (goal.length : Int)), some (.ref fr), some (.ref t), some (.ref bp), some (.int b), some (.int (T1.length : Int)), some (.ref lp), a9, a10, a11, a12, a13] ∧ Ex H5 H' ∧ H5 lp = none ∧
        IL H' lp last ∧ last.length = goal.length + 1 ∧ priced intN goal (T1.drop i) (bs.drop i) last = pricedRow intN goal T1 bs b)
      (fun H8 e8 _ => ⟨_, _, _, _, _, lp, price0 goal b, rfl, (e6.trans e7).trans e8, fresh_back e6 hlp, IL.ex e8 h7, price0_len, rfl⟩) (fun _ _ _ _ => trivial) (fun i x σ' H8 H9 hi hP y => ?_) (fun σ' H8 hP => ?_)
    · obtain ⟨a9, a10, a11, a12, a13, lp, last, rfl, e8, hlp8, h8, hll, hpr⟩ := hP
      refine y_name y ?_
      have hRi := hT3 _ (getD_mem hi)
      have hM8 := hM5.ex e8
      have hB8 := hB5.ex e8
      have hG8 := hG5.ex e8
      obtain ⟨pi, hpi, hIi⟩ := hM8.rows.row i hi
      have hk : bs.getD i 0 < goal.length := hbw _ (by
        rw [List.getD_eq_getElem?_getD, List.getElem?_eq_getElem (show i < bs.length by omega)]
        exact List.getElem_mem _)
      have hpl : (priceI goal (T1.getD i []) (bs.getD i 0) last).length = goal.length + 1 := price_len hRi.1 hll
      refine s_asgL (xs := (priceI goal (T1.getD i []) (bs.getD i 0) last).map V.int) ?_ fun lp2 H10 hlp2 e10 h10 => ?_
      · rw [map_range_row hpl]
        have es : ((List.range (goal.length + 1)).map fun c => V.int ((priceI goal (T1.getD i []) (bs.getD i 0) last).getD c 0)) = (List.range (goal.length + 1)).map fun c => V.int (last.getD c 0 - goal.getD (bs.getD i 0) 0 * (T1.getD i []).getD c 0) :=
          List.map_congr_left fun c hc => by rw [price_at hRi.1 hll (List.mem_range.mp hc)]
        rw [es]
        have hI := ei_enum (K := K) (ta := tCons (tVar 8) tNil) (σ := [some (.ref rp), some (.ref gp), some (.int (goal.length : Int)), some (.ref fr), some (.ref t), some (.ref bp), some (.int b), some (.int (T1.length : Int)), some (.ref lp), some (.int (i : Int)), a10, a11, a12, a13]) (ea_cons (ev_var rfl) ea_nil) h8.at
        rw [List.length_map, hll] at hI
        refine el_map (fun c => .int (last.getD c 0 - goal.getD (bs.getD i 0) 0 * (T1.getD i []).getD c 0)) hI (by omega) tg_pair (fun _ => rfl) fun c H11 e11 hc => ?_
        refine ev_sub (ev_var ?_) (ev_mulW (ev_ixL (ev_var rfl) (ev_ixL (ev_var rfl) (ev_var rfl) (hB8.ex e11).at (nat_at (by omega))) (hG8.ex e11).at (int_at hk)) (ev_ixL (ev_ixL (ev_var rfl) (ev_var rfl) (hM8.ex e11).at_ (ref_at hpi)) (ev_var rfl) (hIi.ex e11).at (int_at (by rw [hRi.1]; exact hc)))
          (mul_fit (hgf _ (mem_getD hk)) (hRi.2 _ (mem_getD (by rw [hRi.1]; exact hc)))))
        rw [atV_int (by omega)]
        rfl
      · refine ⟨_, _, _, _, _, lp2, priceI goal (T1.getD i []) (bs.getD i 0) last, rfl, e8.trans e10, fresh_back e8 hlp2, h10, hpl, ?_⟩
        rw [← hpr, priced_drop hi (by omega)]
    · obtain ⟨a9, a10, a11, a12, a13, lp, last, rfl, e8, hlp8, h8, hll, hpr⟩ := hP
      have hlast : last = pricedRow intN goal T1 bs b := by
        rw [← hpr, List.drop_length]
        rfl
      have hM8 := hM5.ex e8
      have hB8 := hB5.ex e8
      refine q_app hM8.at_ (ev_var rfl) (ev_var rfl) (by rw [List.length_map, hM3.rows.len]; omega) fun H9 e9 => ?_
      have hMs := Mat.snoc hM5 (e8.trans e9) hlp8 (h8.ex e9)
      have hBs : NL (upd H9 t (.lst (ps.map V.ref ++ [.ref lp]))) bp bs := by
        show upd H9 t _ bp = _
        rw [upd_ne (Ne.symm ntb)]
        exact hB8.ex e9
      have e0s : Ex H (upd H9 t (.lst (ps.map V.ref ++ [.ref lp]))) := Ex.mut ((e05.trans e8).trans e9) hHt
      generalize upd H9 t (.lst (ps.map V.ref ++ [.ref lp])) = Hs at hMs hBs e0s ⊢
      have hTs : TabOk (goal.length + 1) (T1 ++ [last]) := fun r hr' => by
        rcases List.mem_append.mp hr' with z | z
        · exact hT3 r z
        · rw [List.mem_singleton.mp z]
          exact ⟨hll, by rw [hlast]; exact hpf⟩
      have hnbs : ∀ q ∈ ps ++ [lp], q ≠ bp := fun q hq => by
        rcases List.mem_append.mp hq with z | z
        · exact hnb q z
        · rw [List.mem_singleton.mp z]
          exact Ne.symm (ne_of_none hB5.at hlp8)
      rw [← hlast] at hcl
      have hbw2 : NatsLt goal.length bs2 := climb_lt hcl (fun r hr' => by rw [(hTs r hr').1]; omega) (by rw [List.length_append]; show T1.length < T1.length + 1; omega) hbw
      refine q_call (ea_cons (ev_var rfl) (ea_cons (ev_var rfl) (ea_cons (ev_var rfl) (ea_cons (ev_var rfl) (ea_cons (ev_var rfl) ea_nil))))) fun H10 e10 => ?_
      refine ⟨t, bp, ps ++ [lp], T1 ++ [last], bs, goal.length, T1.length, FUEL, b, d, T2, bs2, rfl, hMs.ex e10, hTs, by rw [List.length_append]; rfl, by omega, by omega, hBs.ex e10, hbl, hnbs, hcl, fun H11 ps2 e11 hM11 hB11 hT11 hTl11 hbl11 hq11 => ?_⟩
      have e011 : Ex H H11 := fun a o ha => by
        refine e11 a o ?_
        rw [del_ne (ne_of_none ha hHb), del_ne (ne_of_none ha hHt)]
        exact e10 a o (e0s a o ha)
      rcases hend with ⟨hd, hres⟩ | ⟨d', hd, hd0, hdf, hres⟩
      · rw [hd]
        exact q_yes (ev_isN (ev_var rfl)) rfl fun H12 e12 => s_retU (eu_tup ea_nil (by decide)) fun p H13 hp e13 h13 => kE hres p H13 (fresh_back (e011.trans e12) hp) ((e011.trans e12).trans e13) h13
      rw [hd]
      refine q_skip (ev_isN (ev_var rfl)) rfl fun H12 e12 => ?_
      have e012 := e011.trans e12
      have hM12 := hM11.ex e12
      have hB12 := hB11.ex e12
      refine q_asgL (xs := (List.replicate goal.length (0 : Int)).map V.int) ?_ fun tp H13 htp e13 h13 => ?_
      · have es : (List.replicate goal.length (0 : Int)).map V.int = (List.range goal.length).map fun _ => V.int 0 := by
          rw [List.map_replicate, List.map_const', List.length_range]
        rw [es]
        exact el_map (fun _ => .int 0) (ei_range goal.length (ea_cons (ev_var rfl) ea_nil) rfl (by omega)) (by omega) tg_name (fun _ => rfl) fun _ _ _ _ => ev_c
      have hHtp : H tp = none := fresh_back e012 htp
      have hTTl : (T2.take T1.length).length = T1.length := by
        rw [List.length_take, hTl11]
        omega
      have hTT : ∀ i, i < T1.length → (T2.take T1.length).getD i [] = T2.getD i [] := fun i hi => by
        rw [List.getD_eq_getElem?_getD, List.getElem?_take, if_pos hi, ← List.getD_eq_getElem?_getD]
      refine q_for (ew_range T1.length (ea_cons (ev_var rfl) ea_nil) rfl (by omega))
        (fun i σ' H' => ∃ a9 a11 a12 a13 tops, σ' = [some (.ref rp), some (.ref gp), some (.int (goal.length : Int)), some (.ref fr), some (.ref t), some (.ref bp), some (.int d'), some (.int (T1.length : Int)), some (.ref lp), a9, some (.ref tp), a11, a12, a13] ∧ Ex H12 H' ∧
          IL H' tp tops ∧ tops.length = goal.length ∧ topsOf intN ((T2.take T1.length).drop i) (bs2.drop i) tops = topsOf intN (T2.take T1.length) bs2 (List.replicate goal.length 0))
        (fun H14 e14 _ => ⟨_, _, _, _, List.replicate goal.length 0, rfl, e13.trans e14, IL.ex e14 h13, List.length_replicate, rfl⟩) (fun _ _ _ _ => trivial) (fun i x σ' H14 H15 hi hP y => ?_) (fun σ' H14 hP => ?_)
      · obtain ⟨a9, a11, a12, a13, tops, rfl, e14, h14, htl, hto⟩ := hP
        refine y_name y ?_
        have hRi := hT11 _ (getD_mem (T := T2) (i := i) (by omega))
        have hM14 := hM12.ex e14
        have hB14 := hB12.ex e14
        obtain ⟨pi, hpi, hIi⟩ := hM14.rows.row i (by omega)
        have hk : bs2.getD i 0 < goal.length := hbw2 _ (by
          rw [List.getD_eq_getElem?_getD, List.getElem?_eq_getElem (show i < bs2.length by omega)]
          exact List.getElem_mem _)
        refine s_setL h14.at (ev_ixEnd (ev_ixL (ev_var rfl) (ev_var rfl) hM14.at_ (ref_at hpi)) ev_neg1 hIi.at (int_last (by rw [hRi.1]; omega))) (ev_var rfl) (ev_ixL (ev_var rfl) (ev_var rfl) hB14.at (nat_at (by omega))) (by rw [List.length_map, htl]; exact hk) fun H16 e16 => ?_
        refine ⟨_, _, _, _, tops.set (bs2.getD i 0) ((T2.getD i []).getLastD 0), rfl, Ex.mut (e14.trans e16) htp, ?_, by rw [List.length_set, htl], ?_⟩
        · show upd H16 tp _ tp = _
          rw [upd_same, List.map_set]
        · have h5 := tops_drop (tops := tops) (T := T2.take T1.length) (bs := bs2) (i := i) (by omega) (by omega)
          rw [hTT i hi] at h5
          exact h5.symm.trans hto
      · obtain ⟨a9, a11, a12, a13, tops, rfl, e14, h14, htl, hto⟩ := hP
        have htops : tops = topsOf intN (T2.take T1.length) bs2 (List.replicate goal.length 0) := by
          rw [← hto]
          have e5 : (T2.take T1.length).drop T1.length = [] := List.drop_eq_nil_of_le (by omega)
          rw [e5]
          rfl
        have htf : ∀ x ∈ tops, Fit x := by
          rw [htops]
          refine tops_fit (fun r hr' => ?_) fun x hx => ?_
          · have h5 := hT11 r (List.mem_of_mem_take hr')
            refine ⟨fun z => ?_, h5.2⟩
            have h6 := h5.1
            rw [z] at h6
            cases h6
          · rw [List.eq_of_mem_replicate hx]
            exact fit_lit 0 (by decide)
        rw [← htops] at hres
        exact s_retU2 (eu_tupL (ev_var rfl) h14.at) (fun _ _ => ev_var rfl) fun p a H15 hp ha nap e15 ha1 hp1 => kS tops d' hres htl htf hd0 hdf p a H15 (fresh_back (e012.trans e14) hp) (fresh_back (e012.trans e14) ha) ((e012.trans e14).trans e15) ha1 hp1
end
end Fd
end

section
set_option Elab.async false
set_option linter.all false
set_option maxRecDepth 100000
set_option maxHeartbeats 4000000
/-! W9: what a program is given as; the checks. -/
namespace Ew
open PySem PySem.Spec PyProof.Rows L2 Evl
section
variable {K : Fg} {σ : L2.St} {H H' : Hp} {ta tb te tx : TE} {t u : TT} {x y z v : V} {r : R2} {D : Ends} {tu tw tz : TS}
theorem ev_isi {m n : String} {b : Bool} (h : Ev ta σ H x) (ty : ∀ H1, Ex H H1 → TyX K H1 x (.type m)) (hk : kitB m n = some b) : Ev (tCB (rIsi K) (tCons ta (tCons (tC (.ty n)) tNil))) σ H (.bl b) := fun H1 e Q q =>
  h H1 e _ fun H2 e2 => ⟨x, .ty n, .type m, .type n, b, rfl, .ty n, ty H2 (e.trans e2), kit_ty hk, q H2 e2⟩
theorem ev_all {bs : List Bool} (h : EvL te σ H (bs.map V.bl)) : Ev (tCB (rAll K) (tCons te tNil)) σ H (.bl (bs.all id)) := fun H1 e Q q =>
  h H1 e _ fun p H2 _ e2 h2 => ⟨p, bs, rfl, sq_of h2, q H2 e2⟩
theorem ev_allT {n : Nat} (h : EvL te σ H ((List.range n).map fun _ => V.bl true)) : Ev (tCB (rAll K) (tCons te tNil)) σ H (.bl true) := by
  have h2 : EvL te σ H (((List.range n).map fun _ => true).map V.bl) := by
    rw [List.map_map]
    exact h
  refine ev_is (ev_all h2) (congrArg V.bl ?_)
  refine List.all_eq_true.mpr fun b hb => ?_
  obtain ⟨_, _, rfl⟩ := List.mem_map.mp hb
  rfl
theorem ev_inS {c : Nat} {z : Str} (ha : Ev ta σ H (.str ⟨#[c]⟩)) (hb : Ev tb σ H (.str z)) : Ev (tOp (fun x y H Q => ∃ (c : Nat) (z : Str), x = .str ⟨#[c]⟩ ∧ y = .str z ∧ Q (.bl (decide (c ∈ z.cps.toList))) H) ta tb) σ H (.bl (decide (c ∈ z.cps.toList))) :=
  ev_op ha hb fun H1 _ Q q => ⟨c, z, rfl, rfl, q H1 (Ex.refl H1)⟩
theorem ev_notInS {c : Nat} {z : Str} (ha : Ev ta σ H (.str ⟨#[c]⟩)) (hb : Ev tb σ H (.str z)) : Ev (tOp (fun x y H Q => ∃ (c : Nat) (z : Str), x = .str ⟨#[c]⟩ ∧ y = .str z ∧ Q (.bl (!decide (c ∈ z.cps.toList))) H) ta tb) σ H (.bl (!decide (c ∈ z.cps.toList))) :=
  ev_op ha hb fun H1 _ Q q => ⟨c, z, rfl, rfl, q H1 (Ex.refl H1)⟩
theorem ev_lenT {p : Addr} {xs : List V} (ha : Ev ta σ H (.ref p)) (h : H p = some (.tup xs)) : Ev (tCB (rLenS K) (tCons ta tNil)) σ H (.int (xs.length : Int)) := fun H1 e Q q =>
  ha H1 e _ fun H2 e2 => ⟨p, xs, rfl, .inr (st_of (e2 p _ (e p _ h))), q H2 e2⟩
theorem ty_int {i : Int} : TyX K H (.int i) (.type "int") := .base (.int i)
theorem ty_str {s : Str} : TyX K H (.str s) (.type "str") := .base (.str s)
theorem ty_tup {p : Addr} {xs : List V} (h : H p = some (.tup xs)) : TyX K H (.ref p) (.type "tuple") := .base (.tup h)
theorem ev_le {i j : Int} (h : Ev ta σ H (.int i)) (h2 : Ev tb σ H (.int j)) : Ev (tOp (rI0 fun i j => .bl (decide (i ≤ j))) ta tb) σ H (.bl (decide (i ≤ j))) := ev_op h h2 rv_I0
theorem et_chain {r r' : R2} {tc : TE} {w : V} {b : Bool} (ha : Ev ta σ H x) (hb : Ev tb σ H y) (h1 : RV r x y H (.bl true)) (hc : Ev tc σ H w) (h2 : RV r' y w H (.bl b)) : EvT (tTest (tChain r r' ta tb tc)) σ H b := fun H1 e Q q =>
  ha H1 e _ fun H2 e2 => hb H2 (e.trans e2) _ fun H3 e3 => h1 H3 ((e.trans e2).trans e3) _ fun H4 e4 => ⟨true, rfl, hc H4 (((e.trans e2).trans e3).trans e4) _ fun H5 e5 => h2 H5 ((((e.trans e2).trans e3).trans e4).trans e5) _ fun H6 e6 => ⟨b, rfl, q H6 ((((e2.trans e3).trans e4).trans e5).trans e6)⟩⟩
theorem ev_lenS {z : Str} (ha : Ev ta σ H (.str z)) (hz : z.length ≤ 100000) : Ev (tCB (fun xs H Q => ∃ z, xs = [.str z] ∧ z.length ≤ sizeLine ∧ Q (.int z.length) H) (tCons ta tNil)) σ H (.int z.length) := fun H1 e Q q =>
  ha H1 e _ fun H2 e2 => ⟨z, rfl, sz_of hz, q H2 e2⟩
end
/-! ### what a program is given as -/
def TupI (H : Hp) (p : Addr) (r : List Int) : Prop := H p = some (.tup (r.map V.int))
theorem TupI.at {H : Hp} {p : Addr} {r : List Int} (h : TupI H p r) : H p = some (.tup (r.map V.int)) := h
def TupS (H : Hp) (p : Addr) (r : List Str) : Prop := H p = some (.tup (r.map V.str))
theorem TupS.at {H : Hp} {p : Addr} {r : List Str} (h : TupS H p r) : H p = some (.tup (r.map V.str)) := h
structure Each {α : Type} (P : α → Addr → Hp → Prop) (H : Hp) (ps : List Addr) (l : List α) : Prop where
  len : ps.length = l.length
  at_ : ∀ (i : Nat) (x : α), l[i]? = some x → ∃ q, ps[i]? = some q ∧ P x q H
def Lasts {α : Type} (P : α → Addr → Hp → Prop) : Prop := ∀ x q H H', Ex H H' → P x q H → P x q H'
theorem Each.ex {α : Type} {P : α → Addr → Hp → Prop} (m : Lasts P) {H H' : Hp} {ps : List Addr} {l : List α} (e : Ex H H') (h : Each P H ps l) : Each P H' ps l := ⟨h.len, fun i x hx => let ⟨q, h1, h2⟩ := h.at_ i x hx; ⟨q, h1, m x q H H' e h2⟩⟩
def TupOf {α : Type} (P : α → Addr → Hp → Prop) (l : List α) (p : Addr) (H : Hp) : Prop := ∃ ps, H p = some (.tup (ps.map V.ref)) ∧ Each P H ps l
theorem lasts_tup {α : Type} {P : α → Addr → Hp → Prop} (m : Lasts P) : Lasts (TupOf P) := fun l p H H' e ⟨ps, h1, h2⟩ => ⟨ps, e p _ h1, h2.ex m e⟩
def FormP (r : List Int) (p : Addr) (H : Hp) : Prop := TupI H p r
theorem lasts_form : Lasts FormP := fun r p H H' e h => e p _ h
structure Brh where
  src : Str
  tgt : Str
  tests : List (List Int)
  changes : List (List Int)
def SayP (s : Str × List Int) (p : Addr) (H : Hp) : Prop := ∃ f, H p = some (.tup [.str s.1, .ref f]) ∧ TupI H f s.2
theorem lasts_say : Lasts SayP := fun s p H H' e ⟨f, h1, h2⟩ => ⟨f, e p _ h1, e f _ h2⟩
def BrP (b : Brh) (p : Addr) (H : Hp) : Prop := ∃ t c, H p = some (.tup [.str b.src, .str b.tgt, .ref t, .ref c]) ∧ TupOf FormP b.tests t H ∧ TupOf FormP b.changes c H
theorem lasts_br : Lasts BrP := fun b p H H' e ⟨t, c, h1, h2, h3⟩ => ⟨t, c, e p _ h1, lasts_tup lasts_form _ _ _ _ e h2, lasts_tup lasts_form _ _ _ _ e h3⟩
def LETT : Str := "abcdefghijklmnopqrstuvwxyz"
def LetterS (s : Str) : Prop := ∃ c, s = ⟨#[c]⟩ ∧ c ∈ LETT.cps.toList
def FormOk (many : Nat) (r : List Int) : Prop := r.length = many + 1 ∧ ∀ x ∈ r, x.natAbs ≤ 1000000
def SayOk (many : Nat) (s : Str × List Int) : Prop := LetterS s.1 ∧ FormOk many s.2
structure BrOk (many : Nat) (b : Brh) : Prop where
  src : LetterS b.src
  tgt : LetterS b.tgt
  few : b.tests.length ≤ 3
  tests : ∀ r ∈ b.tests, FormOk many r
  all : b.changes.length = many
  changes : ∀ r ∈ b.changes, FormOk many r
end Ew
namespace Fd
open PySem PySem.Spec PyProof.Rows L2 Evl Ew Tx FR
section
variable {P : Program} {w : World} {K : PySem.W.Frag} {mg : Str → Option Value} {base : Heap}
def sp_is_integer : Sp := fun vs H Q _ => ∃ i, vs = [.int i] ∧ RetV (.bl true) H Q
theorem ok_is_integer (T : Txt K mg) : FnOk P w K mg base CX0 1 T.is_integer.a T.is_integer.d p_is_integer sp_is_integer := by
  refine T.is_integer.F.ok sc_is_integer (fun vs H Q E h => ?_) (fun cdv A outer s H vs Q E hr h => ?_)
  · obtain ⟨i, rfl, _⟩ := h
    rfl
  · obtain ⟨i, rfl, k⟩ := h
    refine ⟨_, pss_one (ps_ret (pe_and (pe_callB (r := rIsi K) call_isi (by rfl) T.z.isinstance (by decide +kernel) (pa_cons (pv 0) (pa_cons (pe_bltn (v := .ty "int") (by rfl) T.z.int (by decide +kernel) rfl) pa_nil)))
      (pe_one (pe_not (pe_callB (r := rIsi K) call_isi (by rfl) T.z.isinstance (by decide +kernel) (pa_cons (pv 0) (pa_cons (pe_bltn (v := .ty "bool") (by rfl) T.z.bool (by decide +kernel) rfl) pa_nil))))))), ?_⟩
    exact s_ret (v := .bl true) (ev_is (ev_andV (ev_isi (m := "int") (b := true) (ev_var rfl) (fun _ _ => ty_int) (by decide +kernel)) fun _ => ev_notV (ev_isi (m := "int") (b := false) (ev_var rfl) (fun _ _ => ty_int) (by decide +kernel))) rfl) k
def sp_is_name : Sp := fun vs H Q _ => ∃ x, vs = [.str x] ∧ LetterS x ∧ RetV (.bl true) H Q
theorem ok_is_name (T : Txt K mg) : FnOk P w K mg base CX0 1 T.is_name.a T.is_name.d p_is_name sp_is_name := by
  refine T.is_name.F.ok sc_is_name (fun vs H Q E h => ?_) (fun cdv A outer s H vs Q E hr h => ?_)
  · obtain ⟨x, rfl, _⟩ := h
    rfl
  · obtain ⟨x, rfl, ⟨c, rfl, hc⟩, k⟩ := h
    have nd := sc_is_name.nd
    obtain ⟨t1, hL⟩ := T.i.LETTERS
    obtain ⟨t2, hD⟩ := T.i.DIGITS
    refine ⟨_, pss_cons (ps_if (PW.pt (pw_or (pt_not (pt_val (pe_callB (r := rIsi K) call_isi (by rfl) T.z.isinstance (by decide +kernel) (pa_cons (pv 0) (pa_cons (pe_bltn (v := .ty "str") (by rfl) T.z.str (by decide +kernel) rfl) pa_nil)))))
        (pw_or (pt_not (pt_chain op_le op_le pe_int (pe_callB call_len_str (by rfl) T.z.len PySem.boot_len (pa_cons (pv 0) pa_nil)) pe_int))
        (pw_or1 (pt_cmpR op_notIn_sign (pe_ix ix_str (pv 0) pe_int (fun _ _ => rfl)) (C8.pe_gc (v := .str LETT) (by rfl) ⟨_, hL, ⟨_, rfl⟩⟩) (by rfl))))))
        (pss_one (ps_ret pe_bl)) pss_nil)
      (pss_one (ps_ret (pe_callB (r := rAll K) (cr_all rfl) (by rfl) T.z.all (by decide +kernel) (pa_cons (pe_lc (own := [("sign", 1)]) (wi := iStr (tVar 0)) (by rfl) nd (pi_str (pv 0)) (blkOk_by (own := [("sign", 1)]) (N := n_is_name) (sc := defScope s_is_name) (by decide +kernel))
          (fun _ _ _ _ _ => pg_name (i := 1) nd rfl (Or.inl rfl)) (fun _ _ _ _ _ => pts_nil)
          (fun _ _ _ _ _ => pe_or (pe_cmpR op_in_sign (pv 1) (C8.pe_gc (v := .str LETT) (by rfl) ⟨_, hL, ⟨_, rfl⟩⟩) (by rfl)) (pe_one (pe_cmpR op_in_sign (pv 1) (C8.pe_gc (v := .str "0123456789") (by rfl) ⟨_, hD, ⟨_, rfl⟩⟩) (by rfl))))) pa_nil)))), ?_⟩
    have hz : (⟨#[c]⟩ : Str).length ≤ 100000 := by
      show 1 ≤ 100000
      decide
    refine q_skip (b := false) (et_is (et_or (et_not (et_B (ev_isi (m := "str") (b := true) (ev_var rfl) (fun _ _ => ty_str) (by decide +kernel)))) fun _ =>
      et_or (et_not (et_chain (x := .int 1) (w := .int 8) (b := true) ev_c (ev_lenS (ev_var rfl) hz) (rv_I0 (g := fun i j => .bl (decide (i ≤ j)))) ev_c (rv_I0 (g := fun i j => .bl (decide (i ≤ j)))))) fun _ =>
        et_test (ev_notInS (c := c) (ev_op (ev_var rfl) ev_c (rv_ixS (c := c) hz rfl)) ev_c)) (by rw [decide_eq_true hc]; rfl)) rfl fun H1 e1 => ?_
    refine s_ret (v := .bl true) (ev_allT (n := 1) (el_map (fun _ => .bl true) (show EvI (iStr (tVar 0)) (start n_is_name [.str ⟨#[c]⟩]) H1 1 _ from ei_str (z := ⟨#[c]⟩) (ev_var rfl)) (by decide) tg_name (fun _ => rfl) fun i H2 e2 hi => ?_)) fun H2 e2 => k H2 (e1.trans e2)
    have hi0 : i = 0 := by
      have : i < 1 := hi
      omega
    subst hi0
    refine ev_is (ev_orV (ev_inS (c := c) (ev_var rfl) ev_c) fun _ => ev_inS (c := c) (ev_var rfl) ev_c) ?_
    rw [decide_eq_true hc]
    rfl
def sp_are_integers : Sp := fun vs H Q _ => ∃ (p : Addr) (r : List Int) (m : Nat), vs = [.ref p, .int (m : Int)] ∧ TupI H p r ∧ r.length = m ∧ m ≤ 100 ∧ RetV (.bl true) H Q
theorem ok_are_integers (T : Txt K mg) : FnOk P w K mg base CX0 2 T.are_integers.a T.are_integers.d p_are_integers sp_are_integers := by
  have G1 := ok_is_integer (P := P) (w := w) (base := base) T
  refine T.are_integers.F.ok sc_are_integers (fun vs H Q E h => ?_) (fun cdv A outer s H vs Q E hr h => ?_)
  · obtain ⟨p, r, m, rfl, _⟩ := h
    rfl
  · obtain ⟨p, r, m, rfl, hr2, hl, hm, k⟩ := h
    have nd := sc_are_integers.nd
    refine ⟨_, pss_one (ps_ret (pe_and (pe_callB (r := rIsi K) call_isi (by rfl) T.z.isinstance (by decide +kernel) (pa_cons (pv 0) (pa_cons (pe_bltn (v := .ty "tuple") (by rfl) T.z.tuple (by decide +kernel) rfl) pa_nil)))
      (pe_and (pe_cmpR op_eq (pe_callB (r := rLenS K) call_len_seq (by rfl) T.z.len PySem.boot_len (pa_cons (pv 0) pa_nil)) (pv 1) (nomark _))
      (pe_one (pe_callB (r := rAll K) (cr_all rfl) (by rfl) T.z.all (by decide +kernel) (pa_cons (pe_lc (own := [("part", 2)]) (wi := iTup K (tVar 0)) (by rfl) nd (pi_tup (pv 0)) (blkOk_by (own := [("part", 2)]) (N := n_are_integers) (sc := defScope s_are_integers) (by decide +kernel))
          (fun _ _ _ _ _ => pg_name (i := 2) nd rfl (Or.inl rfl)) (fun _ _ _ _ _ => pts_nil)
          (fun _ _ _ _ _ => pe_call G1 hr (by rfl) T.is_integer.g T.is_integer.F.kp T.is_integer.b .nil pass0 (pa_cons (pv 2) pa_nil))) pa_nil)))))), ?_⟩
    have hI := ei_tup (K := K) (tl := tVar 0) (σ := start n_are_integers [.ref p, .int (m : Int)]) (ev_var rfl) hr2.at
    rw [List.length_map, hl] at hI
    refine s_ret (v := .bl true) (ev_is (ev_andV (ev_isi (m := "tuple") (b := true) (ev_var rfl) (fun H1 e1 => ty_tup (e1 p _ hr2)) (by decide +kernel)) fun _ => ev_andV (ev_is (ev_op (ev_lenT (ev_var rfl) hr2.at) (ev_var rfl) (rv_eq rfl)) (congrArg V.bl (decide_eq_true (by rw [List.length_map, hl])))) fun _ =>
      ev_allT (n := m) (el_map (fun _ => .bl true) hI (by omega) tg_name (fun _ => rfl) fun i H1 e1 hi => ?_)) rfl) k
    refine ev_call (vs := [.int (r.getD i 0)]) (ea_cons (ev_var ?_) ea_nil) fun H2 e2 Q2 q2 E2 => ⟨_, rfl, q2⟩
    rw [atV_int (by omega)]
    rfl
def sp_is_form : Sp := fun vs H Q _ => ∃ (p : Addr) (r : List Int) (m : Nat), vs = [.ref p, .int (m : Int)] ∧ TupI H p r ∧ FormOk m r ∧ m ≤ 10 ∧ RetV (.bl true) H Q
theorem ok_is_form (T : Txt K mg) : FnOk P w K mg base CX0 3 T.is_form.a T.is_form.d p_is_form sp_is_form := by
  have G1 := ok_are_integers (P := P) (w := w) (base := base) T
  refine T.is_form.F.ok sc_is_form (fun vs H Q E h => ?_) (fun cdv A outer s H vs Q E hr h => ?_)
  · obtain ⟨p, r, m, rfl, _⟩ := h
    rfl
  · obtain ⟨p, r, m, rfl, hr2, ⟨hl, hb⟩, hm, k⟩ := h
    have nd := sc_is_form.nd
    obtain ⟨t1, hN⟩ := T.i.MOST_NUMBER
    refine ⟨_, pss_one (ps_ret (pe_and (pe_call G1 hr (by rfl) T.are_integers.g T.are_integers.F.kp T.are_integers.b .nil pass0 (pa_cons (pv 0) (pa_cons (pe_op op_add (pv 1) pe_int) pa_nil)))
      (pe_one (pe_callB (r := rAll K) (cr_all rfl) (by rfl) T.z.all (by decide +kernel) (pa_cons (pe_lc (own := [("part", 2)]) (wi := iTup K (tVar 0)) (by rfl) nd (pi_tup (pv 0)) (blkOk_by (own := [("part", 2)]) (N := n_is_form) (sc := defScope s_is_form) (by decide +kernel))
          (fun _ _ _ _ _ => pg_name (i := 2) nd rfl (Or.inl rfl)) (fun _ _ _ _ _ => pts_nil)
          (fun _ _ _ _ _ => pe_cmpR op_le (pe_callB call_abs (by rfl) T.z.abs (by decide +kernel) (pa_cons (pv 2) pa_nil)) (C8.pe_gc (v := .int 1000000) (by rfl) ⟨_, hN, ⟨_, rfl⟩⟩) (nomark _))) pa_nil))))), ?_⟩
    have hI := ei_tup (K := K) (tl := tVar 0) (σ := start n_is_form [.ref p, .int (m : Int)]) (ev_var rfl) hr2.at
    rw [List.length_map, hl] at hI
    refine s_ret (v := .bl true) (ev_is (ev_andV (a := true) (b := true) (ev_call (vs := [.ref p, .int ((m : Int) + 1)]) (ea_cons (ev_var rfl) (ea_cons (ev_add (ev_var rfl) ev_c) ea_nil)) fun H2 e2 Q2 q2 E2 => ⟨p, r, m + 1, rfl, e2 p _ hr2, hl, by omega, q2⟩) fun _ =>
      ev_allT (n := m + 1) (el_map (fun _ => .bl true) hI (by omega) tg_name (fun _ => rfl) fun i H1 e1 hi => ?_)) rfl) k
    have hil : i < r.length := by omega
    refine ev_is (ev_le (ev_abs (i := r.getD i 0) (ev_var ?_)) ev_c) (congrArg V.bl (decide_eq_true ?_))
    · rw [atV_int hil]
      rfl
    · have h5 := hb _ (mem_getD hil)
      have h6 : (r.getD i 0).natAbs ≤ 1000000 := h5
      show ((r.getD i 0).natAbs : Int) ≤ 1000000
      omega
end
end Fd
end

section
set_option Elab.async false
set_option linter.all false
set_option maxRecDepth 100000
set_option maxHeartbeats 4000000
/-! WA: sayings, branches, names. -/
namespace Ew
open PySem PySem.Spec PyProof.Rows L2 Evl
section
variable {K : Fg} {σ : L2.St} {H H' : Hp} {ta tb te tx : TE} {t u : TT} {x y z v : V} {r : R2} {D : Ends} {tu tw tz : TS}
theorem ea_star {tr : TA} {p : Addr} {xs ys : List V} (h : Ev te σ H (.ref p)) (hp : H p = some (.tup xs)) (hr : EvA tr σ H ys) : EvA (StX.tStar K te tr) σ H (xs ++ ys) := fun H1 e Q q =>
  h H1 e _ fun H2 e2 => ⟨p, xs, rfl, .inl (st_of (e2 p _ (e p _ hp))), hr H2 (e.trans e2) _ fun H3 e3 => q H3 (e2.trans e3)⟩
theorem ea_starL {tr : TA} {p : Addr} {xs ys : List V} (h : Ev te σ H (.ref p)) (hp : H p = some (.lst xs)) (hr : EvA tr σ H ys) : EvA (StX.tStar K te tr) σ H (xs ++ ys) := fun H1 e Q q =>
  h H1 e _ fun H2 e2 => ⟨p, xs, rfl, .inr (sq_of (e2 p _ (e p _ hp))), hr H2 (e.trans e2) _ fun H3 e3 => q H3 (e2.trans e3)⟩
theorem ea_starN {tr : TA} {xs ys : List V} (h : EvL te σ H xs) (hr : EvA tr σ H ys) : EvA (StX.tStar K te tr) σ H (xs ++ ys) := fun H1 e Q q =>
  h H1 e _ fun p H2 _ e2 hp => ⟨p, xs, rfl, .inr (sq_of hp), hr H2 (e.trans e2) _ fun H3 e3 => q H3 (e2.trans e3)⟩
/-- t[lo:hi] of a tuple: it may be the tuple itself -/
theorem ep_slA {tl th : TO} {a : Addr} {xs : List V} {lo hi : Option Int} (h : Ev te σ H (.ref a)) (h1 : EvO tl σ H lo) (h2 : EvO th σ H hi) (hs : H a = some (.tup xs)) : EvP (tSl (rSlA K) te tl th) σ H (fun v H' => ∃ p, v = .ref p ∧ H' p = some (.tup (cutV xs lo hi))) := fun H1 e Q q =>
  h H1 e _ fun H2 e2 => h1 H2 (e.trans e2) _ fun H3 e3 => h2 H3 ((e.trans e2).trans e3) _ fun H4 e4 =>
    ⟨a, xs, rfl, st_of ((((e.trans e2).trans e3).trans e4) a _ hs), fun hw => q _ H4 ((e2.trans e3).trans e4) ⟨a, rfl, by
      have e5 : cutV xs lo hi = xs := by
        unfold cutV
        rw [hw.1, hw.2]
        exact List.take_length
      rw [e5]
      exact (((e.trans e2).trans e3).trans e4) a _ hs⟩, fun _ p hp => q _ _ (((e2.trans e3).trans e4).trans (Ex.new hp)) ⟨p, rfl, upd_same⟩⟩
theorem cutV_to {xs : List V} {n : Nat} : cutV xs none (some (n : Int)) = xs.take n := by
  unfold cutV
  rw [HT.sIx_none, HT.sIx_nat, List.drop_zero, Nat.sub_zero]
  by_cases h : n ≤ xs.length
  · rw [Nat.min_eq_left h]
  · rw [Nat.min_eq_right (by omega), List.take_length, List.take_of_length_le (by omega)]
theorem inV_str {z : Str} : ∀ {ys : List Str}, inV (.str z) (ys.map V.str) = decide (z ∈ ys) := by
  intro ys
  induction ys with
  | nil => rfl
  | cons y ys ih =>
    show (y == z || inV (.str z) (ys.map V.str)) = _
    rw [ih]
    by_cases h : y = z
    · have e5 : decide (z ∈ y :: ys) = true := decide_eq_true (by rw [h]; exact List.mem_cons_self)
      rw [beq_iff_eq.mpr h, e5]
      rfl
    · rw [beq_eq_false_iff_ne.mpr h, Bool.false_or]
      refine decide_eq_decide.mpr ⟨fun q => List.mem_cons_of_mem _ q, fun q => ?_⟩
      rcases List.mem_cons.mp q with e | e
      · exact (h e.symm).elim
      · exact e
theorem flat_S (ys : List Str) : (ys.map V.str).all flatV = true := by
  rw [List.all_map]
  exact List.all_eq_true.mpr fun _ _ => rfl
/-- x in t[:n], texts -/
theorem ev_inSl {ys : List Str} {z : Str} {n : Nat} {a : Addr} {ti : TE} (hx : Ev tx σ H (.str z)) (h : Ev te σ H (.ref a)) (hi : Ev ti σ H (.int (n : Int))) (hs : TupS H a ys) : Ev (tOp (rIn K false) tx (tSl (rSlA K) te tNoPart (tPart ti))) σ H (.bl (decide (z ∈ ys.take n))) := fun H1 e Q q =>
  hx H1 e _ fun H2 e2 => ep_slA (h.mono (e.trans e2)) eo_none (eo_some (hi.mono (e.trans e2))) ((e.trans e2) a _ hs.at) H2 (Ex.refl H2) _ fun v H3 e3 ⟨p, hv, hp⟩ => by
    subst hv
    rw [cutV_to, ← List.map_take] at hp
    refine ⟨p, _, rfl, .inr (st_of hp), rfl, flat_S _, ?_⟩
    show Q (.bl (inV (.str z) ((ys.take n).map V.str))) H3
    rw [inV_str]
    exact q H3 (e2.trans e3)
/-- x not in l[:n], texts -/
theorem ev_niSl {ys : List Str} {z : Str} {n : Nat} {a : Addr} {ti : TE} (hx : Ev tx σ H (.str z)) (h : Ev te σ H (.ref a)) (hi : Ev ti σ H (.int (n : Int))) (hs : H a = some (.lst (ys.map V.str))) : EvT (tTest (tOp (rIn K true) tx (tSl (rSlL K) te tNoPart (tPart ti)))) σ H (!decide (z ∈ ys.take n)) := by
  refine et_test (ev_is (ev_opL hx (el_sl h eo_none (eo_some hi) (sq_of hs)) fun p H1 hp e1 => ?_) (congrArg V.bl rfl))
  rw [cutV_to, ← List.map_take] at hp
  have h5 := rv_niL (K := K) (x := .str z) (sq_of hp) rfl (flat_S _)
  rw [inV_str] at h5
  exact h5
/-- a name for each item of a pair, of four -/
theorem y_unp2 {j k i : Nat} {f : Nat → V} {x a b : V} {p : Addr} {H1 H2 : Hp} {R : L2.St → Hp → Prop} (y : YFn f i H1 x H2) (hf : f i = .ref p) (hp : H1 p = some (.tup [a, b])) (q : R ((σ.set j (some a)).set k (some b)) H1) : gTup K 2 (gCons (gName j) (gCons (gName k) gNil)) x σ H2 R := by
  obtain ⟨rfl, rfl⟩ := y
  exact ⟨p, _, hf, st_of hp, rfl, _, _, rfl, _, _, rfl, rfl, q⟩
theorem y_unp4 {j k l m i : Nat} {f : Nat → V} {x a b c d : V} {p : Addr} {H1 H2 : Hp} {R : L2.St → Hp → Prop} (y : YFn f i H1 x H2) (hf : f i = .ref p) (hp : H1 p = some (.tup [a, b, c, d])) (q : R ((((σ.set j (some a)).set k (some b)).set l (some c)).set m (some d)) H1) :
    gTup K 4 (gCons (gName j) (gCons (gName k) (gCons (gName l) (gCons (gName m) gNil)))) x σ H2 R := by
  obtain ⟨rfl, rfl⟩ := y
  exact ⟨p, _, hf, st_of hp, rfl, _, _, rfl, _, _, rfl, _, _, rfl, _, _, rfl, rfl, q⟩
/-- l.extend([..]) -/
theorem s_ext {l : Addr} {xs zs : List V} (hl : H l = some (.lst xs)) (ha : Ev ta σ H (.ref l)) (h : EvL te σ H zs) (hz : xs.length + zs.length ≤ 100000) (k : ∀ H1, Ex H H1 → D.nx σ (upd H1 l (.lst (xs ++ zs)))) : tDrop (tBM K "list" rExtend ta (tCons te tNil)) D σ H := ha H (Ex.refl H) _ fun H1 e1 =>
  ⟨Or.inl ⟨rfl, xs, sq_of (e1 l _ hl)⟩, h H1 e1 _ fun p H2 hp e2 h2 => ⟨l, p, xs, zs, rfl, rfl, e2 l _ (e1 l _ hl), h2, sz_of hz, k H2 (e1.trans e2)⟩⟩
theorem q_ext {l : Addr} {xs zs : List V} (hl : H l = some (.lst xs)) (ha : Ev ta σ H (.ref l)) (h : EvL te σ H zs) (hz : xs.length + zs.length ≤ 100000) (k : ∀ H1, Ex H H1 → tz D σ (upd H1 l (.lst (xs ++ zs)))) : tSeq (tDrop (tBM K "list" rExtend ta (tCons te tNil))) tz D σ H := s_ext (D := { D with nx := tz D }) hl ha h hz k
end
theorem Each.get {α : Type} {P : α → Addr → Hp → Prop} {H : Hp} {ps : List Addr} {l : List α} (h : Each P H ps l) {i : Nat} (hi : i < l.length) : ∃ q, ps[i]? = some q ∧ P l[i] q H := h.at_ i _ (List.getElem?_eq_getElem hi)
theorem Each.append {α : Type} {P : α → Addr → Hp → Prop} {H : Hp} {ps qs : List Addr} {l m : List α} (h : Each P H ps l) (h2 : Each P H qs m) : Each P H (ps ++ qs) (l ++ m) := by
  refine ⟨by rw [List.length_append, List.length_append, h.len, h2.len], fun i x hx => ?_⟩
  by_cases hi : i < l.length
  · rw [List.getElem?_append_left hi] at hx
    rw [List.getElem?_append_left (by rw [h.len]; exact hi)]
    exact h.at_ i x hx
  · rw [List.getElem?_append_right (by omega)] at hx
    rw [List.getElem?_append_right (by rw [h.len]; omega), h.len]
    exact h2.at_ _ x hx
theorem Each.take {α : Type} {P : α → Addr → Hp → Prop} {H : Hp} {ps : List Addr} {l : List α} (h : Each P H ps l) (n : Nat) : Each P H (ps.take n) (l.take n) := by
  refine ⟨by rw [List.length_take, List.length_take, h.len], fun i x hx => ?_⟩
  rw [List.getElem?_take] at hx ⊢
  split at hx
  · rename_i hi
    rw [if_pos hi]
    exact h.at_ i x hx
  · cases hx
theorem atV_ref {ps : List Addr} {i : Nat} {q : Addr} (h : ps[i]? = some q) : atV (ps.map V.ref) i = .ref q := atV_of (ref_at h)
theorem atV_str {r : List Str} {i : Nat} (h : i < r.length) : atV (r.map V.str) i = .str r[i] := atV_of (by rw [List.getElem?_map, List.getElem?_eq_getElem h]; rfl)
/-- the places, each once -/
def dedup (l : List Str) : List Str := ((List.range l.length).filter fun i => !decide (l.getD i "" ∈ l.take i)).map fun i => l.getD i ""
def foundIn (says : List (Str × List Int)) (brs : List Brh) : List Str := says.map (·.1) ++ brs.flatMap fun b => [b.src, b.tgt]
def placesL (says : List (Str × List Int)) (brs : List Brh) : List Str := dedup (foundIn says brs)
end Ew
namespace Fd
open PySem PySem.Spec PyProof.Rows L2 Evl Ew Tx FR
section
variable {P : Program} {w : World} {K : PySem.W.Frag} {mg : Str → Option Value} {base : Heap}
def sp_is_saying : Sp := fun vs H Q _ => ∃ (p : Addr) (s : Str × List Int) (m : Nat), vs = [.ref p, .int (m : Int)] ∧ SayP s p H ∧ SayOk m s ∧ m ≤ 10 ∧ RetV (.bl true) H Q
theorem ok_is_saying (T : Txt K mg) : FnOk P w K mg base CX0 4 T.is_saying.a T.is_saying.d p_is_saying sp_is_saying := by
  have G1 := ok_is_name (P := P) (w := w) (base := base) T
  have G2 := ok_is_form (P := P) (w := w) (base := base) T
  refine T.is_saying.F.ok sc_is_saying (fun vs H Q E h => ?_) (fun cdv A outer s H vs Q E hr h => ?_)
  · obtain ⟨p, r, m, rfl, _⟩ := h
    rfl
  · obtain ⟨p, s, m, rfl, ⟨f, hp, hf⟩, ⟨hn, hfo⟩, hm, k⟩ := h
    have nd := sc_is_saying.nd
    refine ⟨_, pss_cons (ps_if (PW.pt (pw_or (pt_not (pt_val (pe_callB (r := rIsi K) call_isi (by rfl) T.z.isinstance (by decide +kernel) (pa_cons (pv 0) (pa_cons (pe_bltn (v := .ty "tuple") (by rfl) T.z.tuple (by decide +kernel) rfl) pa_nil)))))
        (pw_or1 (pt_cmpR op_ne (pe_callB (r := rLenS K) call_len_seq (by rfl) T.z.len PySem.boot_len (pa_cons (pv 0) pa_nil)) pe_int (nomark _)))))
        (pss_one (ps_ret pe_bl)) pss_nil)
      (pss_one (ps_ret (pe_and (pe_call G1 (hr.mono (by decide)) (by rfl) T.is_name.g T.is_name.F.kp T.is_name.b .nil pass0 (pa_cons (pe_ix (r := rIxT K) ix_tup (pv 0) pe_int (fun _ _ => rfl)) pa_nil))
        (pe_one (pe_call G2 hr (by rfl) T.is_form.g T.is_form.F.kp T.is_form.b .nil pass0 (pa_cons (pe_ix (r := rIxT K) ix_tup (pv 0) pe_int (fun _ _ => rfl)) (pa_cons (pv 1) pa_nil))))))), ?_⟩
    refine q_skip (b := false) (et_is (et_or (et_not (et_B (ev_isi (m := "tuple") (b := true) (ev_var rfl) (fun H1 e1 => ty_tup (e1 p _ hp)) (by decide +kernel)))) fun _ => ev_neI (ev_lenT (ev_var rfl) hp) ev_c) rfl) rfl fun H1 e1 => ?_
    refine s_ret (v := .bl true) (ev_is (ev_andV (a := true) (b := true) (ev_call (vs := [.str s.1]) (ea_cons (ev_ixT (i := 0) (ev_var rfl) ev_c (e1 p _ hp) rfl) ea_nil) fun H2 e2 Q2 q2 E2 => ⟨s.1, rfl, hn, q2⟩) fun _ =>
      ev_call (vs := [.ref f, .int (m : Int)]) (ea_cons (ev_ixT (i := 1) (ev_var rfl) ev_c (e1 p _ hp) rfl) (ea_cons (ev_var rfl) ea_nil)) fun H2 e2 Q2 q2 E2 => ⟨f, s.2, m, rfl, e2 f _ (e1 f _ hf), hfo, hm, q2⟩) rfl) fun H2 e2 => k H2 (e1.trans e2)
def sp_is_branch : Sp := fun vs H Q _ => ∃ (p : Addr) (b : Brh) (m : Nat), vs = [.ref p, .int (m : Int)] ∧ BrP b p H ∧ BrOk m b ∧ m ≤ 10 ∧ RetV (.bl true) H Q
theorem ok_is_branch (T : Txt K mg) : FnOk P w K mg base CX0 4 T.is_branch.a T.is_branch.d p_is_branch sp_is_branch := by
  have G1 := ok_is_name (P := P) (w := w) (base := base) T
  have G2 := ok_is_form (P := P) (w := w) (base := base) T
  refine T.is_branch.F.ok sc_is_branch (fun vs H Q E h => ?_) (fun cdv A outer s H vs Q E hr h => ?_)
  · obtain ⟨p, r, m, rfl, _⟩ := h
    rfl
  · obtain ⟨p, b, m, rfl, ⟨tp, cp, hp, ⟨ps, ht, hte⟩, qs, hc, hce⟩, hb, hm, k⟩ := h
    have nd := sc_is_branch.nd
    obtain ⟨t3, hMT⟩ := T.i.MOST_TESTS
    refine ⟨_, pss_cons (ps_if (PW.pt (pw_or (pt_not (pt_val (pe_callB (r := rIsi K) call_isi (by rfl) T.z.isinstance (by decide +kernel) (pa_cons (pv 0) (pa_cons (pe_bltn (v := .ty "tuple") (by rfl) T.z.tuple (by decide +kernel) rfl) pa_nil)))))
        (pw_or (pt_cmpR op_ne (pe_callB (r := rLenS K) call_len_seq (by rfl) T.z.len PySem.boot_len (pa_cons (pv 0) pa_nil)) pe_int (nomark _))
        (pw_or (pt_not (pt_val (pe_call G1 (hr.mono (by decide)) (by rfl) T.is_name.g T.is_name.F.kp T.is_name.b .nil pass0 (pa_cons (pe_ix (r := rIxT K) ix_tup (pv 0) pe_int (fun _ _ => rfl)) pa_nil))))
        (pw_or1 (pt_not (pt_val (pe_call G1 (hr.mono (by decide)) (by rfl) T.is_name.g T.is_name.F.kp T.is_name.b .nil pass0 (pa_cons (pe_ix (r := rIxT K) ix_tup (pv 0) pe_int (fun _ _ => rfl)) pa_nil)))))))))
        (pss_one (ps_ret pe_bl)) pss_nil)
      (pss_cons (ps_if (PW.pt (pw_or (pt_not (pt_val (pe_callB (r := rIsi K) call_isi (by rfl) T.z.isinstance (by decide +kernel) (pa_cons (pe_ix (r := rIxT K) ix_tup (pv 0) pe_int (fun _ _ => rfl)) (pa_cons (pe_bltn (v := .ty "tuple") (by rfl) T.z.tuple (by decide +kernel) rfl) pa_nil)))))
        (pw_or1 (pt_not (pt_val (pe_callB (r := rIsi K) call_isi (by rfl) T.z.isinstance (by decide +kernel) (pa_cons (pe_ix (r := rIxT K) ix_tup (pv 0) pe_int (fun _ _ => rfl)) (pa_cons (pe_bltn (v := .ty "tuple") (by rfl) T.z.tuple (by decide +kernel) rfl) pa_nil))))))))
        (pss_one (ps_ret pe_bl)) pss_nil)
      (pss_cons (ps_if (PW.pt (pw_or (pt_cmpR op_gt (pe_callB (r := rLenS K) call_len_seq (by rfl) T.z.len PySem.boot_len (pa_cons (pe_ix (r := rIxT K) ix_tup (pv 0) pe_int (fun _ _ => rfl)) pa_nil)) (C8.pe_gc (v := .int 3) (by rfl) ⟨_, hMT, ⟨_, rfl⟩⟩) (nomark _))
        (pw_or1 (pt_cmpR op_ne (pe_callB (r := rLenS K) call_len_seq (by rfl) T.z.len PySem.boot_len (pa_cons (pe_ix (r := rIxT K) ix_tup (pv 0) pe_int (fun _ _ => rfl)) pa_nil)) (pv 1) (nomark _)))))
        (pss_one (ps_ret pe_bl)) pss_nil)
      (pss_one (ps_ret (pe_callB (r := rAll K) (cr_all rfl) (by rfl) T.z.all (by decide +kernel) (pa_cons (pe_lc (own := [("form", 2)]) (by rfl) nd (pi_tup (pe_tup (StX.pa_star (pe_ix (r := rIxT K) ix_tup (pv 0) pe_int (fun _ _ => rfl)) (StX.pa_star (pe_ix (r := rIxT K) ix_tup (pv 0) pe_int (fun _ _ => rfl)) pa_nil)))) (blkOk_by (own := [("form", 2)]) (N := n_is_branch) (sc := defScope s_is_branch) (by decide +kernel))
          (fun _ _ _ _ _ => pg_name (i := 2) nd rfl (Or.inl rfl)) (fun _ _ _ _ _ => pts_nil)
          (fun _ _ _ _ _ => pe_call G2 hr (by rfl) T.is_form.g T.is_form.F.kp T.is_form.b .nil pass0 (pa_cons (pv 2) (pa_cons (pv 1) pa_nil)))) pa_nil)))))), ?_⟩
    refine q_skip (b := false) (et_is (et_or (et_not (et_B (ev_isi (m := "tuple") (b := true) (ev_var rfl) (fun H1 e1 => ty_tup (e1 p _ hp)) (by decide +kernel)))) fun _ => et_or (ev_neI (ev_lenT (ev_var rfl) hp) ev_c) fun _ =>
      et_or (et_not (et_B (b := true) (ev_call (vs := [.str b.src]) (ea_cons (ev_ixT (i := 0) (ev_var rfl) ev_c hp rfl) ea_nil) fun H2 e2 Q2 q2 E2 => ⟨_, rfl, hb.src, q2⟩))) fun _ =>
        et_not (et_B (b := true) (ev_call (vs := [.str b.tgt]) (ea_cons (ev_ixT (i := 1) (ev_var rfl) ev_c hp rfl) ea_nil) fun H2 e2 Q2 q2 E2 => ⟨_, rfl, hb.tgt, q2⟩))) rfl) rfl fun H1 e1 => ?_
    have hp1 := e1 p _ hp
    have ht1 := e1 tp _ ht
    have hc1 := e1 cp _ hc
    refine q_skip (b := false) (et_is (et_or (et_not (et_B (ev_isi (m := "tuple") (b := true) (ev_ixT (i := 2) (ev_var rfl) ev_c hp1 rfl) (fun H2 e2 => ty_tup (e2 tp _ ht1)) (by decide +kernel)))) fun _ =>
      et_not (et_B (ev_isi (m := "tuple") (b := true) (ev_ixT (i := 3) (ev_var rfl) ev_c hp1 rfl) (fun H2 e2 => ty_tup (e2 cp _ hc1)) (by decide +kernel)))) rfl) rfl fun H2 e2 => ?_
    have hp2 := e2 p _ hp1
    have ht2 := e2 tp _ ht1
    have hc2 := e2 cp _ hc1
    refine q_skip (b := false) (et_is (et_or (ev_gt (ev_lenT (ev_ixT (i := 2) (ev_var rfl) ev_c hp2 rfl) ht2) ev_c) fun _ => ev_neI (ev_lenT (ev_ixT (i := 3) (ev_var rfl) ev_c hp2 rfl) hc2) (ev_var rfl)) ?_) rfl fun H3 e3 => ?_
    · have h5 := hb.few
      have h6 := hb.all
      have h7 := hte.len
      have h8 := hce.len
      rw [List.length_map, List.length_map, decide_eq_false (by omega), decide_eq_true (by omega)]
      rfl
    have e03 := (e1.trans e2).trans e3
    have hE := (hte.append hce).ex lasts_form e03
    have hl : (ps.map V.ref ++ (qs.map V.ref ++ [])).length = (b.tests ++ b.changes).length := by
      rw [List.append_nil, ← List.map_append, List.length_map, hE.len]
    have hn : (b.tests ++ b.changes).length ≤ 13 := by
      rw [List.length_append, hb.all]
      have := hb.few
      omega
    have hI := ei_tupN (K := K) (tl := tTup (StX.tStar K (tOp (rIxT K) (tVar 0) (tC (.int 2))) (StX.tStar K (tOp (rIxT K) (tVar 0) (tC (.int 3))) tNil))) (σ := start n_is_branch [.ref p, .int (m : Int)])
      (eu_tup (ea_star (K := K) (ev_ixT (i := 2) (ev_var rfl) ev_c (e3 p _ hp2) rfl) (e3 tp _ ht2) (ea_star (K := K) (ev_ixT (i := 3) (ev_var rfl) ev_c (e3 p _ hp2) rfl) (e3 cp _ hc2) ea_nil)) (by rw [hl]; omega))
    rw [hl] at hI
    refine s_ret (v := .bl true) (ev_allT (n := (b.tests ++ b.changes).length) (el_map (fun _ => .bl true) hI (by omega) tg_name (fun _ => rfl) fun i H4 e4 hi => ?_)) fun H4 e4 => k H4 (e03.trans e4)
    obtain ⟨q, hq, hf⟩ := (hE.ex lasts_form e4).get hi
    have ha : atV (ps.map V.ref ++ (qs.map V.ref ++ [])) i = .ref q := by
      rw [List.append_nil, ← List.map_append]
      exact atV_ref hq
    refine ev_call (vs := [.ref q, .int (m : Int)]) (ea_cons (ev_var ?_) (ea_cons (ev_var rfl) ea_nil)) fun H5 e5 Q2 q2 E2 => ⟨q, (b.tests ++ b.changes)[i], m, rfl, lasts_form _ _ _ _ e5 hf, ?_, hm, q2⟩
    · rw [ha]
      rfl
    · rcases List.mem_append.mp (List.getElem_mem hi) with z | z
      · exact hb.tests _ z
      · exact hb.changes _ z
end
end Fd
end

section
set_option Elab.async false
set_option linter.all false
set_option maxRecDepth 100000
set_option maxHeartbeats 4000000
/-! WB: the whole program checked. -/
namespace Fd
open PySem PySem.Spec PyProof.Rows L2 Evl Ew Tx FR
section
variable {P : Program} {w : World} {K : PySem.W.Frag} {mg : Str → Option Value} {base : Heap}
def sp_wrong_name : Sp := fun vs H Q _ => ∃ (p : Addr) (ns : List Str), vs = [.ref p] ∧ TupS H p ns ∧ (∀ x ∈ ns, LetterS x) ∧ 0 < ns.length ∧ ns.length ≤ 3 ∧ ns.Nodup ∧ RetV .non H Q
theorem nodup_take {l : List Str} (h : l.Nodup) {i : Nat} (hi : i < l.length) : l[i] ∉ l.take i := fun z => by
  obtain ⟨j, hj, e⟩ := List.mem_iff_getElem.mp z
  rw [List.length_take] at hj
  rw [List.getElem_take] at e
  exact (List.pairwise_iff_getElem.mp h) j i (by omega) hi (by omega) e
theorem found_len (says : List (Str × List Int)) (brs : List Brh) : (foundIn says brs).length = says.length + 2 * brs.length := by
  unfold foundIn
  rw [List.length_append, List.length_map]
  congr 1
  induction brs with
  | nil => rfl
  | cons b l ih =>
    rw [List.flatMap_cons, List.length_append, ih]
    show 2 + 2 * l.length = 2 * (l.length + 1)
    omega
theorem ok_wrong_name (T : Txt K mg) : FnOk P w K mg base CX0 2 T.wrong_name.a T.wrong_name.d p_wrong_name sp_wrong_name := by
  have G1 := ok_is_name (P := P) (w := w) (base := base) T
  refine T.wrong_name.F.ok sc_wrong_name (fun vs H Q E h => ?_) (fun cdv A outer s H vs Q E hr h => ?_)
  · obtain ⟨p, r, rfl, _⟩ := h
    rfl
  · obtain ⟨p, ns, rfl, hp, hL, h0, h3, hN, k⟩ := h
    have nd := sc_wrong_name.nd
    obtain ⟨t3, hMV⟩ := T.i.MOST_VARIABLES
    refine ⟨_, pss_cons (ps_if (PW.pt (pw_or (pt_not (pt_val (pe_callB (r := rIsi K) call_isi (by rfl) T.z.isinstance (by decide +kernel) (pa_cons (pv 0) (pa_cons (pe_bltn (v := .ty "tuple") (by rfl) T.z.tuple (by decide +kernel) rfl) pa_nil)))))
        (pw_or1 (pt_cmpR op_eq (pe_callB (r := rLenS K) call_len_seq (by rfl) T.z.len PySem.boot_len (pa_cons (pv 0) pa_nil)) pe_int (nomark _)))))
        (pss_one (ps_ret (pe_un un_neg pe_int))) pss_nil)
      (pss_cons (ps_for PassesOwn.never rfl (Gap.pi_enumT (by rfl) T.z.enumerate (pa_cons (pv 0) pa_nil)) (pg_tup rfl (pgs_cons (pg_name (i := 1) nd rfl (Or.inl rfl)) (pgs_cons (pg_name (i := 2) nd rfl (Or.inl rfl)) pgs_nil)))
        (pss_one (ps_if (PW.pt (pw_or (pt_cmpR op_eq (pv 1) (C8.pe_gc (v := .int 3) (by rfl) ⟨_, hMV, ⟨_, rfl⟩⟩) (nomark _))
          (pw_or (pt_not (pt_val (pe_call G1 hr (by rfl) T.is_name.g T.is_name.F.kp T.is_name.b .nil pass0 (pa_cons (pv 2) pa_nil))))
          (pw_or1 (pt_cmpR (r := rIn K false) op_in_seq (pv 2) (pe_slice sl_tupA (pv 0) po_none (po_some (pv 1))) (by rfl))))))
          (pss_one (ps_ret (pv 1))) pss_nil)))
      (pss_one (ps_ret pe_non))), ?_⟩
    refine q_skip (b := false) (et_is (et_or (et_not (et_B (ev_isi (m := "tuple") (b := true) (ev_var rfl) (fun H1 e1 => ty_tup (e1 p _ hp)) (by decide +kernel)))) fun _ => ev_eqI (ev_lenT (ev_var rfl) hp) ev_c) (by
      rw [List.length_map, decide_eq_false (by omega)]
      rfl)) rfl fun H1 e1 => ?_
    have hp1 := e1 p _ hp
    have hI := ew_enumT (K := K) (ta := tCons (tVar 0) tNil) (σ := start n_wrong_name [.ref p]) (ea_cons (ev_var rfl) ea_nil) hp1
    rw [List.length_map] at hI
    refine q_for hI (fun i σ' H' => ∃ a1 a2, σ' = [some (.ref p), a1, a2] ∧ Ex H1 H') (fun H2 e2 _ => ⟨_, _, rfl, e2⟩) (fun _ _ _ ⟨_, _, _, e⟩ => e p _ hp1) (fun i x σ' H2 H3 hi hP y => ?_) (fun σ' H2 hP => ?_)
    · obtain ⟨a1, a2, rfl, e2⟩ := hP
      refine y_pair y fun H4 e4 _ => ?_
      rw [atV_str hi]
      refine s_skip (b := false) (et_is (et_or (ev_eqI (ev_var rfl) ev_c) fun _ => et_or (et_not (et_B (b := true) (ev_call (vs := [.str ns[i]]) (ea_cons (ev_var rfl) ea_nil) fun H5 e5 Q2 q2 E2 => ⟨_, rfl, hL _ (List.getElem_mem hi), q2⟩))) fun _ =>
        et_test (ev_inSl (ev_var rfl) (ev_var rfl) (ev_var rfl) ((e2.trans e4) p _ hp1))) ?_) rfl fun H5 e5 => ⟨_, _, rfl, (e2.trans e4).trans e5⟩
      rw [decide_eq_false (show ¬ ((i : Int) = 3) by omega), decide_eq_false (nodup_take hN hi)]
      rfl
    · obtain ⟨a1, a2, rfl, e2⟩ := hP
      exact s_ret ev_c fun H3 e3 => k H3 ((e1.trans e2).trans e3)
def sp_wrong_saying : Sp := fun vs H Q _ => ∃ (p : Addr) (says : List (Str × List Int)) (m : Nat), vs = [.ref p, .int (m : Int)] ∧ TupOf SayP says p H ∧ (∀ x ∈ says, SayOk m x) ∧ says.length ≤ 3 ∧ m ≤ 10 ∧ RetV .non H Q
theorem ok_wrong_saying (T : Txt K mg) : FnOk P w K mg base CX0 5 T.wrong_saying.a T.wrong_saying.d p_wrong_saying sp_wrong_saying := by
  have G1 := ok_is_saying (P := P) (w := w) (base := base) T
  refine T.wrong_saying.F.ok sc_wrong_saying (fun vs H Q E h => ?_) (fun cdv A outer s H vs Q E hr h => ?_)
  · obtain ⟨p, r, m, rfl, _⟩ := h
    rfl
  · obtain ⟨p, says, m, rfl, ⟨ps, hp, hE⟩, hL, h3, hm, k⟩ := h
    have nd := sc_wrong_saying.nd
    obtain ⟨t3, hMV⟩ := T.i.MOST_SAYINGS
    refine ⟨_, pss_cons (ps_if (pt_not (pt_val (pe_callB (r := rIsi K) call_isi (by rfl) T.z.isinstance (by decide +kernel) (pa_cons (pv 0) (pa_cons (pe_bltn (v := .ty "tuple") (by rfl) T.z.tuple (by decide +kernel) rfl) pa_nil)))))
        (pss_one (ps_ret (pe_un un_neg pe_int))) pss_nil)
      (pss_cons (ps_for PassesOwn.never rfl (Gap.pi_enumT (by rfl) T.z.enumerate (pa_cons (pv 0) pa_nil)) (pg_tup rfl (pgs_cons (pg_name (i := 2) nd rfl (Or.inl rfl)) (pgs_cons (pg_name (i := 3) nd rfl (Or.inl rfl)) pgs_nil)))
        (pss_one (ps_if (PW.pt (pw_or (pt_cmpR op_eq (pv 2) (C8.pe_gc (v := .int 3) (by rfl) ⟨_, hMV, ⟨_, rfl⟩⟩) (nomark _))
          (pw_or1 (pt_not (pt_val (pe_call G1 hr (by rfl) T.is_saying.g T.is_saying.F.kp T.is_saying.b .nil pass0 (pa_cons (pv 3) (pa_cons (pv 1) pa_nil))))))))
          (pss_one (ps_ret (pv 2))) pss_nil)))
      (pss_one (ps_ret pe_non))), ?_⟩
    refine q_skip (b := false) (et_is (et_not (et_B (ev_isi (m := "tuple") (b := true) (ev_var rfl) (fun H1 e1 => ty_tup (e1 p _ hp)) (by decide +kernel)))) rfl) rfl fun H1 e1 => ?_
    have hp1 := e1 p _ hp
    have hI := ew_enumT (K := K) (ta := tCons (tVar 0) tNil) (σ := start n_wrong_saying [.ref p, .int (m : Int)]) (ea_cons (ev_var rfl) ea_nil) hp1
    rw [List.length_map, hE.len] at hI
    refine q_for hI (fun i σ' H' => ∃ a1 a2, σ' = [some (.ref p), some (.int (m : Int)), a1, a2] ∧ Ex H1 H') (fun H2 e2 _ => ⟨_, _, rfl, e2⟩) (fun _ _ _ ⟨_, _, _, e⟩ => e p _ hp1) (fun i x σ' H2 H3 hi hP y => ?_) (fun σ' H2 hP => ?_)
    · obtain ⟨a1, a2, rfl, e2⟩ := hP
      refine y_pair y fun H4 e4 _ => ?_
      obtain ⟨q, hq, hs⟩ := (hE.ex lasts_say ((e1.trans e2).trans e4)).get hi
      rw [atV_ref hq]
      refine s_skip (b := false) (et_is (et_or (ev_eqI (ev_var rfl) ev_c) fun _ => et_not (et_B (b := true) (ev_call (vs := [.ref q, .int (m : Int)]) (ea_cons (ev_var rfl) (ea_cons (ev_var rfl) ea_nil)) fun H5 e5 Q2 q2 E2 => ⟨q, says[i], m, rfl, lasts_say _ _ _ _ e5 hs, hL _ (List.getElem_mem hi), hm, q2⟩))) ?_) rfl
        fun H5 e5 => ⟨_, _, rfl, (e2.trans e4).trans e5⟩
      rw [decide_eq_false (show ¬ ((i : Int) = 3) by omega)]
      rfl
    · obtain ⟨a1, a2, rfl, e2⟩ := hP
      exact s_ret ev_c fun H3 e3 => k H3 ((e1.trans e2).trans e3)
def sp_places_in : Sp := fun vs H Q _ => ∃ (p q : Addr) (says : List (Str × List Int)) (brs : List Brh), vs = [.ref p, .ref q] ∧ TupOf SayP says p H ∧ TupOf BrP brs q H ∧ says.length ≤ 10 ∧ brs.length ≤ 10 ∧ RetN (.tup ((placesL says brs).map V.str)) H Q
theorem ok_places_in (T : Txt K mg) : FnOk P w K mg base CX0 1 T.places_in.a T.places_in.d p_places_in sp_places_in := by
  refine T.places_in.F.ok sc_places_in (fun vs H Q E h => ?_) (fun cdv A outer s H vs Q E hr h => ?_)
  · obtain ⟨p, q, r, m, rfl, _⟩ := h
    rfl
  · obtain ⟨p, q, says, brs, rfl, ⟨ps, hp, hE⟩, ⟨qs, hq, hF⟩, hs, hb, k⟩ := h
    have nd := sc_places_in.nd
    refine ⟨_, pss_cons (ps_set (i := 2) nd rfl (Or.inr rfl) (pe_lst pa_nil))
      (pss_cons (ps_for PassesOwn.never rfl (pi_tup (pv 0)) (pg_tup rfl (pgs_cons (pg_name (i := 3) nd rfl (Or.inl rfl)) (pgs_cons (pg_name (i := 4) nd rfl (Or.inl rfl)) pgs_nil)))
        (pss_one (ps_expr (pe_bm PySem.F.plainAttrs_list PySem.F.slot_list_append PySem.F.type_list_append mt_append (pv 2) (pa_cons (pv 3) pa_nil)))))
      (pss_cons (ps_for PassesOwn.never rfl (pi_tup (pv 1)) (pg_tup rfl (pgs_cons (pg_name (i := 5) nd rfl (Or.inl rfl)) (pgs_cons (pg_name (i := 6) nd rfl (Or.inl rfl)) (pgs_cons (pg_name (i := 7) nd rfl (Or.inl rfl)) (pgs_cons (pg_name (i := 8) nd rfl (Or.inl rfl)) pgs_nil)))))
        (pss_one (ps_expr (pe_bm PySem.F.plainAttrs_list PySem.F.slot_list_extend PySem.F.type_list_extend mt_extend (pv 2) (pa_cons (pe_lst (pa_cons (pv 5) (pa_cons (pv 6) pa_nil))) pa_nil)))))
      (pss_one (ps_ret (pe_callTy (r := rTupS K) call_tuple_of (by rfl) T.z.tuple (by decide +kernel) (pa_cons (pe_lc (own := [("at", 9), ("place", 3)]) (wi := iEnum K (tCons (tVar 2) tNil)) (g := gTup K 2 (gCons (gName 9) (gCons (gName 3) gNil))) (by rfl) nd (pi_enum (by rfl) T.z.enumerate (pa_cons (pv 2) pa_nil)) (blkOk_by (own := [("at", 9), ("place", 3)]) (N := n_places_in) (sc := defScope s_places_in) (by decide +kernel))
          (fun _ _ _ _ _ => pg_tup rfl (pgs_cons (pg_name (i := 9) nd rfl (Or.inl rfl) (Or.inr rfl)) (pgs_cons (pg_name (i := 3) nd rfl (Or.inl rfl) (Or.inr rfl)) pgs_nil))) (fun _ _ _ _ _ => pts_one (pt_cmpR (r := rIn K true) op_notIn_seq (pv 3) (pe_slice (r := rSlL K) sl_list (pv 2) po_none (po_some (pv 9))) (by rfl))) (fun _ _ _ _ _ => pv 3)) pa_nil)))))), ?_⟩
    refine q_asgL (el_lst ea_nil (by decide)) fun f H1 hf e1 h1 => ?_
    have hp1 := e1 p _ hp
    have hI := ew_tup (K := K) (tl := tVar 0) (σ := (start n_places_in [.ref p, .ref q]).set 2 (some (.ref f))) (ev_var rfl) hp1
    rw [List.length_map, hE.len] at hI
    refine q_for hI (fun i σ' H' => ∃ a3 a4, σ' = [some (.ref p), some (.ref q), some (.ref f), a3, a4, none, none, none, none, none] ∧ Ex H H' ∧ H' f = some (.lst (((says.take i).map (·.1)).map V.str))) (fun H2 e2 _ => ⟨_, _, rfl, e1.trans e2, e2 f _ h1⟩) (fun _ _ _ ⟨_, _, _, e, _⟩ => e p _ hp) (fun i x σ' H2 H3 hi hP y => ?_) (fun σ' H2 hP => ?_)
    · obtain ⟨a3, a4, rfl, e2, h2⟩ := hP
      obtain ⟨a, ha, fo, ho, _⟩ := (hE.ex lasts_say e2).get hi
      refine y_unp2 y (atV_ref ha) ho ?_
      refine s_app h2 (ev_var rfl) (ev_var rfl) (by rw [List.length_map, List.length_map, List.length_take]; omega) fun H4 e4 => ⟨_, _, rfl, Ex.mut (e2.trans e4) hf, ?_⟩
      rw [upd_same, List.take_succ, List.getElem?_eq_getElem hi, List.map_append, List.map_append]
      rfl
    · obtain ⟨a3, a4, rfl, e2, h2⟩ := hP
      rw [List.take_length] at h2
      have hq2 := e2 q _ hq
      have hI := ew_tup (K := K) (tl := tVar 1) (σ := [some (.ref p), some (.ref q), some (.ref f), a3, a4, none, none, none, none, none]) (ev_var rfl) hq2
      rw [List.length_map, hF.len] at hI
      refine q_for hI (fun i σ' H' => ∃ a3 a4 a5 a6 a7 a8, σ' = [some (.ref p), some (.ref q), some (.ref f), a3, a4, a5, a6, a7, a8, none] ∧ Ex H H' ∧ H' f = some (.lst ((foundIn says (brs.take i)).map V.str))) (fun H3 e3 _ => ⟨_, _, _, _, _, _, rfl, e2.trans e3, ?_⟩) (fun _ _ _ ⟨_, _, _, _, _, _, _, e, _⟩ => e q _ hq) (fun i x σ' H3 H4 hi hP y => ?_) (fun σ' H3 hP => ?_)
      · have h3 := e3 f _ h2
        unfold foundIn
        rw [List.take_zero, List.flatMap_nil, List.append_nil]
        exact h3
      · obtain ⟨a3, a4, a5, a6, a7, a8, rfl, e3, h3⟩ := hP
        obtain ⟨a, ha, tp, cp, ho, _⟩ := (hF.ex lasts_br e3).get hi
        refine y_unp4 y (atV_ref ha) ho ?_
        have hfl : (foundIn says (brs.take i)).length ≤ 30 := by
          rw [found_len, List.length_take]
          omega
        refine s_ext h3 (ev_var rfl) (el_lst (ea_cons (ev_var rfl) (ea_cons (ev_var rfl) ea_nil)) (show 2 ≤ 100000 by decide)) (by rw [List.length_map]; show _ + 2 ≤ 100000; omega) fun H5 e5 => ⟨_, _, _, _, _, _, rfl, Ex.mut (e3.trans e5) hf, ?_⟩
        have h6 : foundIn says (brs.take (i + 1)) = foundIn says (brs.take i) ++ [brs[i].src, brs[i].tgt] := by
          unfold foundIn
          rw [List.take_succ, List.getElem?_eq_getElem hi, List.flatMap_append, List.append_assoc]
          rfl
        rw [upd_same, h6, List.map_append]
        rfl
      · obtain ⟨a3, a4, a5, a6, a7, a8, rfl, e3, h3⟩ := hP
        rw [List.take_length] at h3
        have hI := ei_enum (K := K) (ta := tCons (tVar 2) tNil) (σ := [some (.ref p), some (.ref q), some (.ref f), a3, a4, a5, a6, a7, a8, none]) (ea_cons (ev_var rfl) ea_nil) h3
        rw [List.length_map] at hI
        have hfl : (foundIn says brs).length ≤ 40000 := by
          rw [found_len]
          omega
        have ed : (placesL says brs).map V.str = given (foundIn says brs).length (fun i => !decide ((foundIn says brs).getD i "" ∈ (foundIn says brs).take i)) (fun i => .str ((foundIn says brs).getD i "")) := by
          unfold placesL dedup given
          rw [List.map_map]
          rfl
        refine s_retU (xs := (placesL says brs).map V.str) (eu_tupN ?_) fun a H4 ha e4 h4 => k a H4 (fresh_back e3 ha) (e3.trans e4) h4
        rw [ed]
        have hg : ∀ i, i < (foundIn says brs).length → atV ((foundIn says brs).map V.str) i = .str ((foundIn says brs).getD i "") := fun i hi => by
          rw [atV_str hi, List.getD_eq_getElem?_getD, List.getElem?_eq_getElem hi]
          rfl
        refine el_lcV _ _ hI hfl tg_pair (fun _ => rfl) (fun i H4 e4 hi => ?_) (fun i H4 e4 hi _ => ?_)
        · exact ev_niSl (ev_var (by rw [hg i hi]; rfl)) (ev_var rfl) (ev_var rfl) (e4 f _ h3)
        · exact ev_var (by rw [hg i hi]; rfl)
end
end Fd
end

section
set_option Elab.async false
set_option linter.all false
set_option maxRecDepth 100000
set_option maxHeartbeats 4000000
/-! WC: programs as objects. -/
namespace Ew
open PySem PySem.Spec PyProof.Rows L2 Evl
section
variable {K : Fg} {σ : L2.St} {H H' : Hp} {ta tb te tx tv : TE} {t u : TT} {x y z v : V} {r : R2} {D : Ends} {tu tw tz : TS}
theorem slt_ex {a C dx : Addr} {vs : List (Option V)} (e : Ex H H') (h : SlX.Slt H a C dx vs) : SlX.Slt H' a C dx vs := by
  rcases h with ⟨h1, h2⟩ | ⟨h1, h2⟩
  · exact .inl ⟨e a _ h1, h2⟩
  · exact .inr ⟨e a _ h1, e dx _ h2⟩
theorem q_sl {a C dx p : Addr} {vs : List (Option V)} {f : Str} {i : Nat} (h : Ev tv σ H y) (ho : Ev ta σ H (.ref a)) (hs : SlX.Slt H a C dx vs) (c : SlX.SCls K C) (k1 : SlX.Slot1 K C f p i) (k : ∀ H1, Ex H H1 → tz D σ (SlX.slH H1 a C dx (SlX.putS i y vs))) : tSeq (SlX.sSl K ta tv f) tz D σ H :=
  h H (Ex.refl H) _ fun H1 e1 => ho H1 e1 _ fun H2 e2 => ⟨a, C, dx, p, vs, i, rfl, slt_ex (e1.trans e2) hs, c, k1, k H2 (e1.trans e2)⟩
theorem s_sl {a C dx p : Addr} {vs : List (Option V)} {f : Str} {i : Nat} (h : Ev tv σ H y) (ho : Ev ta σ H (.ref a)) (hs : SlX.Slt H a C dx vs) (c : SlX.SCls K C) (k1 : SlX.Slot1 K C f p i) (k : ∀ H1, Ex H H1 → D.nx σ (SlX.slH H1 a C dx (SlX.putS i y vs))) : SlX.sSl K ta tv f D σ H :=
  h H (Ex.refl H) _ fun H1 e1 => ho H1 e1 _ fun H2 e2 => ⟨a, C, dx, p, vs, i, rfl, slt_ex (e1.trans e2) hs, c, k1, k H2 (e1.trans e2)⟩
theorem ev_sl {a C dx p : Addr} {vs : List (Option V)} {f : Str} {i : Nat} (h : Ev ta σ H (.ref a)) (hs : SlX.Slt H a C dx vs) (c : SlX.SCls K C) (k1 : SlX.Slot1 K C f p i) (hv : vs[i]? = some (some v)) : Ev (SlX.tSl K ta f) σ H v := fun H1 e Q q =>
  h H1 e _ fun H2 e2 => ⟨a, C, dx, p, vs, i, v, rfl, slt_ex (e.trans e2) hs, c, k1, hv, q H2 e2⟩
theorem ex_slH {a C dx : Addr} {vs : List (Option V)} (e : Ex H H') : Ex (del (del H a) dx) (SlX.slH H' a C dx vs) := fun b o h => by
  obtain ⟨n1, h1⟩ := del_some h
  obtain ⟨n2, h2⟩ := del_some h1
  rw [SlX.slH_ne n2 n1]
  exact e b o h2
/-- the length of what a call gives -/
theorem ev_lenU {xs : List V} (ha : EvP te σ H (fun v H' => ∃ p, v = .ref p ∧ H' p = some (.tup xs))) : Ev (tCB (rLenS K) (tCons te tNil)) σ H (.int (xs.length : Int)) := fun H1 e Q q =>
  ha H1 e _ fun v H2 e2 ⟨p, hv, hp⟩ => ⟨p, xs, by rw [hv], .inr (st_of hp), q H2 e2⟩
end
structure Pg where
  names : List Str
  says : List (Str × List Int)
  brs : List Brh
def Pg.places (g : Pg) : List Str := placesL g.says g.brs
structure PgOk (g : Pg) : Prop where
  ns : ∀ x ∈ g.names, LetterS x
  n0 : 0 < g.names.length
  n3 : g.names.length ≤ 3
  nd : g.names.Nodup
  ss : ∀ x ∈ g.says, SayOk g.names.length x
  s3 : g.says.length ≤ 3
  bs : ∀ b ∈ g.brs, BrOk g.names.length b
  b0 : 0 < g.brs.length
  b5 : g.brs.length ≤ 5
  few : ∀ i, i < g.brs.length → (placesL g.says (g.brs.take (i + 1))).length ≤ 3
  pd : g.places.Nodup
  pin : ∀ b ∈ g.brs, b.src ∈ g.places ∧ b.tgt ∈ g.places
def PgAt (C : Addr) (g : Pg) (a : Addr) (H : Hp) : Prop := ∃ dx np sp bp, SlX.Slt H a C dx [some (.ref bp), some (.ref np), some (.ref sp)] ∧ TupS H np g.names ∧ TupOf SayP g.says sp H ∧ TupOf BrP g.brs bp H
theorem lasts_pg {C : Addr} : Lasts (PgAt C) := fun g a H H' e ⟨dx, np, sp, bp, h1, h2, h3, h4⟩ => ⟨dx, np, sp, bp, slt_ex e h1, e np _ h2, lasts_tup lasts_say _ _ _ _ e h3, lasts_tup lasts_br _ _ _ _ e h4⟩
end Ew
namespace Fd
open PySem PySem.Spec PyProof.Rows L2 Evl Ew Tx FR
section
variable {P : Program} {w : World} {K : PySem.W.Frag} {mg : Str → Option Value} {base : Heap}
def sp_wrong_branch : Sp := fun vs H Q _ => ∃ (p q : Addr) (says : List (Str × List Int)) (brs : List Brh) (m : Nat), vs = [.ref p, .ref q, .int (m : Int)] ∧ TupOf SayP says p H ∧ TupOf BrP brs q H ∧ (∀ b ∈ brs, BrOk m b) ∧ says.length ≤ 10 ∧ 0 < brs.length ∧ brs.length ≤ 5 ∧ m ≤ 10 ∧
  (∀ i, i < brs.length → (placesL says (brs.take (i + 1))).length ≤ 3) ∧ RetV .non H Q
theorem ok_wrong_branch (T : Txt K mg) : FnOk P w K mg base CX0 5 T.wrong_branch.a T.wrong_branch.d p_wrong_branch sp_wrong_branch := by
  have G1 := ok_is_branch (P := P) (w := w) (base := base) T
  have G2 := ok_places_in (P := P) (w := w) (base := base) T
  refine T.wrong_branch.F.ok sc_wrong_branch (fun vs H Q E h => ?_) (fun cdv A outer s H vs Q E hr h => ?_)
  · obtain ⟨p, q, r, b, m, rfl, _⟩ := h
    rfl
  · obtain ⟨p, q, says, brs, m, rfl, hS, ⟨qs, hq, hF⟩, hB, hs, h0, h5, hm, hfew, k⟩ := h
    have nd := sc_wrong_branch.nd
    obtain ⟨t3, hMB⟩ := T.i.MOST_BRANCHES
    obtain ⟨t4, hMP⟩ := T.i.MOST_PLACES
    refine ⟨_, pss_cons (ps_if (PW.pt (pw_or (pt_not (pt_val (pe_callB (r := rIsi K) call_isi (by rfl) T.z.isinstance (by decide +kernel) (pa_cons (pv 1) (pa_cons (pe_bltn (v := .ty "tuple") (by rfl) T.z.tuple (by decide +kernel) rfl) pa_nil)))))
        (pw_or1 (pt_cmpR op_eq (pe_callB (r := rLenS K) call_len_seq (by rfl) T.z.len PySem.boot_len (pa_cons (pv 1) pa_nil)) pe_int (nomark _)))))
        (pss_one (ps_ret (pe_un un_neg pe_int))) pss_nil)
      (pss_cons (ps_for PassesOwn.never rfl (Gap.pi_enumT (by rfl) T.z.enumerate (pa_cons (pv 1) pa_nil)) (pg_tup rfl (pgs_cons (pg_name (i := 3) nd rfl (Or.inl rfl)) (pgs_cons (pg_name (i := 4) nd rfl (Or.inl rfl)) pgs_nil)))
        (pss_cons (ps_if (PW.pt (pw_or (pt_cmpR op_eq (pv 3) (C8.pe_gc (v := .int 5) (by rfl) ⟨_, hMB, ⟨_, rfl⟩⟩) (nomark _))
          (pw_or1 (pt_not (pt_val (pe_call G1 hr (by rfl) T.is_branch.g T.is_branch.F.kp T.is_branch.b .nil pass0 (pa_cons (pv 4) (pa_cons (pv 2) pa_nil))))))))
          (pss_one (ps_ret (pv 3))) pss_nil)
        (pss_one (ps_if (pt_cmpR op_gt (pe_callB (r := rLenS K) call_len_seq (by rfl) T.z.len PySem.boot_len (pa_cons (pe_call G2 (hr.mono (by decide)) (by rfl) T.places_in.g T.places_in.F.kp T.places_in.b .nil pass0 (pa_cons (pv 0) (pa_cons (pe_slice (r := rSlA K) sl_tupA (pv 1) po_none (po_some (pe_op op_add (pv 3) pe_int))) pa_nil))) pa_nil)) (C8.pe_gc (v := .int 3) (by rfl) ⟨_, hMP, ⟨_, rfl⟩⟩) (nomark _))
          (pss_one (ps_ret (pv 3))) pss_nil))))
      (pss_one (ps_ret pe_non))), ?_⟩
    refine q_skip (b := false) (et_is (et_or (et_not (et_B (ev_isi (m := "tuple") (b := true) (ev_var rfl) (fun H1 e1 => ty_tup (e1 q _ hq)) (by decide +kernel)))) fun _ => ev_eqI (ev_lenT (ev_var rfl) hq) ev_c) (by
      rw [List.length_map, hF.len, decide_eq_false (by omega)]
      rfl)) rfl fun H1 e1 => ?_
    have hq1 := e1 q _ hq
    have hI := ew_enumT (K := K) (ta := tCons (tVar 1) tNil) (σ := start n_wrong_branch [.ref p, .ref q, .int (m : Int)]) (ea_cons (ev_var rfl) ea_nil) hq1
    rw [List.length_map, hF.len] at hI
    refine q_for hI (fun i σ' H' => ∃ a1 a2, σ' = [some (.ref p), some (.ref q), some (.int (m : Int)), a1, a2] ∧ Ex H1 H') (fun H2 e2 _ => ⟨_, _, rfl, e2⟩) (fun _ _ _ ⟨_, _, _, e⟩ => e q _ hq1) (fun i x σ' H2 H3 hi hP y => ?_) (fun σ' H2 hP => ?_)
    · obtain ⟨a1, a2, rfl, e2⟩ := hP
      refine y_pair y fun H4 e4 _ => ?_
      have e04 := (e1.trans e2).trans e4
      obtain ⟨b, hb, hs2⟩ := (hF.ex lasts_br e04).get hi
      rw [atV_ref hb]
      refine q_skip (b := false) (et_is (et_or (ev_eqI (ev_var rfl) ev_c) fun _ => et_not (et_B (b := true) (ev_call (vs := [.ref b, .int (m : Int)]) (ea_cons (ev_var rfl) (ea_cons (ev_var rfl) ea_nil)) fun H5 e5 Q2 q2 E2 => ⟨b, brs[i], m, rfl, lasts_br _ _ _ _ e5 hs2, hB _ (List.getElem_mem hi), hm, q2⟩))) (by
        rw [decide_eq_false (show ¬ ((i : Int) = 5) by omega)]
        rfl)) rfl fun H5 e5 => ?_
      have e05 := e04.trans e5
      refine s_skip (b := false) (et_is (ev_gt (ev_lenU (xs := (placesL says (brs.take (i + 1))).map V.str) ?_) ev_c) (decide_eq_false (by
        have := hfew i hi
        rw [List.length_map]
        omega))) rfl fun H6 e6 => ⟨_, _, rfl, ((e2.trans e4).trans e5).trans e6⟩
      intro H6 e6 Q2 q2
      refine ⟨.ref p, rfl, ep_slA (K := K) (lo := none) (hi := some ((i + 1 : Nat) : Int)) (ev_var rfl) eo_none (eo_some (ev_is (ev_add (ev_var rfl) ev_c) rfl)) ((e05.trans e6) q _ hq) H6 (Ex.refl H6) _ fun v H7 e7 ⟨sl, hv, hsl⟩ => ?_⟩
      subst hv
      rw [cutV_to, ← List.map_take] at hsl
      have e07 := (e05.trans e6).trans e7
      refine ⟨p, sl, says, brs.take (i + 1), rfl, lasts_tup lasts_say _ _ _ _ e07 hS, ⟨qs.take (i + 1), hsl, (hF.take (i + 1)).ex lasts_br e07⟩, hs, by rw [List.length_take]; omega, fun r H8 hr8 e8 h8 => q2 _ H8 (e7.trans e8) ⟨r, rfl, h8⟩⟩
    · obtain ⟨a1, a2, rfl, e2⟩ := hP
      exact s_ret ev_c fun H3 e3 => k H3 ((e1.trans e2).trans e3)
def sp_Program_init (C : Addr) : Sp := fun vs H Q _ => ∃ (a dx np sp bp : Addr) (g : Pg), vs = [.ref a, .ref np, .ref sp, .ref bp] ∧ H a = some (.ins C dx []) ∧ dx ≠ a ∧ TupS (del (del H a) dx) np g.names ∧ TupOf SayP g.says sp (del (del H a) dx) ∧ TupOf BrP g.brs bp (del (del H a) dx) ∧ PgOk g ∧
  ∀ H2, Ex (del (del H a) dx) H2 → SlX.Slt H2 a C dx [some (.ref bp), some (.ref np), some (.ref sp)] → Q .non H2
theorem ok_Program_init (T : Txt K mg) : FnOk P w K mg base CX0 6 T.pro.init.a T.pro.init.d p_Program_init (sp_Program_init T.pro.C) := by
  have G1 := ok_wrong_name (P := P) (w := w) (base := base) T
  have G2 := ok_wrong_saying (P := P) (w := w) (base := base) T
  have G3 := ok_wrong_branch (P := P) (w := w) (base := base) T
  refine T.pro.init.F.ok sc_Program_init (fun vs H Q E h => ?_) (fun cdv A outer s H vs Q E hr h => ?_)
  · obtain ⟨a, dx, np, sp, bp, g, rfl, _⟩ := h
    rfl
  · obtain ⟨a, dx, np, sp, bp, g, rfl, ha, hda, hN, hS, hB, hg, k⟩ := h
    have nd := sc_Program_init.nd
    refine ⟨_, pss_cons (ps_set (i := 4) nd rfl (Or.inl rfl) (pe_call G1 (hr.mono (by decide)) (by rfl) T.wrong_name.g T.wrong_name.F.kp T.wrong_name.b .nil pass0 (pa_cons (pv 1) pa_nil)))
      (pss_cons (ps_if (pt_cmpR op_notN (pv 4) pe_non (nomark _)) pss_never pss_nil)
      (pss_cons (ps_set (i := 4) nd rfl (Or.inl rfl) (pe_call G2 hr (by rfl) T.wrong_saying.g T.wrong_saying.F.kp T.wrong_saying.b .nil pass0 (pa_cons (pv 2) (pa_cons (pe_callB (r := rLenS K) call_len_seq (by rfl) T.z.len PySem.boot_len (pa_cons (pv 1) pa_nil)) pa_nil))))
      (pss_cons (ps_if (pt_cmpR op_notN (pv 4) pe_non (nomark _)) pss_never pss_nil)
      (pss_cons (ps_set (i := 4) nd rfl (Or.inl rfl) (pe_call G3 hr (by rfl) T.wrong_branch.g T.wrong_branch.F.kp T.wrong_branch.b .nil pass0 (pa_cons (pv 2) (pa_cons (pv 3) (pa_cons (pe_callB (r := rLenS K) call_len_seq (by rfl) T.z.len PySem.boot_len (pa_cons (pv 1) pa_nil)) pa_nil)))))
      (pss_cons (ps_if (pt_cmpR op_notN (pv 4) pe_non (nomark _)) pss_never pss_nil)
      (pss_cons (SlX.ps_sl (pv 0) (pv 1)) (pss_cons (SlX.ps_sl (pv 0) (pv 2)) (pss_one (SlX.ps_sl (pv 0) (pv 3)))))))))), ?_⟩
    have e0 : Ex (del (del H a) dx) H := ex_del.trans ex_del
    have hN1 := e0 np _ hN
    refine q_call (ea_cons (ev_var rfl) ea_nil) fun H1 e1 => ⟨np, g.names, rfl, e1 np _ hN1, hg.ns, hg.n0, hg.n3, hg.nd, fun H2 e2 => ?_⟩
    refine q_skip (ev_notN (ev_var rfl)) rfl fun H3 e3 => ?_
    have e03 := (e1.trans e2).trans e3
    refine q_call (ea_cons (ev_var rfl) (ea_cons (ev_lenT (ev_var rfl) (e03 np _ hN1)) ea_nil)) fun H4 e4 => ⟨sp, g.says, g.names.length, by rw [List.length_map]; rfl, lasts_tup lasts_say _ _ _ _ ((e0.trans e03).trans e4) hS, hg.ss, hg.s3, by have := hg.n3; omega, fun H5 e5 => ?_⟩
    refine q_skip (ev_notN (ev_var rfl)) rfl fun H6 e6 => ?_
    have e06 := ((e03.trans e4).trans e5).trans e6
    refine q_call (ea_cons (ev_var rfl) (ea_cons (ev_var rfl) (ea_cons (ev_lenT (ev_var rfl) (e06 np _ hN1)) ea_nil))) fun H7 e7 => ⟨sp, bp, g.says, g.brs, g.names.length, by rw [List.length_map]; rfl, lasts_tup lasts_say _ _ _ _ ((e0.trans e06).trans e7) hS, lasts_tup lasts_br _ _ _ _ ((e0.trans e06).trans e7) hB, hg.bs,
      by have := hg.s3; omega, hg.b0, hg.b5, by have := hg.n3; omega, hg.few, fun H8 e8 => ?_⟩
    refine q_skip (ev_notN (ev_var rfl)) rfl fun H9 e9 => ?_
    have e09 := ((e06.trans e7).trans e8).trans e9
    refine q_sl (ev_var rfl) (ev_var rfl) (.inl ⟨e09 a _ ha, rfl⟩) T.pro.c T.pro.ln fun H10 e10 => ?_
    refine q_sl (ev_var rfl) (ev_var rfl) (SlX.slH_slt hda) T.pro.c T.pro.ls fun H11 e11 => ?_
    refine s_sl (ev_var rfl) (ev_var rfl) (SlX.slH_slt hda) T.pro.c T.pro.lb fun H12 e12 => ?_
    refine k _ ?_ (SlX.slH_slt hda)
    have c1 : Ex (del (del H a) dx) (SlX.slH H10 a T.pro.C dx (SlX.putS 1 (.ref np) [])) := ex_slH (e09.trans e10)
    have c2 : Ex (del (del H a) dx) (SlX.slH H11 a T.pro.C dx (SlX.putS 2 (.ref sp) (SlX.putS 1 (.ref np) []))) := fun b o h => by
      have h5 := (c1.trans e11) b o h
      obtain ⟨n1, h1⟩ := del_some h
      obtain ⟨n2, h2⟩ := del_some h1
      rw [SlX.slH_ne n2 n1]
      exact h5
    intro b o h
    have h5 := (c2.trans e12) b o h
    obtain ⟨n1, h1⟩ := del_some h
    obtain ⟨n2, h2⟩ := del_some h1
    rw [SlX.slH_ne n2 n1]
    exact h5
/-- Program(names, sayings, branches) -/
theorem ev_Program (T : Txt K mg) {σ : L2.St} {H : Hp} {t : TA} {np sp bp : Addr} {g : Pg} (h : EvA t σ H [.ref np, .ref sp, .ref bp]) (hN : TupS H np g.names) (hS : TupOf SayP g.says sp H) (hB : TupOf BrP g.brs bp H) (hg : PgOk g) {E : XK} :
    EvP (tMake T.pro.C (sp_Program_init T.pro.C) [] E t) σ H (fun v H' => ∃ a, v = .ref a ∧ PgAt T.pro.C g a H') := fun H1 e1 Q q =>
  h H1 e1 _ fun H2 e2 => fun x dx hx hd ne => by
    have e3 : Ex H2 (del (del (upd (upd H2 dx (.own x)) x (.ins T.pro.C dx [])) x) dx) := fun b o hb => by
      have n1 : b ≠ x := ne_of_none hb hx
      have n2 : b ≠ dx := ne_of_none hb hd
      rw [del_ne n2, del_ne n1, upd_ne n1, upd_ne n2]
      exact hb
    have e03 := (e1.trans e2).trans e3
    refine ⟨x, dx, np, sp, bp, g, rfl, upd_same, ne, e03 np _ hN, lasts_tup lasts_say _ _ _ _ e03 hS, lasts_tup lasts_br _ _ _ _ e03 hB, hg, fun H4 e4 h4 => ⟨rfl, ?_⟩⟩
    have e04 := e03.trans e4
    exact q _ H4 ((e2.trans e3).trans e4) ⟨x, rfl, dx, np, sp, bp, h4, e04 np _ hN, lasts_tup lasts_say _ _ _ _ e04 hS, lasts_tup lasts_br _ _ _ _ e04 hB⟩
end
end Fd
end

section
set_option Elab.async false
set_option linter.all false
set_option maxRecDepth 100000
set_option maxHeartbeats 4000000
/-! WD: what a program tells of itself; tests_of, behind, value_at, the checks. -/
namespace Ew
open PySem PySem.Spec PyProof.Rows L2 Evl
section
variable {K : Fg} {σ : L2.St} {H H' : Hp} {ta tb te tx tv : TE} {t u : TT} {x y z v : V} {r : R2} {D : Ends} {tu tw tz : TS}
theorem ev_prop {C a dx : Addr} {vs : List (Option V)} {sp : Sp} {E : XK} (h : Ev ta σ H (.ref a)) (hs : SlX.Slt H a C dx vs) (hsp : SpV sp [.ref a] H z) : Ev (SlX.tPropSl C sp E ta) σ H z := fun H1 e Q q =>
  h H1 e _ fun H2 e2 => ⟨a, dx, vs, rfl, slt_ex (e.trans e2) hs, hsp H2 (e.trans e2) Q (fun H3 e3 => q H3 (e2.trans e3)) E⟩
theorem eu_prop {C a dx : Addr} {vs : List (Option V)} {sp : Sp} {E : XK} {xs : List V} (h : Ev ta σ H (.ref a)) (hs : SlX.Slt H a C dx vs) (hsp : ∀ H1, Ex H H1 → ∀ Q : VK, (∀ p H2, H1 p = none → Ex H1 H2 → H2 p = some (.tup xs) → Q (.ref p) H2) → sp [.ref a] H1 Q E) : EvU (SlX.tPropSl C sp E ta) σ H xs := fun H1 e Q q =>
  h H1 e _ fun H2 e2 => ⟨a, dx, vs, rfl, slt_ex (e.trans e2) hs, hsp H2 (e.trans e2) Q fun p H3 hp e3 h3 => q p H3 (fresh_back e2 hp) (e2.trans e3) h3⟩
theorem s_retC {sp : Sp} {dvs vs : List V} {E : XK} {ta : TA} (h : EvA ta σ H vs) (k : ∀ H1, Ex H H1 → sp (vs ++ dvs) H1 D.rt E) : tRet (tCall sp dvs E ta) D σ H := h H (Ex.refl H) _ k
theorem ev_lenUN {xs : List V} (ha : EvU te σ H xs) : Ev (tCB (rLenS K) (tCons te tNil)) σ H (.int (xs.length : Int)) := fun H1 e Q q =>
  ha H1 e _ fun p H2 _ e2 hp => ⟨p, xs, rfl, .inr (st_of hp), q H2 e2⟩
theorem et_eqS {a b : Str} (h : Ev ta σ H (.str a)) (h2 : Ev tb σ H (.str b)) : EvT (tTest (tOp rEq ta tb)) σ H (decide (a = b)) := et_test (ev_is (ev_op h h2 (rv_eq rfl)) (by
  refine congrArg V.bl (decide_eq_decide.mpr ⟨fun e => ?_, fun e => by rw [e]⟩)
  injection e))
theorem ev_isSl {a C dx : Addr} {vs : List (Option V)} (h : Ev ta σ H (.ref a)) (hs : SlX.Slt H a C dx vs) (c : SlX.SCls K C) (i : SlX.SIsi K C) (o : PySem.W.kitOne K (.ref C) (.ref C) = some true) : Ev (tCB (SlX.rIsiSl K (.ref C)) (tCons ta (tCons (tC (.ref C)) tNil))) σ H (.bl true) := fun H1 e Q q =>
  h H1 e _ fun H2 e2 => ⟨a, C, dx, vs, .ref C, true, rfl, rfl, (fun w r => r), slt_ex (e.trans e2) hs, c, i, o, q H2 e2⟩
/-- x not in a made tuple of texts -/
theorem ev_niUS {ys : List Str} {z : Str} (hx : Ev tx σ H (.str z)) (h : EvU te σ H (ys.map V.str)) : EvT (tTest (tOp (rIn K true) tx te)) σ H (!decide (z ∈ ys)) := et_test (ev_is (ev_niU hx h rfl (flat_S _)) (by rw [inV_str]))
end
theorem each_map {α : Type} {P : α → Addr → Hp → Prop} {H : Hp} {ks : List Nat} {f : Nat → α} {fo : Nat → Addr} (h : ∀ k ∈ ks, P (f k) (fo k) H) : Each P H (ks.map fo) (ks.map f) := by
  refine ⟨by rw [List.length_map, List.length_map], fun i x hx => ?_⟩
  rw [List.getElem?_map] at hx ⊢
  cases hk : ks[i]? with
  | none =>
    rw [hk] at hx
    cases hx
  | some k =>
    rw [hk] at hx
    obtain rfl := Option.some.inj hx
    exact ⟨fo k, rfl, h k (List.mem_of_getElem? hk)⟩
theorem filter_at {α : Type} (d : α) (p : α → Bool) (l : List α) : l.filter p = ((List.range l.length).filter fun k => p (l.getD k d)).map fun k => l.getD k d := by
  have h : l = (List.range l.length).map fun k => l.getD k d := by
    have h5 := Fd.map_at d l id
    rw [List.map_id] at h5
    exact h5
  conv => lhs; rw [h, List.filter_map]
  rfl
theorem Slt_of {C : Addr} {g : Pg} {a : Addr} {H : Hp} (h : PgAt C g a H) : ∃ dx vs, SlX.Slt H a C dx vs := by
  obtain ⟨dx, np, sp, bp, h, _⟩ := h
  exact ⟨dx, _, h⟩
def testsL (g : Pg) (b : Brh) : List (List Int) := b.tests ++ (g.says.filter fun s => decide (s.1 = b.src)).map (·.2)
end Ew
namespace Fd
open PySem PySem.Spec PyProof.Rows L2 Evl Ew Tx FR
section
variable {P : Program} {w : World} {K : PySem.W.Frag} {mg : Str → Option Value} {base : Heap}
theorem raw0 {CX : CXT} {k : Nat} {f : Addr} {fd : FuncData} {ps : List Str} {sp : Sp} (F : FnOk P w K mg base CX k f fd ps sp) (hb : Binds K fd ps []) : FnR P w K mg base CX k f sp := (F.raw hb .nil).imp fun vs H Q E h => by
  rw [List.append_nil]
  exact h
def sp_get (C : Addr) (i : Nat) : Sp := fun vs H Q _ => ∃ a dx ws v, vs = [.ref a] ∧ SlX.Slt H a C dx ws ∧ ws[i]? = some (some v) ∧ RetV v H Q
theorem ok_names (T : Txt K mg) : FnOk P w K mg base CX0 1 T.pro.names.a T.pro.names.d p_Program_names (sp_get T.pro.C 1) := by
  refine T.pro.names.F.ok sc_Program_names (fun vs H Q E h => ?_) (fun cdv A outer s H vs Q E hr h => ?_)
  · obtain ⟨a, dx, ws, v, rfl, _⟩ := h
    rfl
  · obtain ⟨a, dx, ws, v, rfl, hs, hv, k⟩ := h
    refine ⟨_, pss_one (ps_ret (SlX.pe_sl (pv 0))), ?_⟩
    exact s_ret (ev_sl (ev_var rfl) hs T.pro.c T.pro.ln hv) k
theorem ok_branches (T : Txt K mg) : FnOk P w K mg base CX0 1 T.pro.branches.a T.pro.branches.d p_Program_branches (sp_get T.pro.C 0) := by
  refine T.pro.branches.F.ok sc_Program_branches (fun vs H Q E h => ?_) (fun cdv A outer s H vs Q E hr h => ?_)
  · obtain ⟨a, dx, ws, v, rfl, _⟩ := h
    rfl
  · obtain ⟨a, dx, ws, v, rfl, hs, hv, k⟩ := h
    refine ⟨_, pss_one (ps_ret (SlX.pe_sl (pv 0))), ?_⟩
    exact s_ret (ev_sl (ev_var rfl) hs T.pro.c T.pro.lb hv) k
def sp_places (C : Addr) : Sp := fun vs H Q _ => ∃ a g, vs = [.ref a] ∧ PgAt C g a H ∧ PgOk g ∧ RetN (.tup (g.places.map V.str)) H Q
theorem ok_places (T : Txt K mg) : FnOk P w K mg base CX0 2 T.pro.places.a T.pro.places.d p_Program_places (sp_places T.pro.C) := by
  have G1 := ok_places_in (P := P) (w := w) (base := base) T
  refine T.pro.places.F.ok sc_Program_places (fun vs H Q E h => ?_) (fun cdv A outer s H vs Q E hr h => ?_)
  · obtain ⟨a, g, rfl, _⟩ := h
    rfl
  · obtain ⟨a, g, rfl, ⟨dx, np, sp, bp, hs, hN, hS, hB⟩, hg, k⟩ := h
    refine ⟨_, pss_one (ps_ret (pe_call G1 hr (by rfl) T.places_in.g T.places_in.F.kp T.places_in.b .nil pass0 (pa_cons (SlX.pe_sl (pv 0)) (pa_cons (SlX.pe_sl (pv 0)) pa_nil)))), ?_⟩
    exact s_retC (ea_cons (ev_sl (ev_var rfl) hs T.pro.c T.pro.ls rfl) (ea_cons (ev_sl (ev_var rfl) hs T.pro.c T.pro.lb rfl) ea_nil)) fun H1 e1 => ⟨sp, bp, g.says, g.brs, rfl, lasts_tup lasts_say _ _ _ _ e1 hS, lasts_tup lasts_br _ _ _ _ e1 hB, by have := hg.s3; omega, by have := hg.b5; omega,
      fun p H2 hp e2 h2 => k p H2 (fresh_back e1 hp) (e1.trans e2) h2⟩
def sp_len (C : Addr) : Sp := fun vs H Q _ => ∃ a g, vs = [.ref a] ∧ PgAt C g a H ∧ RetV (.int (g.brs.length : Int)) H Q
theorem ok_len (T : Txt K mg) : FnOk P w K mg base CX0 1 T.pro.len.a T.pro.len.d p_Program_len (sp_len T.pro.C) := by
  refine T.pro.len.F.ok sc_Program_len (fun vs H Q E h => ?_) (fun cdv A outer s H vs Q E hr h => ?_)
  · obtain ⟨a, g, rfl, _⟩ := h
    rfl
  · obtain ⟨a, g, rfl, ⟨dx, np, sp, bp, hs, hN, hS, qs, hq, hF⟩, k⟩ := h
    refine ⟨_, pss_one (ps_ret (pe_callB (r := rLenS K) call_len_seq (by rfl) T.z.len PySem.boot_len (pa_cons (SlX.pe_sl (pv 0)) pa_nil))), ?_⟩
    refine s_ret (ev_is (ev_lenT (ev_sl (ev_var rfl) hs T.pro.c T.pro.lb rfl) hq) ?_) k
    rw [List.length_map, hF.len]
def sp_tests_of (C : Addr) : Sp := fun vs H Q _ => ∃ (a : Addr) (g : Pg) (i : Nat) (b : Brh), vs = [.ref a, .int (i : Int)] ∧ PgAt C g a H ∧ g.brs[i]? = some b ∧ g.says.length ≤ 10 ∧ b.tests.length ≤ 10 ∧
  ∀ p H2, H p = none → Ex H H2 → TupOf FormP (testsL g b) p H2 → Q (.ref p) H2
theorem ok_tests_of (T : Txt K mg) : FnOk P w K mg base CX0 1 T.tests_of.a T.tests_of.d p_tests_of (sp_tests_of T.pro.C) := by
  refine T.tests_of.F.ok sc_tests_of (fun vs H Q E h => ?_) (fun cdv A outer s H vs Q E hr h => ?_)
  · obtain ⟨a, g, i, b, rfl, _⟩ := h
    rfl
  · obtain ⟨a, g, i, b, rfl, ⟨dx, np, sp, bp, hs, hN, ⟨ps, hp, hS⟩, qs, hq, hF⟩, hb, hsl, htl, k⟩ := h
    have nd := sc_tests_of.nd
    refine ⟨_, pss_cons (ps_set (i := 2) nd rfl (Or.inr rfl) (pe_ix (r := rIxT K) ix_tup (SlX.pe_sl (pv 0)) (pv 1) (fun _ _ => rfl)))
      (pss_one (ps_ret (pe_tup (StX.pa_star (pe_ix (r := rIxT K) ix_tup (pv 2) pe_int (fun _ _ => rfl)) (StX.pa_star (pe_lc (own := [("place", 4), ("form", 3)]) (wi := iTup K (SlX.tSl K (tVar 0) "own_sayings")) (g := gTup K 2 (gCons (gName 4) (gCons (gName 3) gNil))) (by rfl) nd (pi_tup (SlX.pe_sl (pv 0))) (blkOk_by (own := [("place", 4), ("form", 3)]) (N := n_tests_of) (sc := defScope s_tests_of) (by decide +kernel))
          (fun _ _ _ _ _ => pg_tup rfl (pgs_cons (pg_name (i := 4) nd rfl (Or.inl rfl) (Or.inr rfl)) (pgs_cons (pg_name (i := 3) nd rfl (Or.inl rfl) (Or.inr rfl)) pgs_nil))) (fun _ _ _ _ _ => pts_one (pt_cmpR op_eq (pv 4) (pe_ix (r := rIxT K) ix_tup (pv 2) pe_int (fun _ _ => rfl)) (nomark _))) (fun _ _ _ _ _ => pv 3)) pa_nil))))), ?_⟩
    obtain ⟨bq, hbq, tp, cp, hbp, hT, hC⟩ := hF.at_ i b hb
    refine q_asg (ev_ixT (ev_sl (ev_var rfl) hs T.pro.c T.pro.lb rfl) (ev_var rfl) hq (ref_at hbq)) fun H1 e1 => ?_
    obtain ⟨ts, ht, hTe⟩ := lasts_tup lasts_form _ _ _ _ e1 hT
    have hS1 := hS.ex lasts_say e1
    -- the addresses of the sayings' forms
    have hfo : ∃ fo : Nat → Addr, ∀ j, j < g.says.length → ∃ q, ps[j]? = some q ∧ H1 q = some (.tup [.str (g.says.getD j ("", [])).1, .ref (fo j)]) ∧ TupI H1 (fo j) (g.says.getD j ("", [])).2 := by
      have h5 : ∀ j, ∃ f, j < g.says.length → ∃ q, ps[j]? = some q ∧ H1 q = some (.tup [.str (g.says.getD j ("", [])).1, .ref f]) ∧ TupI H1 f (g.says.getD j ("", [])).2 := fun j => by
        by_cases hj : j < g.says.length
        · obtain ⟨q, h6, f, h7, h8⟩ := hS1.get hj
          have h9 : g.says.getD j ("", []) = g.says[j] := by
            rw [List.getD_eq_getElem?_getD, List.getElem?_eq_getElem hj]
            rfl
          exact ⟨f, fun _ => ⟨q, h6, by rw [h9]; exact h7, by rw [h9]; exact h8⟩⟩
        · exact ⟨0, fun z => (hj z).elim⟩
      exact ⟨fun j => (h5 j).choose, fun j => (h5 j).choose_spec⟩
    obtain ⟨fo, hfo⟩ := hfo
    have hI := ei_tup (K := K) (tl := SlX.tSl K (tVar 0) "own_sayings") (σ := (start n_tests_of [.ref a, .int (i : Int)]).set 2 (some (.ref bq))) (ev_sl (ev_var rfl) (slt_ex e1 hs) T.pro.c T.pro.ls rfl) (e1 sp _ hp)
    rw [List.length_map, hS.len] at hI
    have hcomp := el_lcV (t := tTest (tOp rEq (tVar 4) (tOp (rIxT K) (tVar 2) (tC (.int 0))))) (te := tVar 3) (vs := [4, 3]) (g := gTup K 2 (gCons (gName 4) (gCons (gName 3) gNil))) (fun j => decide ((g.says.getD j ("", [])).1 = b.src)) (fun j => .ref (fo j)) hI (by omega)
      (tg_two (a := fun j => .str (g.says.getD j ("", [])).1) (b := fun j => .ref (fo j)) (fun j hj => by
        obtain ⟨q, h6, h7, _⟩ := hfo j hj
        exact ⟨q, atV_ref h6, h7⟩)) (fun _ => rfl) (fun j H2 e2 hj => et_eqS (ev_var rfl) (ev_ixT (i := 0) (ev_var rfl) ev_c (e2 bq _ (e1 bq _ hbp)) rfl)) (fun j H2 e2 hj _ => ev_var rfl)
    have hlen : (given g.says.length (fun j => decide ((g.says.getD j ("", [])).1 = b.src)) (fun j => .ref (fo j))).length ≤ 10 := Nat.le_trans (given_len _ _ _) hsl
    refine s_retU (eu_tup (ea_star (K := K) (ev_ixT (i := 2) (ev_var rfl) ev_c (e1 bq _ hbp) rfl) ht (ea_starN (K := K) hcomp ea_nil)) ?_) fun p H2 hp2 e2 h2 => k p H2 (fresh_back e1 hp2) (e1.trans e2) ?_
    · rw [List.length_append, List.length_append, List.length_map, hTe.len]
      show b.tests.length + (_ + 0) ≤ 100000
      omega
    · refine ⟨ts ++ ((List.range g.says.length).filter fun j => decide ((g.says.getD j ("", [])).1 = b.src)).map fo, ?_, ?_⟩
      · rw [h2, List.append_nil, List.map_append, List.map_map]
        rfl
      · unfold testsL
        rw [filter_at (("" : Str), ([] : List Int)) (fun s => decide (s.1 = b.src)) g.says, List.map_map]
        refine (hTe.append (each_map fun j hj => ?_)).ex lasts_form e2
        obtain ⟨q, _, _, h8⟩ := hfo j (List.mem_range.mp (List.mem_filter.mp hj).1)
        exact h8
end
end Fd
end

section
set_option Elab.async false
set_option linter.all false
set_option maxRecDepth 100000
set_option maxHeartbeats 4000000
/-! WE: behind, value_at, the checks. -/
namespace Tx
open PySem L2
abbrev q_behind1 : Scope := lcSc (asgVal (stOf s_behind 1))
end Tx
namespace FR
theorem sumOf_int : ∀ l : List Int, sumOf intN l = l.sum := by
  have h : ∀ (l : List Int) (z : Int), l.foldl intN.add z = z + l.sum := by
    intro l
    induction l with
    | nil =>
      intro z
      exact (Int.add_zero z).symm
    | cons x r ih =>
      intro z
      rw [List.foldl_cons, ih, List.sum_cons]
      show z + x + r.sum = _
      omega
  intro l
  have h5 := h l 0
  rw [Int.zero_add] at h5
  exact h5
def behindAt (form : List Int) (changes : List (List Int)) (c : Nat) : Int := ((List.range changes.length).map fun k => form.getD k 0 * (changes.getD k []).getD c 0).sum
theorem behind_int (form : List Int) (changes : List (List Int)) : behind intN form changes = ((List.range (changes.length + 1)).map (behindAt form changes)).take changes.length ++ [behindAt form changes changes.length + form.getD changes.length 0] := by
  unfold behind
  have h : ((List.range (changes.length + 1)).map fun at_ => sumOf intN ((List.range changes.length).map fun k => intN.mul (form.getD k (intN.lit 0)) ((changes.getD k []).getD at_ (intN.lit 0)))) = (List.range (changes.length + 1)).map (behindAt form changes) :=
    List.map_congr_left fun c _ => by
      rw [sumOf_int]
      rfl
  show List.take _ _ ++ [intN.add (List.getD _ _ _) _] = _
  rw [h]
  congr 2
  have h2 : ((List.range (changes.length + 1)).map (behindAt form changes)).getD changes.length 0 = behindAt form changes changes.length := by
    rw [List.getD_eq_getElem?_getD, List.getElem?_map, List.getElem?_range (Nat.lt_succ_self _)]
    rfl
  show List.getD _ _ 0 + _ = _
  rw [h2]
  rfl
theorem valueAt_int (form point : List Int) : valueAt intN form point = ((List.range point.length).map fun k => form.getD k 0 * point.getD k 0).sum + form.getD point.length 0 := by
  unfold valueAt
  rw [sumOf_int]
  rfl
end FR
namespace Fd
open PySem PySem.Spec PyProof.Rows L2 Evl Ew Tx FR
section
variable {P : Program} {w : World} {K : PySem.W.Frag} {mg : Str → Option Value} {base : Heap}
def sp_behind : Sp := fun vs H Q _ => ∃ (fp cp : Addr) (form : List Int) (changes : List (List Int)) (m : Nat), vs = [.ref fp, .ref cp] ∧ IL H fp form ∧ TupOf FormP changes cp H ∧ changes.length = m ∧ m ≤ 10 ∧ form.length = m + 1 ∧ (∀ x ∈ form, Fit x) ∧ (∀ r ∈ changes, r.length = m + 1 ∧ ∀ x ∈ r, Fit x) ∧
  RetN (.tup ((behind intN form changes).map V.int)) H Q
theorem ok_behind (T : Txt K mg) : FnOk P w K mg base CX0 1 T.behind.a T.behind.d p_behind sp_behind := by
  refine T.behind.F.ok sc_behind (fun vs H Q E h => ?_) (fun cdv A outer s H vs Q E hr h => ?_)
  · obtain ⟨fp, cp, form, changes, m, rfl, _⟩ := h
    rfl
  · obtain ⟨fp, cp, form, changes, m, rfl, hf, ⟨ps, hc, hC⟩, rfl, hm, hfl, hff, hcf, k⟩ := h
    have nd := sc_behind.nd
    refine ⟨_, pss_cons (ps_set (i := 2) nd rfl (Or.inr rfl) (pe_callB (r := rLenS K) call_len_seq (by rfl) T.z.len PySem.boot_len (pa_cons (pv 1) pa_nil)))
      (pss_cons (ps_setLc (i := 3) (own := [("at", 5)]) rfl nd rfl rfl (sw_true rfl rfl rfl (by decide +kernel)) (pi_range1 (by rfl) T.z.range (pa_cons (pe_op op_add (pv 2) pe_int) pa_nil)) (blkOk_by (own := [("at", 5)]) (N := n_behind) (sc := defScope s_behind) (by decide +kernel))
          (fun _ _ _ _ _ => pg_name (i := 5) nd rfl (Or.inr rfl)) (fun _ _ _ _ _ => pts_nil)
          (fun _ _ _ _ _ => pe_callB (r := rSum K) (cr_sum rfl) (by rfl) T.z.sum (by decide +kernel) (pa_cons (pe_lc (own := [("k", 4)]) (wi := iRng1 (tCons (tVar 2) tNil)) (g := gName 4) (tt := tYes) (te := tOp (rI CMulW fun i j => .int (i * j)) (tOp (rIxL K) (tVar 0) (tVar 4)) (tOp (rIxT K) (tOp (rIxT K) (tVar 1) (tVar 4)) (tVar 5))) (by rfl) nd (pi_range1 (by rfl) T.z.range (pa_cons (pv 2) pa_nil)) (blkOk_by (own := [("k", 4)]) (N := n_behind) (sc := relS q_behind1 (defScope s_behind)) (by decide +kernel))
              (fun _ _ _ _ _ => pg_name (i := 4) nd rfl (Or.inl rfl)) (fun _ _ _ _ _ => pts_nil) (fun _ _ _ _ _ => pe_op op_mulW (pe_ix (r := rIxL K) ix_list (pv 0) (pv 4) (fun _ _ => rfl)) (pe_ix (r := rIxT K) ix_tup (pe_ix (r := rIxT K) ix_tup (pv 1) (pv 4) (fun _ _ => rfl)) (pv 5) (fun _ _ => rfl)))) pa_nil)))
      (pss_one (ps_ret (pe_tup (StX.pa_star (pe_slice (r := rSlL K) sl_list (pv 3) po_none (po_some (pv 2))) (pa_cons (pe_op op_add (pe_ix (r := rIxL K) ix_list (pv 3) (pv 2) (fun _ _ => rfl)) (pe_ix (r := rIxL K) ix_list (pv 0) (pv 2) (fun _ _ => rfl))) pa_nil)))))), ?_⟩
    refine q_asg (ev_lenT (ev_var rfl) hc) fun H1 e1 => ?_
    rw [List.length_map, hC.len]
    have hf1 := hf.ex e1
    have hC1 := hC.ex lasts_form e1
    have hc1 := e1 cp _ hc
    refine q_asgL (xs := ((List.range (changes.length + 1)).map (behindAt form changes)).map V.int) ?_ fun p H2 hp e2 h2 => ?_
    · rw [List.map_map]
      refine el_map (fun c => .int (behindAt form changes c)) (ei_range (changes.length + 1) (ea_cons (ev_add (ev_var rfl) ev_c) ea_nil) (by omega) (by omega)) (by omega) tg_name (fun _ => rfl) fun c H3 e3 hc3 => ?_
      refine ev_sumN ?_
      have el : ((List.range changes.length).map fun k => form.getD k 0 * (changes.getD k []).getD c 0).map V.int = (List.range changes.length).map fun k => V.int (form.getD k 0 * (changes.getD k []).getD c 0) := by
        rw [List.map_map]
        rfl
      rw [el]
      refine el_map (fun k => .int (form.getD k 0 * (changes.getD k []).getD c 0)) (ei_range changes.length (ea_cons (ev_var rfl) ea_nil) (by omega) (by omega)) (by omega) tg_name (fun _ => rfl) fun j H4 e4 hj => ?_
      have hj2 : j < changes.length := by omega
      obtain ⟨q, hq, hr3⟩ := (hC1.ex lasts_form (e3.trans e4)).get hj2
      have hg : changes.getD j [] = changes[j] := by
        rw [List.getD_eq_getElem?_getD, List.getElem?_eq_getElem hj2]
        rfl
      obtain ⟨hl5, hf5⟩ := hcf changes[j] (List.getElem_mem hj2)
      rw [hg]
      have hr4 : TupI H4 q changes[j] := hr3
      exact ev_mulW (ev_ixL (ev_var rfl) (ev_var rfl) (hf1.ex (e3.trans e4)).at (int_at (by omega))) (ev_ixT (ev_ixT (ev_var rfl) (ev_var rfl) ((e3.trans e4) cp _ hc1) (ref_at hq)) (ev_var rfl) hr4.at (int_at (by omega)))
        (mul_fit (hff _ (mem_getD (by omega))) (hf5 _ (mem_getD (by omega))))
    · have e12 := e1.trans e2
      have hx : ((List.range (changes.length + 1)).map (behindAt form changes)).getD changes.length 0 = behindAt form changes changes.length := by
        rw [List.getD_eq_getElem?_getD, List.getElem?_map, List.getElem?_range (Nat.lt_succ_self _)]
        rfl
      have hsl := el_sl (K := K) (tl := tNoPart) (th := tPart (tVar 2)) (te := tVar 3) (σ := (((start n_behind [.ref fp, .ref cp]).set 2 (some (.int (changes.length : Int)))).set 3 (some (.ref p)))) (lo := none) (hi := some ((changes.length : Nat) : Int)) (ev_var rfl) eo_none (eo_some (ev_var rfl)) (sq_of h2)
      rw [cutV_to, ← List.map_take] at hsl
      refine s_retU (eu_tup (ea_starN (K := K) hsl (ea_cons (ev_add (i := behindAt form changes changes.length) (j := form.getD changes.length 0) (ev_ixL (i := changes.length) (ev_var rfl) (ev_var rfl) h2 (by rw [← hx]; exact int_at (by rw [List.length_map, List.length_range]; omega))) (ev_ixL (i := changes.length) (ev_var rfl) (ev_var rfl) ((hf.ex e12)).at (int_at (by omega)))) ea_nil)) ?_) fun r H3 hr3 e3 h3 => k r H3 (fresh_back e12 hr3) (e12.trans e3) ?_
      · rw [List.length_append, List.length_map, List.length_take]
        show min _ _ + 1 ≤ 100000
        omega
      · rw [h3, behind_int, List.map_append]
        rfl
/-- wide enough for differences, too -/
def Fw (x : Int) : Prop := x.natAbs < 2 ^ 5000
theorem log_fw {x : Int} (h : Fw x) : x.natAbs.log2 < 5000 := by
  by_cases e : x.natAbs = 0
  · rw [e]
    decide
  · exact (Nat.log2_lt e).mpr h
theorem mul_fw {x y : Int} (hx : Fw x) (hy : Fw y) : CMulW x y := by
  have h1 := log_fw hx
  have h2 := log_fw hy
  unfold CMulW
  omega
theorem fit_pow : FITN + FITN ≤ 2 ^ 5000 := by decide +kernel
theorem fw_fit {x : Int} (h : Fit x) : Fw x := by
  have h1 : x.natAbs < FITN := h
  have h2 := fit_pow
  unfold Fw
  omega
theorem fw_sub {x y : Int} (h : Fit x) (h' : Fit y) : Fw (x - y) := by
  have h1 : x.natAbs < FITN := h
  have h3 : y.natAbs < FITN := h'
  have h2 := fit_pow
  unfold Fw
  omega
def sp_value_at : Sp := fun vs H Q _ => ∃ (fp pp : Addr) (form point : List Int), vs = [.ref fp, .ref pp] ∧ TupI H fp form ∧ TupI H pp point ∧ form.length = point.length + 1 ∧ point.length ≤ 10 ∧ (∀ x ∈ form, Fw x) ∧ (∀ x ∈ point, Fw x) ∧ RetV (.int (valueAt intN form point)) H Q
theorem ok_value_at (T : Txt K mg) : FnOk P w K mg base CX0 1 T.value_at.a T.value_at.d p_value_at sp_value_at := by
  refine T.value_at.F.ok sc_value_at (fun vs H Q E h => ?_) (fun cdv A outer s H vs Q E hr h => ?_)
  · obtain ⟨fp, pp, form, point, rfl, _⟩ := h
    rfl
  · obtain ⟨fp, pp, form, point, rfl, hf, hp, hl, hm, hff, hpf, k⟩ := h
    have nd := sc_value_at.nd
    refine ⟨_, pss_one (ps_ret (pe_op op_add (pe_callB (r := rSum K) (cr_sum rfl) (by rfl) T.z.sum (by decide +kernel) (pa_cons (pe_lc (own := [("k", 2)]) (by rfl) nd (pi_range1 (by rfl) T.z.range (pa_cons (pe_callB (r := rLenS K) call_len_seq (by rfl) T.z.len PySem.boot_len (pa_cons (pv 1) pa_nil)) pa_nil)) (blkOk_by (own := [("k", 2)]) (N := n_value_at) (sc := defScope s_value_at) (by decide +kernel))
        (fun _ _ _ _ _ => pg_name (i := 2) nd rfl (Or.inl rfl)) (fun _ _ _ _ _ => pts_nil) (fun _ _ _ _ _ => pe_op op_mulW (pe_ix (r := rIxT K) ix_tup (pv 0) (pv 2) (fun _ _ => rfl)) (pe_ix (r := rIxT K) ix_tup (pv 1) (pv 2) (fun _ _ => rfl)))) pa_nil))
      (pe_ix (r := rIxT K) ix_tup (pv 0) (pe_callB (r := rLenS K) call_len_seq (by rfl) T.z.len PySem.boot_len (pa_cons (pv 1) pa_nil)) (fun _ _ => rfl)))), ?_⟩
    rw [valueAt_int] at k
    refine s_ret (ev_add (ev_sumN (ns := (List.range point.length).map fun k => form.getD k 0 * point.getD k 0) ?_) (ev_ixT (i := point.length) (ev_var rfl) (ev_is (ev_lenT (ev_var rfl) hp) (by rw [List.length_map])) hf (int_at (by omega)))) k
    rw [List.map_map]
    refine el_map (fun k => .int (form.getD k 0 * point.getD k 0)) (ei_range point.length (ea_cons (ev_is (ev_lenT (ev_var rfl) hp) (by rw [List.length_map])) ea_nil) rfl (by omega)) (by omega) tg_name (fun _ => rfl) fun j H1 e1 hj => ?_
    exact ev_mulW (ev_ixT (ev_var rfl) (ev_var rfl) (e1 fp _ hf) (int_at (by omega))) (ev_ixT (ev_var rfl) (ev_var rfl) (e1 pp _ hp) (int_at hj)) (mul_fw (hff _ (mem_getD (by omega))) (hpf _ (mem_getD hj)))
def sp_check_program (C : Addr) : Sp := fun vs H Q _ => ∃ a g, vs = [.ref a] ∧ PgAt C g a H ∧ RetV .non H Q
theorem ok_check_program (T : Txt K mg) : FnOk P w K mg base CX0 1 T.check_program.a T.check_program.d p_check_program (sp_check_program T.pro.C) := by
  refine T.check_program.F.ok sc_check_program (fun vs H Q E h => ?_) (fun cdv A outer s H vs Q E hr h => ?_)
  · obtain ⟨a, g, rfl, _⟩ := h
    rfl
  · obtain ⟨a, g, rfl, hg, k⟩ := h
    obtain ⟨dx, vs, hs⟩ := Slt_of hg
    refine ⟨_, pss_one (ps_if (pt_not (pt_val (pe_callB (r := SlX.rIsiSl K (.ref T.pro.C)) (SlX.call_isiSl (.ref T.pro.C)) (by rfl) T.z.isinstance (by decide +kernel) (pa_cons (pv 0) (pa_cons (C8.pe_gc (v := .ref T.pro.C) (by rfl) ⟨_, T.pro.g, rfl⟩) pa_nil))))) pss_never pss_nil), ?_⟩
    exact s_skip (et_not (et_B (ev_isSl (ev_var rfl) hs T.pro.c T.pro.i T.pro.o))) rfl fun H1 e1 => k H1 e1
def sp_check_place (C : Addr) : Sp := fun vs H Q _ => ∃ a g x, vs = [.ref a, .str x] ∧ PgAt C g a H ∧ PgOk g ∧ x ∈ g.places ∧ RetV .non H Q
theorem ok_check_place (T : Txt K mg) : FnOk P w K mg base CX0 4 T.check_place.a T.check_place.d p_check_place (sp_check_place T.pro.C) := by
  have R1 := raw0 (ok_places (P := P) (w := w) (base := base) T) T.pro.places.b
  refine T.check_place.F.ok sc_check_place (fun vs H Q E h => ?_) (fun cdv A outer s H vs Q E hr h => ?_)
  · obtain ⟨a, g, x, rfl, _⟩ := h
    rfl
  · obtain ⟨a, g, x, rfl, hg, hok, hx, k⟩ := h
    obtain ⟨dx, vs, hs⟩ := Slt_of hg
    refine ⟨_, pss_one (ps_if (PW.pt (pw_or (pt_not (pt_val (pe_callB (r := rIsi K) call_isi (by rfl) T.z.isinstance (by decide +kernel) (pa_cons (pv 1) (pa_cons (pe_bltn (v := .ty "str") (by rfl) T.z.str (by decide +kernel) rfl) pa_nil)))))
      (pw_or1 (pt_cmpR (r := rIn K true) op_notIn_seq (pv 1) (SlX.pe_propSl (E := E0) (pv 0) T.pro.c T.pro.qp.at_ T.pro.qp.get T.pro.qp.tk T.pro.qp.rc R1 hr (fun _ _ _ _ h => h.elim)) (by rfl))))) pss_never pss_nil), ?_⟩
    refine s_skip (b := false) (et_is (et_or (et_not (et_B (ev_isi (m := "str") (b := true) (ev_var rfl) (fun _ _ => ty_str) (by decide +kernel)))) fun _ => ev_niUS (ev_var rfl) (eu_prop (ev_var rfl) hs fun H1 e1 Q2 q2 => ⟨a, g, rfl, lasts_pg _ _ _ _ e1 hg, hok, q2⟩)) ?_) rfl fun H1 e1 => k H1 e1
    rw [decide_eq_true hx]
    rfl
def sp_check_point (C : Addr) : Sp := fun vs H Q _ => ∃ a g pp pt, vs = [.ref a, .ref pp] ∧ PgAt C g a H ∧ TupI H pp pt ∧ pt.length = g.names.length ∧ pt.length ≤ 10 ∧ RetV .non H Q
theorem ok_check_point (T : Txt K mg) : FnOk P w K mg base CX0 3 T.check_point.a T.check_point.d p_check_point (sp_check_point T.pro.C) := by
  have G1 := ok_are_integers (P := P) (w := w) (base := base) T
  refine T.check_point.F.ok sc_check_point (fun vs H Q E h => ?_) (fun cdv A outer s H vs Q E hr h => ?_)
  · obtain ⟨a, g, pp, pt, rfl, _⟩ := h
    rfl
  · obtain ⟨a, g, pp, pt, rfl, ⟨dx, np, sp, bp, hs, hN, _⟩, hpt, hl, hm, k⟩ := h
    refine ⟨_, pss_one (ps_if (pt_not (pt_val (pe_call G1 hr (by rfl) T.are_integers.g T.are_integers.F.kp T.are_integers.b .nil pass0 (pa_cons (pv 1) (pa_cons (pe_callB (r := rLenS K) call_len_seq (by rfl) T.z.len PySem.boot_len (pa_cons (SlX.pe_sl (pv 0)) pa_nil)) pa_nil))))) pss_never pss_nil), ?_⟩
    refine s_skip (et_not (et_B (b := true) (ev_call (vs := [.ref pp, .int (g.names.length : Int)]) (ea_cons (ev_var rfl) (ea_cons (ev_is (ev_lenT (ev_sl (ev_var rfl) hs T.pro.c T.pro.ln rfl) hN) (by rw [List.length_map])) ea_nil)) fun H1 e1 Q2 q2 E2 => ⟨pp, pt, g.names.length, rfl, e1 pp _ hpt, hl, by omega, q2⟩))) rfl fun H1 e1 => k H1 e1
end
end Fd
end

section
set_option Elab.async false
set_option linter.all false
set_option maxRecDepth 100000
set_option maxHeartbeats 4000000
/-! WF: Columns. -/
namespace Ew
open PySem PySem.Spec PyProof.Rows L2 Evl
/-- the dict of n entries -/
def dcOf (n : Nat) (kf : Nat → Key) (vf : Nat → V) : List (Key × V) := (List.range n).foldl (fun kvs i => putK kvs (kf i) (vf i)) []
theorem dcOf_succ (n : Nat) (kf : Nat → Key) (vf : Nat → V) : dcOf (n + 1) kf vf = putK (dcOf n kf vf) (kf n) (vf n) := by
  unfold dcOf
  rw [List.range_succ, List.foldl_append]
  rfl
theorem dcOf_len (n : Nat) (kf : Nat → Key) (vf : Nat → V) : (dcOf n kf vf).length ≤ n := by
  induction n with
  | zero => exact Nat.le_refl _
  | succ n ih =>
    rw [dcOf_succ]
    have := length_putK (dcOf n kf vf) (kf n) (vf n)
    omega
theorem dcOf_at {kf : Nat → Key} {vf : Nat → V} {n : Nat} : ∀ {i : Nat}, i < n → (∀ j, j < n → kf j = kf i → j = i) → valV (dcOf n kf vf) (kf i) = some (vf i) := by
  induction n with
  | zero =>
    intro i hi
    exact absurd hi (Nat.not_lt_zero i)
  | succ n ih =>
    intro i hi inj
    rw [dcOf_succ, valV_put]
    by_cases h : kf i = kf n
    · have := inj n (Nat.lt_succ_self n) h.symm
      rw [if_pos h, this]
    · rw [if_neg h]
      have : i ≠ n := fun z => h (by rw [z])
      exact ih (by omega) fun j hj e => inj j (by omega) e
theorem dcOf_some {kf : Nat → Key} {vf : Nat → V} {n : Nat} {k : Key} : (valV (dcOf n kf vf) k).isSome = true ↔ ∃ i, i < n ∧ kf i = k := by
  induction n with
  | zero => exact ⟨fun h => (by cases h), fun ⟨i, hi, _⟩ => absurd hi (Nat.not_lt_zero i)⟩
  | succ n ih =>
    rw [dcOf_succ, valV_put]
    by_cases h : k = kf n
    · rw [if_pos h]
      exact ⟨fun _ => ⟨n, Nat.lt_succ_self n, h.symm⟩, fun _ => rfl⟩
    · rw [if_neg h, ih]
      exact ⟨fun ⟨i, hi, e⟩ => ⟨i, by omega, e⟩, fun ⟨i, hi, e⟩ => ⟨i, by
        rcases Nat.lt_or_ge i n with z | z
        · exact z
        · have : i = n := by omega
          exact (h (by rw [← e, this])).elim, e⟩⟩
section
variable {K : Fg} {σ : L2.St} {H H' : Hp} {ta tb te tx tv tk td ty : TE} {t u : TT} {x y z v : V} {r : R2} {D : Ends} {tu tw tz : TS}
theorem ei_enumTN {xs : List V} (h : EvU te σ H xs) : EvI (Gap.iEnumT K (tCons te tNil)) σ H xs.length (YP2 (fun i => .int (i : Int)) (atV xs)) := fun H1 e R q =>
  h H1 e _ fun a H2 _ e2 hx => ⟨a, xs, rfl, st_of hx, q _ H2 e2 (walk_enumT.mono (fun H3 e3 => st_of (e3 a _ hx)) fun i H x H' _ _ y => by
    obtain ⟨T, x1, x2, h1, h2, h3, h4, h5⟩ := y
    exact ⟨T, h1, h2, by rw [h3, ← Option.some.inj h4, atV_of h5]⟩)⟩
theorem en_dc {wi : TI} {g : TG} {vs : List Nat} {n : Nat} {Y : Nat → Hp → V → Hp → Prop} {τ : Nat → L2.St} (kf : Nat → Key) (vf : Nat → V) (hI : EvI wi σ H n Y) (hn : n ≤ 40000) (hg : TgOk Y g (wipe σ vs) n H τ) (hw : ∀ i, wipe (τ i) vs = wipe σ vs)
    (hk : ∀ i H1, Ex H H1 → i < n → Ev tk (τ i) H1 (kV (kf i))) (hv : ∀ i H1, Ex H H1 → i < n → Ev tv (τ i) H1 (vf i)) : EvN (tDc wi g tYes tk tv vs) σ H (.dK (dcOf n kf vf)) := fun H0 e Q q =>
  hI H0 e _ fun J H2 e2 w Dl hD => by
    refine ⟨fun i m H' => m = n - i ∧ i ≤ n ∧ Ex H2 H' ∧ H' Dl = some (.dK (dcOf i kf vf)), ⟨n, by rw [Nat.sub_zero], Nat.zero_le _, Ex.new hD, upd_same⟩, ?_⟩
    rintro i m H3 ⟨rfl, hi, e3, h3⟩
    by_cases hlt : i < n
    · refine .inr ⟨w.goes i H3 hlt e3, fun H' => Ex H2 H' ∧ H' Dl = some (.dK (dcOf (i + 1) kf vf)), fun H' p' => ⟨n - (i + 1), by omega, rfl, hlt, p'⟩, fun x H4 y => ?_⟩
      have e03 := (e.trans e2).trans e3
      refine hg i x H3 H4 hlt e03 (w.yields i H3 x H4 hlt e3 y) _ fun H5 e5 => ⟨hw i, ?_⟩
      show tk (τ i) H5 _
      refine hk i H5 (e03.trans e5) hlt H5 (Ex.refl H5) _ fun H6 e6 => hv i H6 ((e03.trans e5).trans e6) hlt H6 (Ex.refl H6) _ fun H7 e7 => ?_
      refine ⟨dcOf i kf vf, kf i, rfl, ((e5.trans e6).trans e7) Dl _ h3, sz_lt (by have := dcOf_len i kf vf; omega), Ex.mut (((e3.trans e5).trans e6).trans e7) hD, ?_⟩
      rw [upd_same, dcOf_succ]
    · have hin : i = n := by omega
      subst hin
      exact .inl ⟨w.stops H3 e3, q Dl H3 (fresh_back e2 hD) (e2.trans e3) h3⟩
theorem ev_fld {a C dx : Addr} {fs : List (Str × V)} {f : Str} (h : Ev ta σ H (.ref a)) (ha : H a = some (.ins C dx fs)) (c : Cls K C) (n : NoAttr K C f) (l : fs.lookup f = some v) : Ev (tFld K ta f) σ H v := fun H1 e Q q =>
  h H1 e _ fun H2 e2 => ⟨a, C, dx, fs, v, rfl, (e.trans e2) a _ ha, c, n, l, q H2 e2⟩
theorem q_fld {a C dx : Addr} {fs : List (Str × V)} {f : Str} (h : Ev tv σ H y) (ho : Ev ta σ H (.ref a)) (ha : H a = some (.ins C dx fs)) (c : Cls K C) (n : NoAttr K C f) (l : fs.length < 1000) (k : ∀ H1, Ex H H1 → tz D σ (upd H1 a (.ins C dx (putF f y fs)))) : tSeq (sFld K ta tv f) tz D σ H :=
  h H (Ex.refl H) _ fun H1 e1 => ho H1 e1 _ fun H2 e2 => ⟨a, C, dx, fs, rfl, (e1.trans e2) a _ ha, c, n, l, k H2 (e1.trans e2)⟩
theorem q_fldN {a C dx : Addr} {fs : List (Str × V)} {f : Str} {o : HO} (h : EvN tv σ H o) (ho : Ev ta σ H (.ref a)) (ha : H a = some (.ins C dx fs)) (c : Cls K C) (n : NoAttr K C f) (l : fs.length < 1000) (k : ∀ p H1, H p = none → Ex H H1 → H1 p = some o → tz D σ (upd H1 a (.ins C dx (putF f (.ref p) fs)))) : tSeq (sFld K ta tv f) tz D σ H :=
  h H (Ex.refl H) _ fun p H1 hp e1 h1 => ho H1 e1 _ fun H2 e2 => ⟨a, C, dx, fs, rfl, (e1.trans e2) a _ ha, c, n, l, k p H2 hp (e1.trans e2) (e2 p _ h1)⟩
theorem s_fldadd {a C dx : Addr} {fs : List (Str × V)} {f : Str} {i j : Int} (ho : Ev ta σ H (.ref a)) (ha : H a = some (.ins C dx fs)) (c : Cls K C) (n : NoAttr K C f) (hl : fs.lookup f = some (.int i)) (h : Ev tv σ H (.int j)) (l : fs.length < 1000) (k : ∀ H1, Ex H H1 → D.nx σ (upd H1 a (.ins C dx (putF f (.int (i + j)) fs)))) : sFldAug K ta tv rAdd f D σ H :=
  ho H (Ex.refl H) _ fun H1 e1 => ⟨a, C, dx, fs, .int i, rfl, e1 a _ ha, c, n, hl, h H1 e1 _ fun H2 e2 => ⟨i, j, rfl, rfl, dx, fs, (e1.trans e2) a _ ha, l, k H2 (e1.trans e2)⟩⟩
theorem q_dputN {d : Addr} {kvs : List (Key × V)} {k : Key} {o : HO} (hv : EvN tv σ H o) (ho : Ev td σ H (.ref d)) (hk : Ev ty σ H (kV k)) (hd : H d = some (.dK kvs)) (hz : kvs.length < 100000) (q : ∀ p H1, H p = none → Ex H H1 → H1 p = some o → tz D σ (upd H1 d (.dK (putK kvs k (.ref p))))) : tSeq (sDPut td ty tv) tz D σ H :=
  hv H (Ex.refl H) _ fun p H1 hp e1 h1 => ho H1 e1 _ fun H2 e2 => hk H2 (e1.trans e2) _ fun H3 e3 => ⟨d, _, rfl, DPut.k (((e1.trans e2).trans e3) d _ hd) (sz_lt hz), q p H3 hp ((e1.trans e2).trans e3) ((e2.trans e3) p _ h1)⟩
theorem ev_dget {d : Addr} {kvs : List (Key × V)} {k : Key} (ho : Ev td σ H (.ref d)) (hk : Ev ty σ H (kV k)) (hd : H d = some (.dK kvs)) (hv : valV kvs k = some v) : Ev (tDGet td ty) σ H v := fun H1 e Q q =>
  ho H1 e _ fun H2 e2 => hk H2 (e.trans e2) _ fun H3 e3 => ⟨d, v, rfl, by
    rw [← hv]
    exact DGet.k (((e.trans e2).trans e3) d _ hd), q H3 (e2.trans e3)⟩
theorem ev_din {d : Addr} {kvs : List (Key × V)} {k : Key} (hk : Ev ty σ H (kV k)) (ho : Ev td σ H (.ref d)) (hd : H d = some (.dK kvs)) : Ev (tDIn ty td) σ H (.bl (valV kvs k).isSome) := fun H1 e Q q =>
  hk H1 e _ fun H2 e2 => ho H2 (e.trans e2) _ fun H3 e3 => ⟨d, _, rfl, DGet.k (((e.trans e2).trans e3) d _ hd), q H3 (e2.trans e3)⟩
/-- the length of a tuple that a call gives -/
theorem ev_lenP {P : Addr → Hp → Prop} {n : Nat} (ha : EvP te σ H (fun v H' => ∃ p, v = .ref p ∧ P p H')) (hP : ∀ p H', P p H' → ∃ xs, H' p = some (.tup xs) ∧ xs.length = n) : Ev (tCB (rLenS K) (tCons te tNil)) σ H (.int (n : Int)) := fun H1 e Q q =>
  ha H1 e _ fun v H2 e2 ⟨p, hv, hp⟩ => by
    obtain ⟨xs, h1, h2⟩ := hP p H2 hp
    exact ⟨p, xs, by rw [hv], .inr (st_of h1), by rw [h2]; exact q H2 e2⟩
end
/-! ### the program by places' numbers -/
open FR
def brOf (g : Pg) (b : Brh) : FR.Br Int := ⟨g.places.idxOf b.src, g.places.idxOf b.tgt, testsL g b, b.changes⟩
def cpOf (g : Pg) : FR.CProg Int := ⟨g.names.length, g.places.length, g.brs.map (brOf g)⟩
theorem cpOf_at {g : Pg} {i : Nat} {b : Brh} (h : g.brs[i]? = some b) : (cpOf g).brs[i]? = some (brOf g b) := by
  show (g.brs.map (brOf g))[i]? = _
  rw [List.getElem?_map, h]
  rfl
theorem sizeAt_of {g : Pg} {i : Nat} {b : Brh} (h : g.brs[i]? = some b) : sizeAt (cpOf g).brs i = (testsL g b).length + 1 := by
  unfold sizeAt
  rw [cpOf_at h]
  rfl
theorem lay_snoc {brs : List (FR.Br Int)} {i : Nat} : ∀ {l : List Nat} {w : Nat}, lay brs (l ++ [i]) w = lay brs l w ++ [(i, wideOf brs l w, wideOf brs l w + sizeAt brs i, wideOf brs l w + 2 * sizeAt brs i)]
  | [], w => rfl
  | j :: l, w => by
    show _ :: lay brs (l ++ [i]) _ = _ :: (lay brs l _ ++ _)
    rw [lay_snoc]
    rfl
theorem wideOf_snoc {brs : List (FR.Br Int)} {i : Nat} : ∀ {l : List Nat} {w : Nat}, wideOf brs (l ++ [i]) w = wideOf brs l w + 2 * sizeAt brs i + 2
  | [], w => rfl
  | j :: l, w => by
    show wideOf brs (l ++ [i]) _ = wideOf brs l _ + _ + 2
    rw [wideOf_snoc]
theorem lay_fst {brs : List (FR.Br Int)} : ∀ {l : List Nat} {w : Nat}, (lay brs l w).map (·.1) = l
  | [], w => rfl
  | j :: l, w => by
    show j :: (lay brs l _).map (·.1) = j :: l
    rw [lay_fst]
def colFs (step wide : Nat) (sp pp : Addr) : List (Str × V) := [("step", .int (step : Int)), ("spots", .ref sp), ("wide", .int (wide : Int)), ("parts", .ref pp)]
def PartsOk (cols : List (Nat × Nat × Nat × Nat)) (kv : List (Key × V)) (H : Hp) : Prop := ∀ q ∈ cols, ∃ p, valV kv (.inl (q.1 : Int)) = some (.ref p) ∧ H p = some (.tup [.int (q.2.1 : Int), .int (q.2.2.1 : Int), .int (q.2.2.2 : Int)])
def SpotsOk (g : Pg) (kv : List (Key × V)) : Prop := ∀ (i : Nat) (x : Str), g.places[i]? = some x → valV kv (.inr x) = some (.int ((2 * i * (g.names.length + 1) : Nat) : Int))
def colsOf (g : Pg) (idx : List Nat) : List (Nat × Nat × Nat × Nat) := lay (cpOf g).brs idx (wide0 (cpOf g))
def wideL (g : Pg) (idx : List Nat) : Nat := wideOf (cpOf g).brs idx (wide0 (cpOf g))
def ColAt (C : Addr) (g : Pg) (idx : List Nat) (c : Addr) (H : Hp) : Prop := ∃ dx sp pp kv1 kv2, H c = some (.ins C dx (colFs (g.names.length + 1) (wideL g idx) sp pp)) ∧ H sp = some (.dK kv1) ∧ H pp = some (.dK kv2) ∧ SpotsOk g kv1 ∧ PartsOk (colsOf g idx) kv2 H
theorem parts_ex {cols : List (Nat × Nat × Nat × Nat)} {kv : List (Key × V)} {H H' : Hp} (e : Ex H H') (h : PartsOk cols kv H) : PartsOk cols kv H' := fun q hq => let ⟨p, h1, h2⟩ := h q hq; ⟨p, h1, e p _ h2⟩
theorem lasts_col {C : Addr} {g : Pg} : Lasts (ColAt C g) := fun idx c H H' e ⟨dx, sp, pp, kv1, kv2, h1, h2, h3, h4, h5⟩ => ⟨dx, sp, pp, kv1, kv2, e c _ h1, e sp _ h2, e pp _ h3, h4, parts_ex e h5⟩
end Ew
namespace Fd
open PySem PySem.Spec PyProof.Rows L2 Evl Ew Tx FR
section
variable {P : Program} {w : World} {K : PySem.W.Frag} {mg : Str → Option Value} {base : Heap}
theorem put_wide (s : Nat) (w0 : Nat) (v : Int) (w1 : Nat) (sp pp : Addr) (h : v = (w1 : Int)) : putF "wide" (.int v) (colFs s w0 sp pp) = colFs s w1 sp pp := by
  rw [h]
  rfl
theorem fit_nat {n : Nat} (h : n < 1000000) : Fit (n : Int) := fit_lit _ (by omega)
theorem nodup_take' {l : List Nat} (h : l.Nodup) {i : Nat} (hi : i < l.length) : l[i] ∉ l.take i := fun z => by
  obtain ⟨j, hj, e⟩ := List.mem_iff_getElem.mp z
  rw [List.length_take] at hj
  rw [List.getElem_take] at e
  exact (List.pairwise_iff_getElem.mp h) j i (by omega) hi (by omega) e
def sp_Columns_init (C D : Addr) : Sp := fun vs H Q _ => ∃ (c dx a ip : Addr) (g : Pg) (idx : List Nat), vs = [.ref c, .ref a, .ref ip] ∧ H c = some (.ins C dx []) ∧ PgAt D g a (del H c) ∧ PgOk g ∧ NL (del H c) ip idx ∧ idx.Nodup ∧ idx.length ≤ 5 ∧ (∀ i ∈ idx, i < g.brs.length) ∧
  ∀ H2, Ex (del H c) H2 → ColAt C g idx c H2 → Q .non H2
theorem ok_Columns_init (T : Txt K mg) : FnOk P w K mg base CX0 4 T.col.init.a T.col.init.d p_Columns_init (sp_Columns_init T.col.C T.pro.C) := by
  have R1 := raw0 (ok_names (P := P) (w := w) (base := base) T) T.pro.names.b
  have R2 := raw0 (ok_places (P := P) (w := w) (base := base) T) T.pro.places.b
  have G1 := ok_tests_of (P := P) (w := w) (base := base) T
  refine T.col.init.F.ok sc_Columns_init (fun vs H Q E h => ?_) (fun cdv A outer s H vs Q E hr h => ?_)
  · obtain ⟨c, dx, a, ip, g, idx, rfl, _⟩ := h
    rfl
  · obtain ⟨c, dx, a, ip, g, idx, rfl, hc, hg, hok, hip, hnd, hil, hix, k⟩ := h
    have nd := sc_Columns_init.nd
    have hu := hr.units
    have hu1 : (A.deeper (envOfC "Columns.__init__" (defScope s_Columns_init) s.heap.objs.size T.col.init.a cdv)).units + 1 < cLine := by omega
    refine ⟨_, pss_cons (ps_set (i := 3) nd rfl (Or.inl rfl) (pe_callB (r := rLenS K) call_len_seq (by rfl) T.z.len PySem.boot_len (pa_cons (SlX.pe_propSl (E := E0) (pv 1) T.pro.c T.pro.qn.at_ T.pro.qn.get T.pro.qn.tk T.pro.qn.rc R1 (hr.mono (by decide)) (fun _ _ _ _ h => h.elim)) pa_nil)))
      (pss_cons (ps_fld (pv 0) (pe_op op_add (pv 3) pe_int) (by rfl))
      (pss_cons (ps_fld (pv 0) (pe_dc (own := [("at", 7), ("place", 6)]) (g := gTup K 2 (gCons (gName 7) (gCons (gName 6) gNil))) (tk := tVar 6) (tv := tOp (rI CMulW fun i j => .int (i * j)) (tOp (rI CMulW fun i j => .int (i * j)) (tC (.int 2)) (tVar 7)) (tFld K (tVar 0) "step")) (by rfl) nd (Gap.pi_enumT (by rfl) T.z.enumerate (pa_cons (SlX.pe_propSl (E := E0) (pv 1) T.pro.c T.pro.qp.at_ T.pro.qp.get T.pro.qp.tk T.pro.qp.rc R2 hr (fun _ _ _ _ h => h.elim)) pa_nil)) (blkOk_by (own := [("at", 7), ("place", 6)]) (N := n_Columns_init) (sc := defScope s_Columns_init) (by decide +kernel))
          (fun _ _ _ _ _ => pg_tup rfl (pgs_cons (pg_name (i := 7) nd rfl (Or.inl rfl) (Or.inr rfl)) (pgs_cons (pg_name (i := 6) nd rfl (Or.inl rfl) (Or.inr rfl)) pgs_nil))) (fun _ _ _ _ _ => pts_nil) (fun _ _ _ _ _ => pv 6)
          (fun _ _ _ _ _ => pe_op op_mulW (pe_op op_mulW pe_int (pv 7)) (pe_fld (pv 0) (by rfl)))) (by rfl))
      (pss_cons (ps_fld (pv 0) (pe_op op_mulW (pe_op op_mulW pe_int (pe_fld (pv 0) (by rfl))) (pe_callB (r := rLenS K) call_len_seq (by rfl) T.z.len PySem.boot_len (pa_cons (SlX.pe_propSl (E := E0) (pv 1) T.pro.c T.pro.qp.at_ T.pro.qp.get T.pro.qp.tk T.pro.qp.rc R2 hr (fun _ _ _ _ h => h.elim)) pa_nil))) (by rfl))
      (pss_cons (ps_fld (pv 0) pe_dnewK (by rfl))
      (pss_one (ps_for PassesOwn.never rfl (pi_list (pv 2)) (pg_name (i := 4) nd rfl (Or.inl rfl))
        (pss_cons (ps_set (i := 5) nd rfl (Or.inl rfl) (pe_op op_add (pe_callB (r := rLenS K) call_len_seq (by rfl) T.z.len PySem.boot_len (pa_cons (pe_call G1 (hr.mono (by decide)) (by rfl) T.tests_of.g T.tests_of.F.kp T.tests_of.b .nil pass0 (pa_cons (pv 1) (pa_cons (pv 4) pa_nil))) pa_nil)) pe_int))
        (pss_cons (ps_dput hu1 (pe_fld (pv 0) (by rfl)) (pv 4) (pe_tup (pa_cons (pe_fld (pv 0) (by rfl)) (pa_cons (pe_op op_add (pe_fld (pv 0) (by rfl)) (pv 5)) (pa_cons (pe_op op_add (pe_fld (pv 0) (by rfl)) (pe_op op_mulW pe_int (pv 5))) pa_nil)))) (by rfl))
        (pss_one (ps_fldaug (pv 0) (pe_op op_add (pe_op op_mulW pe_int (pv 5)) pe_int) in_add)))))))))), ?_⟩
    have e0 : Ex (del H c) H := ex_del
    have hcB : del H c c = none := del_at
    generalize hB : del H c = B at hg hip k e0 hcB ⊢
    have hgB := hg
    obtain ⟨dp, np, sp0, bp, hs, hN, hS, hBr⟩ := hg
    have n1 := T.col.n "step" (by decide +kernel)
    have n2 := T.col.n "spots" (by decide +kernel)
    have n3 := T.col.n "wide" (by decide +kernel)
    have n4 := T.col.n "parts" (by decide +kernel)
    have hnv := hok.n3
    have hpl : g.places.length ≤ 3 := by
      have h5 := hok.few (g.brs.length - 1) (by have := hok.b0; omega)
      have h6 : g.brs.length - 1 + 1 = g.brs.length := by have := hok.b0; omega
      rw [h6, List.take_length] at h5
      exact h5
    refine q_asg (ev_is (ev_lenT (ev_prop (ev_var rfl) (slt_ex e0 hs) fun H1 e1 Q2 q2 E2 => ⟨a, dp, _, .ref np, rfl, slt_ex (e0.trans e1) hs, rfl, q2⟩) (e0 np _ hN)) (by rw [List.length_map])) fun H1 e1 => ?_
    -- step
    refine q_fld (y := .int ((g.names.length + 1 : Nat) : Int)) (ev_is (ev_add (i := (g.names.length : Int)) (j := 1) (ev_var rfl) ev_c) rfl) (ev_var rfl) (e1 c _ hc) T.col.c n1 (by decide) fun H2 e2 => ?_
    have f2 : Ex B (upd H2 c (.ins T.col.C dx [("step", .int ((g.names.length + 1 : Nat) : Int))])) := Ex.mut ((e0.trans e1).trans e2) hcB
    have c2 : upd H2 c (.ins T.col.C dx [("step", .int ((g.names.length + 1 : Nat) : Int))]) c = some (.ins T.col.C dx [("step", .int ((g.names.length + 1 : Nat) : Int))]) := upd_same
    show tSeq _ _ _ _ (upd H2 c (.ins T.col.C dx [("step", .int ((g.names.length + 1 : Nat) : Int))]))
    generalize upd H2 c (.ins T.col.C dx [("step", .int ((g.names.length + 1 : Nat) : Int))]) = H3 at f2 c2 ⊢
    -- spots
    have hpe : ∀ {σ : L2.St} {Hx : Hp} {te : TE}, Ex B Hx → Ev te σ Hx (.ref a) → EvU (SlX.tPropSl T.pro.C (sp_places T.pro.C) E0 te) σ Hx (g.places.map V.str) := fun e h => eu_prop h (slt_ex e hs) fun H4 e4 Q2 q2 => ⟨a, g, rfl, lasts_pg _ _ _ _ (e.trans e4) hgB, hok, q2⟩
    refine q_fldN (o := .dK (dcOf g.places.length (fun i => .inr (g.places.getD i "")) fun i => .int ((2 * i * (g.names.length + 1) : Nat) : Int))) ?_ (ev_var rfl) c2 T.col.c n2 (show 1 < 1000 by decide) fun sp H4 hsp e4 h4 => ?_
    · have hI := ei_enumTN (K := K) (te := SlX.tPropSl T.pro.C (sp_places T.pro.C) E0 (tVar 1)) (σ := ((start n_Columns_init [.ref c, .ref a, .ref ip]).set 3 (some (.int (g.names.length : Int))))) (hpe f2 (ev_var rfl))
      rw [List.length_map] at hI
      refine en_dc (fun i => .inr (g.places.getD i "")) (fun i => .int ((2 * i * (g.names.length + 1) : Nat) : Int)) hI (by omega) tg_pair (fun _ => rfl) (fun i H5 e5 hi => ?_) (fun i H5 e5 hi => ?_)
      · refine ev_var ?_
        rw [atV_str hi]
        show _ = some (some (V.str (g.places.getD i "")))
        rw [List.getD_eq_getElem?_getD, List.getElem?_eq_getElem hi]
        rfl
      · refine ev_is (ev_mulW (i := 2 * (i : Int)) (j := ((g.names.length + 1 : Nat) : Int)) (ev_mulW ev_c (ev_var rfl) (mul_fit (fit_lit 2 (by decide)) (fit_nat (by omega)))) (ev_fld (ev_var rfl) (e5 c _ c2) T.col.c n1 rfl) (mul_fit (fit_nat (n := 2 * i) (by omega)) (fit_nat (by omega)))) (congrArg V.int ?_)
        rw [Int.natCast_mul, Int.natCast_mul]
        rfl
    have f4 : Ex B (upd H4 c (.ins T.col.C dx [("step", .int ((g.names.length + 1 : Nat) : Int)), ("spots", .ref sp)])) := Ex.mut (f2.trans e4) hcB
    have c4 : upd H4 c (.ins T.col.C dx [("step", .int ((g.names.length + 1 : Nat) : Int)), ("spots", .ref sp)]) c = some (.ins T.col.C dx [("step", .int ((g.names.length + 1 : Nat) : Int)), ("spots", .ref sp)]) := upd_same
    have ncs : c ≠ sp := ne_of_none c2 hsp
    have s4 : upd H4 c (.ins T.col.C dx [("step", .int ((g.names.length + 1 : Nat) : Int)), ("spots", .ref sp)]) sp = some (.dK (dcOf g.places.length (fun i => .inr (g.places.getD i "")) fun i => .int ((2 * i * (g.names.length + 1) : Nat) : Int))) := by
      rw [upd_ne (Ne.symm ncs)]
      exact h4
    show tSeq _ _ _ _ (upd H4 c (.ins T.col.C dx [("step", .int ((g.names.length + 1 : Nat) : Int)), ("spots", .ref sp)]))
    generalize upd H4 c (.ins T.col.C dx [("step", .int ((g.names.length + 1 : Nat) : Int)), ("spots", .ref sp)]) = H5 at f4 c4 s4 ⊢
    have hsB : B sp = none := fresh_back f2 hsp
    generalize hkv1 : dcOf g.places.length (fun i => .inr (g.places.getD i "")) (fun i => .int ((2 * i * (g.names.length + 1) : Nat) : Int)) = kv1 at s4
    have hkv : SpotsOk g kv1 := fun i x hx => by
      obtain ⟨hi, hxe⟩ := List.getElem?_eq_some_iff.mp hx
      have hgd : ∀ j (hj : j < g.places.length), g.places.getD j "" = g.places[j] := fun j hj => by
        rw [List.getD_eq_getElem?_getD, List.getElem?_eq_getElem hj]
        rfl
      rw [← hkv1, ← hxe, ← hgd i hi]
      refine dcOf_at (kf := fun i => Sum.inr (g.places.getD i "")) hi fun j hj e => ?_
      have e5 : g.places.getD j "" = g.places.getD i "" := Sum.inr.inj e
      rw [hgd j hj, hgd i hi] at e5
      rcases Nat.lt_trichotomy i j with z | z | z
      · exact ((List.pairwise_iff_getElem.mp hok.pd) i j hi hj z e5.symm).elim
      · exact z.symm
      · exact ((List.pairwise_iff_getElem.mp hok.pd) j i hj hi z e5).elim
    -- wide
    have hw0 : (2 * ((g.names.length + 1 : Nat) : Int)) * (g.places.length : Int) = ((wide0 (cpOf g) : Nat) : Int) := by
      show _ = ((2 * (g.names.length + 1) * g.places.length : Nat) : Int)
      rw [Int.natCast_mul, Int.natCast_mul]
      rfl
    refine q_fld (y := .int ((wide0 (cpOf g) : Nat) : Int)) (ev_is (ev_mulW (i := 2 * ((g.names.length + 1 : Nat) : Int)) (j := (g.places.length : Int)) (ev_mulW ev_c (ev_fld (ev_var rfl) c4 T.col.c n1 rfl) (mul_fit (fit_lit 2 (by decide)) (fit_nat (by omega)))) (ev_is (ev_lenUN (hpe f4 (ev_var rfl))) (by rw [List.length_map]))
      (mul_fit (fit_nat (n := 2 * (g.names.length + 1)) (by omega)) (fit_nat (by omega)))) (congrArg V.int hw0)) (ev_var rfl) c4 T.col.c n3 (show 2 < 1000 by decide) fun H6 e6 => ?_
    have f6 : Ex B (upd H6 c (.ins T.col.C dx [("step", .int ((g.names.length + 1 : Nat) : Int)), ("spots", .ref sp), ("wide", .int ((wide0 (cpOf g) : Nat) : Int))])) := Ex.mut (f4.trans e6) hcB
    have c6 : upd H6 c (.ins T.col.C dx [("step", .int ((g.names.length + 1 : Nat) : Int)), ("spots", .ref sp), ("wide", .int ((wide0 (cpOf g) : Nat) : Int))]) c = some (.ins T.col.C dx [("step", .int ((g.names.length + 1 : Nat) : Int)), ("spots", .ref sp), ("wide", .int ((wide0 (cpOf g) : Nat) : Int))]) := upd_same
    have s6 : upd H6 c (.ins T.col.C dx [("step", .int ((g.names.length + 1 : Nat) : Int)), ("spots", .ref sp), ("wide", .int ((wide0 (cpOf g) : Nat) : Int))]) sp = some (.dK kv1) := by
      rw [upd_ne (Ne.symm ncs)]
      exact e6 sp _ s4
    show tSeq _ _ _ _ (upd H6 c (.ins T.col.C dx [("step", .int ((g.names.length + 1 : Nat) : Int)), ("spots", .ref sp), ("wide", .int ((wide0 (cpOf g) : Nat) : Int))]))
    generalize upd H6 c (.ins T.col.C dx [("step", .int ((g.names.length + 1 : Nat) : Int)), ("spots", .ref sp), ("wide", .int ((wide0 (cpOf g) : Nat) : Int))]) = H7 at f6 c6 s6 ⊢
    -- parts
    refine q_fldN (o := .dK []) (fun H8 e8 Q2 q2 p hp => q2 p _ hp (Ex.new hp) upd_same) (ev_var rfl) c6 T.col.c n4 (show 3 < 1000 by decide) fun pp H8 hpp e8 h8 => ?_
    have f8 : Ex B (upd H8 c (.ins T.col.C dx (colFs (g.names.length + 1) (wide0 (cpOf g)) sp pp))) := Ex.mut (f6.trans e8) hcB
    have c8 : upd H8 c (.ins T.col.C dx (colFs (g.names.length + 1) (wide0 (cpOf g)) sp pp)) c = some (.ins T.col.C dx (colFs (g.names.length + 1) (wide0 (cpOf g)) sp pp)) := upd_same
    have ncp : c ≠ pp := ne_of_none c6 hpp
    have nsp : sp ≠ pp := ne_of_none s6 hpp
    have hpB : B pp = none := fresh_back f6 hpp
    have s8 : upd H8 c (.ins T.col.C dx (colFs (g.names.length + 1) (wide0 (cpOf g)) sp pp)) sp = some (.dK kv1) := by
      rw [upd_ne (Ne.symm ncs)]
      exact e8 sp _ s6
    have p8 : upd H8 c (.ins T.col.C dx (colFs (g.names.length + 1) (wide0 (cpOf g)) sp pp)) pp = some (.dK []) := by
      rw [upd_ne (Ne.symm ncp)]
      exact h8
    show tFor _ _ _ _ _ (upd H8 c (.ins T.col.C dx (colFs (g.names.length + 1) (wide0 (cpOf g)) sp pp)))
    generalize upd H8 c (.ins T.col.C dx (colFs (g.names.length + 1) (wide0 (cpOf g)) sp pp)) = H9 at f8 c8 s8 p8 ⊢
    have hI := ew_list (K := K) (tl := tVar 2) (σ := ((start n_Columns_init [.ref c, .ref a, .ref ip]).set 3 (some (.int (g.names.length : Int))))) (ev_var rfl) (f8 ip _ hip.at)
    rw [List.length_map] at hI
    refine s_for hI (fun i σ' H' => ∃ a4 a5 a6 a7 kv2, σ' = [some (.ref c), some (.ref a), some (.ref ip), some (.int (g.names.length : Int)), a4, a5, a6, a7] ∧ Ex B H' ∧ H' c = some (.ins T.col.C dx (colFs (g.names.length + 1) (wideL g (idx.take i)) sp pp)) ∧ H' sp = some (.dK kv1) ∧ H' pp = some (.dK kv2) ∧ kv2.length ≤ i ∧ PartsOk (colsOf g (idx.take i)) kv2 H')
      (fun H10 e10 _ => ⟨_, _, _, _, [], rfl, f8.trans e10, e10 c _ c8, e10 sp _ s8, e10 pp _ p8, Nat.le_refl _, fun q hq => by cases hq⟩) (fun _ _ _ ⟨_, _, _, _, _, _, e, _⟩ => e ip _ hip.at) (fun i x σ' H10 H11 hi hP y => ?_) (fun σ' H10 hP => ?_)
    · obtain ⟨a4, a5, a6, a7, kv2, rfl, e10, c10, s10, p10, l10, q10⟩ := hP
      refine y_name y ?_
      have hgd : idx.getD i 0 = idx[i] := by
        rw [List.getD_eq_getElem?_getD, List.getElem?_eq_getElem hi]
        rfl
      have ha : atV (idx.map fun (n : Nat) => V.int (n : Int)) i = .int ((idx[i] : Nat) : Int) := by
        rw [atV_of (nat_at hi), hgd]
      rw [ha]
      have hbi := hix _ (List.getElem_mem hi)
      have htk : idx.take (i + 1) = idx.take i ++ [idx[i]] := by
        rw [List.take_succ, List.getElem?_eq_getElem hi]
        rfl
      have hne := nodup_take' hnd hi
      generalize idx[i] = ix at hbi htk hne ha ⊢
      have hb : g.brs[ix]? = some g.brs[ix] := List.getElem?_eq_getElem hbi
      have hbo := hok.bs _ (List.getElem_mem hbi)
      generalize g.brs[ix] = b at hb hbo
      have htl : (testsL g b).length ≤ 6 := by
        unfold testsL
        rw [List.length_append, List.length_map]
        have h5 := List.length_filter_le (fun s => decide (s.1 = b.src)) g.says
        have h6 := hok.s3
        have h7 := hbo.few
        omega
      have hsz := sizeAt_of hb
      have hwn : wideL g (idx.take (i + 1)) = wideL g (idx.take i) + 2 * ((testsL g b).length + 1) + 2 := by
        unfold wideL
        rw [htk, wideOf_snoc, hsz]
      have hcn : colsOf g (idx.take (i + 1)) = colsOf g (idx.take i) ++ [(ix, wideL g (idx.take i), wideL g (idx.take i) + ((testsL g b).length + 1), wideL g (idx.take i) + 2 * ((testsL g b).length + 1))] := by
        unfold colsOf wideL
        rw [htk, lay_snoc, hsz]
      have hfst : ∀ q ∈ colsOf g (idx.take i), q.1 ≠ ix := fun q hq z => hne (by
        rw [← z]
        have h5 : q.1 ∈ (colsOf g (idx.take i)).map (·.1) := List.mem_map.mpr ⟨q, hq, rfl⟩
        unfold colsOf at h5
        rw [lay_fst] at h5
        exact h5)
      refine q_asg (v := .int (((testsL g b).length + 1 : Nat) : Int)) (ev_is (ev_add (i := ((testsL g b).length : Int)) (j := 1) (ev_lenP (P := fun p H' => TupOf FormP (testsL g b) p H') (fun H12 e12 Q2 q2 => ?_) (fun p H' ⟨ps, h1, h2⟩ => ⟨_, h1, by rw [List.length_map, h2.len]⟩)) ev_c) rfl) fun H12 e12 => ?_
      · refine (ea_cons (ev_var rfl) (ea_cons (ev_var rfl) ea_nil)) H12 e12 _ fun H13 e13 => ⟨a, g, ix, b, rfl, lasts_pg _ _ _ _ ((e10.trans e12).trans e13) hgB, hb, by have := hok.s3; omega, by have := hbo.few; omega, fun p H14 hp e14 h14 => q2 _ H14 (e13.trans e14) ⟨p, rfl, h14⟩⟩
      have c12 := e12 c _ c10
      have p12 := e12 pp _ p10
      have s12 := e12 sp _ s10
      have f12 := e10.trans e12
      generalize hw : wideL g (idx.take i) = w at c12 c10 hwn hcn
      generalize hsN : (testsL g b).length + 1 = sz at hwn hcn hsz ⊢
      refine q_dputN (k := .inl (ix : Int)) (o := .tup [.int (w : Int), .int ((w + sz : Nat) : Int), .int ((w + 2 * sz : Nat) : Int)])
        (evN_U (eu_tup (ea_cons (ev_fld (ev_var rfl) c12 T.col.c n3 rfl) (ea_cons (ev_is (ev_add (i := (w : Int)) (j := (sz : Int)) (ev_fld (ev_var rfl) c12 T.col.c n3 rfl) (ev_var rfl)) (congrArg V.int (by omega)))
          (ea_cons (ev_is (ev_add (i := (w : Int)) (j := 2 * (sz : Int)) (ev_fld (ev_var rfl) c12 T.col.c n3 rfl) (ev_mulW ev_c (ev_var rfl) (mul_fit (fit_lit 2 (by decide)) (fit_nat (by omega))))) (congrArg V.int (by omega))) ea_nil))) (show 3 ≤ 100000 by decide)))
        (ev_fld (ev_var rfl) c12 T.col.c n4 rfl) (ev_var rfl) p12 (by omega) fun tp H13 htp e13 h13 => ?_
      have ntc : tp ≠ c := fun z => by
        rw [z, c12] at htp
        cases htp
      have ntp : tp ≠ pp := fun z => by
        rw [z, p12] at htp
        cases htp
      have c13 : upd H13 pp (.dK (putK kv2 (.inl (ix : Int)) (.ref tp))) c = some (.ins T.col.C dx (colFs (g.names.length + 1) w sp pp)) := by
        rw [upd_ne ncp]
        exact e13 c _ c12
      have f13 : Ex B (upd H13 pp (.dK (putK kv2 (.inl (ix : Int)) (.ref tp)))) := Ex.mut (f12.trans e13) hpB
      refine s_fldadd (i := (w : Int)) (j := 2 * (sz : Int) + 2) (ev_var rfl) c13 T.col.c n3 rfl (ev_add (ev_mulW ev_c (ev_var rfl) (mul_fit (fit_lit 2 (by decide)) (fit_nat (by omega)))) ev_c) (show 4 < 1000 by decide) fun H14 e14 => ?_
      rw [put_wide _ _ _ (wideL g (idx.take (i + 1))) _ _ (by omega)]
      have old : ∀ q o, H10 q = some o → q ≠ c → q ≠ pp → upd H14 c (.ins T.col.C dx (colFs (g.names.length + 1) (wideL g (idx.take (i + 1))) sp pp)) q = some o := fun q o hq z1 z2 => by
        rw [upd_ne z1]
        refine e14 q _ ?_
        rw [upd_ne z2]
        exact e13 q _ (e12 q _ hq)
      refine ⟨_, _, _, _, putK kv2 (.inl (ix : Int)) (.ref tp), rfl, Ex.mut (f13.trans e14) hcB, upd_same, old sp _ s10 (Ne.symm ncs) nsp, ?_, by have := length_putK kv2 (.inl (ix : Int)) (.ref tp); omega, fun q hq => ?_⟩
      · rw [upd_ne (Ne.symm ncp)]
        refine e14 pp _ upd_same
      · rw [hcn] at hq
        rcases List.mem_append.mp hq with z | z
        · obtain ⟨p, h1, h2⟩ := q10 q z
          refine ⟨p, ?_, old p _ h2 (fun z2 => ?_) (fun z2 => ?_)⟩
          · rw [valV_put, if_neg (fun e => hfst q z (by
              have := Sum.inl.inj e
              omega))]
            exact h1
          · rw [z2, c10] at h2
            cases h2
          · rw [z2, p10] at h2
            cases h2
        · rw [List.mem_singleton.mp z]
          refine ⟨tp, by rw [valV_put, if_pos rfl], ?_⟩
          rw [upd_ne ntc]
          refine e14 tp _ ?_
          rw [upd_ne ntp]
          exact h13
    · obtain ⟨a4, a5, a6, a7, kv2, rfl, e10, c10, s10, p10, _, q10⟩ := hP
      rw [List.take_length] at c10 q10
      exact k H10 e10 ⟨dx, sp, pp, kv1, kv2, c10, s10, p10, hkv, q10⟩
end
end Fd
end

section
set_option Elab.async false
set_option linter.all false
set_option maxRecDepth 100000
set_option maxHeartbeats 4000000
/-! WG: place_into, weight_into, stand_rows. -/
namespace Ew
open PySem PySem.Spec PyProof.Rows L2 Evl
section
variable {K : Fg} {σ : L2.St} {H H' : Hp} {ta tb te tx tv tk td ty to ti : TE} {t u : TT} {x y z v : V} {r : R2} {D : Ends} {tu tw tz : TS}
theorem s_augI {f : Int → Int → Int} {p : Addr} {row : List Int} {k : Nat} {i : Int} (hl : IL H p row) (ho : Ev to σ H (.ref p)) (hi : Ev ti σ H (.int (k : Int))) (hk : k < row.length) (hv : Ev te σ H (.int i)) (q : ∀ H1, Ex H H1 → D.nx σ (upd H1 p (.lst ((row.set k (f (row.getD k 0) i)).map V.int)))) :
    tAugS to ti te (Gap.gIxL K) (ipI f) rSetL D σ H := ho H (Ex.refl H) _ fun H1 e1 => hi H1 e1 _ fun H2 e2 => ⟨p, _, k, _, rfl, rfl, sq_of ((e1.trans e2) p _ hl.at), int_at hk, hv H2 (e1.trans e2) _ fun H3 e3 => ⟨_, _, rfl, rfl, p, _, _, _, rfl, rfl, ((e1.trans e2).trans e3) p _ hl.at, ixN_nat (by rw [List.length_map]; exact hk), by
      rw [← List.map_set]
      exact q H3 ((e1.trans e2).trans e3)⟩⟩
theorem q_augI {f : Int → Int → Int} {p : Addr} {row : List Int} {k : Nat} {i : Int} (hl : IL H p row) (ho : Ev to σ H (.ref p)) (hi : Ev ti σ H (.int (k : Int))) (hk : k < row.length) (hv : Ev te σ H (.int i)) (q : ∀ H1, Ex H H1 → tz D σ (upd H1 p (.lst ((row.set k (f (row.getD k 0) i)).map V.int)))) :
    tSeq (tAugS to ti te (Gap.gIxL K) (ipI f) rSetL) tz D σ H := s_augI (D := { D with nx := tz D }) hl ho hi hk hv q
theorem ex_to_del {a : Addr} (e : Ex H H') (h : H a = none) : Ex H (del H' a) := fun b o hb => by
  rw [del_ne (ne_of_none hb h)]
  exact e b o hb
theorem ex_del_back {H2 : Hp} {a : Addr} (e : Ex (del H' a) H2) (eB : Ex H H') (h : H a = none) : Ex H H2 := (ex_to_del eB h).trans e
/-- for x in a tuple just made -/
theorem s_forU {xs : List V} {tl : TE} {g : TG} {tb : TS} (h : EvU tl σ H xs) (Pv : Addr → Nat → L2.St → Hp → Prop) (h0 : ∀ p H1, H p = none → Ex H H1 → H1 p = some (.tup xs) → Pv p 0 σ H1) (hG : ∀ p i σ' H', Pv p i σ' H' → H' p = some (.tup xs))
    (hs : ∀ p i x σ' H1 H2, i < xs.length → Pv p i σ' H1 → YFn (atV xs) i H1 x H2 → g x σ' H2 fun σ2 H3 => tb { nx := Pv p (i + 1), rt := D.rt, bk := D.nx, ct := Pv p (i + 1) } σ2 H3) (hd : ∀ p σ' H', Pv p xs.length σ' H' → D.nx σ' H') : tFor (iTup K tl) g tb D σ H :=
  h H (Ex.refl H) _ fun p H1 hp e1 h1 => s_for (wi := iTup K (tC (.ref p))) (g := g) (tu := tb) (ew_tup (K := K) ev_c h1) (Pv p) (fun H2 e2 _ => h0 p H2 hp (e1.trans e2) (e2 p _ h1)) (fun i σ' H' => hG p i σ' H') (fun i x σ' H1 H2 hi hP y => hs p i x σ' H1 H2 hi hP y) (fun σ' H' => hd p σ' H')
theorem q_forU {xs : List V} {tl : TE} {g : TG} {tb : TS} (h : EvU tl σ H xs) (Pv : Addr → Nat → L2.St → Hp → Prop) (h0 : ∀ p H1, H p = none → Ex H H1 → H1 p = some (.tup xs) → Pv p 0 σ H1) (hG : ∀ p i σ' H', Pv p i σ' H' → H' p = some (.tup xs))
    (hs : ∀ p i x σ' H1 H2, i < xs.length → Pv p i σ' H1 → YFn (atV xs) i H1 x H2 → g x σ' H2 fun σ2 H3 => tb { nx := Pv p (i + 1), rt := D.rt, bk := tz D, ct := Pv p (i + 1) } σ2 H3) (hd : ∀ p σ' H', Pv p xs.length σ' H' → tz D σ' H') : tSeq (tFor (iTup K tl) g tb) tz D σ H :=
  s_forU (D := { D with nx := tz D }) h Pv h0 hG hs hd
/-- o.m(..) as a statement -/
theorem q_meth {C c dx : Addr} {m : Str} {sp : Sp} {dvs vs : List V} {E : XK} {ta' : TA} {fs : List (Str × V)} (ho : Ev ta σ H (.ref c)) (hc : H c = some (.ins C dx fs)) (hl : fs.lookup m = none) (h : EvA ta' σ H vs) (k : ∀ H1, Ex H H1 → sp (.ref c :: (vs ++ dvs)) H1 (fun _ H2 => tz D σ H2) E) : tSeq (tDrop (tMeth C m sp dvs E ta ta')) tz D σ H :=
  ho H (Ex.refl H) _ fun H1 e1 => ⟨c, dx, fs, rfl, e1 c _ hc, hl, h H1 e1 _ fun H2 e2 => k H2 (e1.trans e2)⟩
theorem s_meth {C c dx : Addr} {m : Str} {sp : Sp} {dvs vs : List V} {E : XK} {ta' : TA} {fs : List (Str × V)} (ho : Ev ta σ H (.ref c)) (hc : H c = some (.ins C dx fs)) (hl : fs.lookup m = none) (h : EvA ta' σ H vs) (k : ∀ H1, Ex H H1 → sp (.ref c :: (vs ++ dvs)) H1 (fun _ H2 => D.nx σ H2) E) : tDrop (tMeth C m sp dvs E ta ta') D σ H :=
  ho H (Ex.refl H) _ fun H1 e1 => ⟨c, dx, fs, rfl, e1 c _ hc, hl, h H1 e1 _ fun H2 e2 => k H2 (e1.trans e2)⟩
/-- f(..) as a statement -/
theorem q_do {sp : Sp} {dvs vs : List V} {E : XK} {ta' : TA} (h : EvA ta' σ H vs) (k : ∀ H1, Ex H H1 → sp (vs ++ dvs) H1 (fun _ H2 => tz D σ H2) E) : tSeq (tDrop (tCall sp dvs E ta')) tz D σ H := h H (Ex.refl H) _ k
end
theorem Each.at' {α : Type} {P : α → Addr → Hp → Prop} {H : Hp} {ps : List Addr} {l : List α} (d : α) (h : Each P H ps l) {i : Nat} (hi : i < l.length) : ∃ q, ps[i]? = some q ∧ P (l.getD i d) q H := by
  obtain ⟨q, h1, h2⟩ := h.get hi
  refine ⟨q, h1, ?_⟩
  rw [List.getD_eq_getElem?_getD, List.getElem?_eq_getElem hi]
  exact h2
end Ew
namespace FR
theorem lay_at {brs : List (FR.Br Int)} : ∀ {l : List Nat} {w : Nat} {q : Nat × Nat × Nat × Nat}, q ∈ lay brs l w → w ≤ q.2.1 ∧ q.2.2.1 = q.2.1 + sizeAt brs q.1 ∧ q.2.2.2 = q.2.1 + 2 * sizeAt brs q.1 ∧ q.2.2.2 + 2 ≤ wideOf brs l w
  | [], w, q, h => by cases h
  | i :: l, w, q, h => by
    have hw : ∀ (l : List Nat) (w : Nat), w ≤ wideOf brs l w := by
      intro l
      induction l with
      | nil =>
        intro w
        exact Nat.le_refl w
      | cons j l ih =>
        intro w
        have := ih (w + 2 * sizeAt brs j + 2)
        show w ≤ wideOf brs l _
        omega
    rcases List.mem_cons.mp h with z | z
    · subst z
      have := hw l (w + 2 * sizeAt brs i + 2)
      exact ⟨Nat.le_refl _, rfl, rfl, this⟩
    · obtain ⟨h1, h2, h3, h4⟩ := lay_at z
      exact ⟨by omega, h2, h3, h4⟩
theorem placeInto_len {step : Nat} {row : List Int} {place part : Nat} {v : Int} : (placeInto intN step row place part v).length = row.length := by
  unfold placeInto subAt addAt
  rw [List.length_set, List.length_set]
theorem testsInto_len {part : Nat} : ∀ {tests : List (List Int)} {row : List Int} {k : Nat}, (testsInto intN part tests row k).length = row.length
  | [], row, k => rfl
  | t :: r, row, k => by
    show (testsInto intN part r _ _).length = _
    rw [testsInto_len]
    unfold subAt
    rw [List.length_set]
theorem weightInto_len {row : List Int} {tests : List (List Int)} {b part step : Nat} : (weightInto intN row tests b part step).length = row.length := by
  unfold weightInto
  show (if _ then _ else _ : List Int).length = _
  split
  · unfold subAt
    rw [List.length_set, testsInto_len]
  · exact testsInto_len
theorem testsInto_drop {part : Nat} {tests : List (List Int)} {row : List Int} {k i : Nat} (hi : i < tests.length) : testsInto intN part (tests.drop i) row k = testsInto intN part (tests.drop (i + 1)) (row.set k (row.getD k 0 - (tests.getD i []).getD part 0)) (k + 1) := by
  rw [List.drop_eq_getElem_cons hi, List.getD_eq_getElem?_getD (l := tests), List.getElem?_eq_getElem hi]
  rfl
end FR
namespace Fd
open PySem PySem.Spec PyProof.Rows L2 Evl Ew Tx FR
section
variable {P : Program} {w : World} {K : PySem.W.Frag} {mg : Str → Option Value} {base : Heap}
def sp_place_into (C : Addr) : Sp := fun vs H Q _ => ∃ (c rp : Addr) (g : Pg) (idx : List Nat) (x : Str) (pi part : Nat) (v : Int) (row : List Int), vs = [.ref c, .ref rp, .str x, .int (part : Int), .int v] ∧ ColAt C g idx c H ∧ IL H rp row ∧ g.places[pi]? = some x ∧
  2 * pi * (g.names.length + 1) + (g.names.length + 1) + part < row.length ∧ ∀ H2, Ex (del H rp) H2 → IL H2 rp (placeInto intN (g.names.length + 1) row pi part v) → Q .non H2
theorem ok_place_into (T : Txt K mg) : FnOk P w K mg base CX0 1 T.col.place_into.a T.col.place_into.d p_Columns_place_into (sp_place_into T.col.C) := by
  refine T.col.place_into.F.ok sc_Columns_place_into (fun vs H Q E h => ?_) (fun cdv A outer s H vs Q E hr h => ?_)
  · obtain ⟨c, rp, g, idx, x, pi, part, v, row, rfl, _⟩ := h
    rfl
  · obtain ⟨c, rp, g, idx, x, pi, part, v, row, rfl, ⟨dx, sp, pp, kv1, kv2, hc, hsp, hpp, hk1, hk2⟩, hrow, hx, hlen, k⟩ := h
    have nd := sc_Columns_place_into.nd
    have hu := hr.units
    have hu1 : (A.deeper (envOfC "Columns.place_into" (defScope s_Columns_place_into) s.heap.objs.size T.col.place_into.a cdv)).units + 1 < cLine := by omega
    have n1 := T.col.n "step" (by decide +kernel)
    have n2 := T.col.n "spots" (by decide +kernel)
    refine ⟨_, pss_cons (ps_augS (pv 1) (pe_op op_add (pe_dget hu1 (pe_fld (pv 0) (by rfl)) (pv 2) (fun _ _ => rfl)) (pv 3)) Gap.get_list (pv 4) ip_add set_list)
      (pss_one (ps_augS (pv 1) (pe_op op_add (pe_op op_add (pe_dget hu1 (pe_fld (pv 0) (by rfl)) (pv 2) (fun _ _ => rfl)) (pe_fld (pv 0) (by rfl))) (pv 3)) Gap.get_list (pv 4) ip_sub set_list)), ?_⟩
    have hgp : ∀ {Hx : Hp}, Ex (del H rp) Hx → Ev (tDGet (tFld K (tVar 0) "spots") (tVar 2)) (start n_Columns_place_into [.ref c, .ref rp, .str x, .int (part : Int), .int v]) Hx (.int ((2 * pi * (g.names.length + 1) : Nat) : Int)) ∧ Ev (tFld K (tVar 0) "step") (start n_Columns_place_into [.ref c, .ref rp, .str x, .int (part : Int), .int v]) Hx (.int ((g.names.length + 1 : Nat) : Int)) := fun {Hx} e => by
      have ncr : c ≠ rp := fun z => by
        rw [z, hrow.at] at hc
        cases hc
      have nsr : sp ≠ rp := fun z => by
        rw [z, hrow.at] at hsp
        cases hsp
      have hc2 : Hx c = _ := e c _ (by rw [del_ne ncr]; exact hc)
      have hs2 : Hx sp = _ := e sp _ (by rw [del_ne nsr]; exact hsp)
      exact ⟨ev_dget (k := .inr x) (ev_fld (ev_var rfl) hc2 T.col.c n2 rfl) (ev_var rfl) hs2 (hk1 pi x hx), ev_fld (ev_var rfl) hc2 T.col.c n1 rfl⟩
    refine q_augI (k := 2 * pi * (g.names.length + 1) + part) hrow (ev_var rfl) (ev_is (ev_add (hgp ex_del).1 (ev_var rfl)) (congrArg V.int (by omega))) (by omega) (ev_var rfl) fun H1 e1 => ?_
    have f1 : Ex (del H rp) (upd H1 rp (.lst ((row.set (2 * pi * (g.names.length + 1) + part) (row.getD (2 * pi * (g.names.length + 1) + part) 0 + v)).map V.int))) := Ex.mut (ex_del.trans e1) del_at
    have r1 : IL (upd H1 rp (.lst ((row.set (2 * pi * (g.names.length + 1) + part) (row.getD (2 * pi * (g.names.length + 1) + part) 0 + v)).map V.int))) rp _ := upd_same
    refine s_augI (k := 2 * pi * (g.names.length + 1) + (g.names.length + 1) + part) r1 (ev_var rfl) (ev_is (ev_add (ev_add (hgp f1).1 (hgp f1).2) (ev_var rfl)) (congrArg V.int (by omega))) (by rw [List.length_set]; omega) (ev_var rfl) fun H2 e2 => ?_
    exact k _ (Ex.mut (f1.trans e2) del_at) upd_same
def sp_weight_into : Sp := fun vs H Q _ => ∃ (rp tp : Addr) (tests : List (List Int)) (b part step : Nat) (row : List Int), vs = [.ref rp, .ref tp, .int (b : Int), .int (part : Int), .int (step : Int)] ∧ IL H rp row ∧ TupOf FormP tests tp (del H rp) ∧ (∀ t ∈ tests, part < t.length) ∧ 0 < step ∧ b + tests.length < row.length ∧
  ∀ H2, Ex (del H rp) H2 → IL H2 rp (weightInto intN row tests b part step) → Q .non H2
theorem ok_weight_into (T : Txt K mg) : FnOk P w K mg base CX0 1 T.weight_into.a T.weight_into.d p_weight_into sp_weight_into := by
  refine T.weight_into.F.ok sc_weight_into (fun vs H Q E h => ?_) (fun cdv A outer s H vs Q E hr h => ?_)
  · obtain ⟨rp, tp, tests, b, part, step, row, rfl, _⟩ := h
    rfl
  · obtain ⟨rp, tp, tests, b, part, step, row, rfl, hrow, ⟨ps, ht, hT⟩, htl, hst, hlen, k⟩ := h
    have nd := sc_weight_into.nd
    refine ⟨_, pss_cons (ps_for PassesOwn.never rfl (Gap.pi_enumT (by rfl) T.z.enumerate (pa_cons (pv 1) pa_nil)) (pg_tup rfl (pgs_cons (pg_name (i := 5) nd rfl (Or.inl rfl)) (pgs_cons (pg_name (i := 6) nd rfl (Or.inl rfl)) pgs_nil)))
        (pss_one (ps_augS (pv 0) (pe_op op_add (pv 2) (pv 5)) Gap.get_list (pe_ix (r := rIxT K) ix_tup (pv 6) (pv 3) (fun _ _ => rfl)) ip_sub set_list)))
      (pss_one (ps_if (pt_cmpR op_eq (pv 3) (pe_op op_sub (pv 4) pe_int) (nomark _))
        (pss_one (ps_augS (pv 0) (pe_op op_add (pv 2) (pe_callB (r := rLenS K) call_len_seq (by rfl) T.z.len PySem.boot_len (pa_cons (pv 1) pa_nil))) Gap.get_list pe_int ip_sub set_list)) pss_nil)), ?_⟩
    have hI := ew_enumT (K := K) (ta := tCons (tVar 1) tNil) (σ := start n_weight_into [.ref rp, .ref tp, .int (b : Int), .int (part : Int), .int (step : Int)]) (ea_cons (ev_var rfl) ea_nil) (ex_del tp _ ht)
    rw [List.length_map, hT.len] at hI
    refine q_for hI (fun i σ' H' => ∃ a5 a6 rowi, σ' = [some (.ref rp), some (.ref tp), some (.int (b : Int)), some (.int (part : Int)), some (.int (step : Int)), a5, a6] ∧ Ex (del H rp) H' ∧ IL H' rp rowi ∧ rowi.length = row.length ∧ testsInto intN part (tests.drop i) rowi (b + i) = testsInto intN part tests row b)
      (fun H1 e1 _ => ⟨_, _, row, rfl, ex_del.trans e1, hrow.ex e1, rfl, rfl⟩) (fun _ _ _ ⟨_, _, _, _, e, _⟩ => e tp _ ht) (fun i x σ' H1 H2 hi hP y => ?_) (fun σ' H1 hP => ?_)
    · obtain ⟨a5, a6, rowi, rfl, e1, r1, l1, t1⟩ := hP
      refine y_pair y fun H3 e3 _ => ?_
      obtain ⟨q, hq, hf⟩ := (hT.ex lasts_form (e1.trans e3)).at' [] hi
      have hfi : TupI H3 q (tests.getD i []) := hf
      have hpl : part < (tests.getD i []).length := htl _ (getD_mem hi)
      rw [atV_ref hq]
      refine s_augI (k := b + i) (r1.ex e3) (ev_var rfl) (ev_is (ev_add (ev_var rfl) (ev_var rfl)) (congrArg V.int (by omega))) (by omega) (ev_ixT (ev_var rfl) (ev_var rfl) hfi.at (int_at hpl)) fun H4 e4 => ?_
      exact ⟨_, _, _, rfl, Ex.mut ((e1.trans e3).trans e4) del_at, upd_same, by rw [List.length_set, l1], (testsInto_drop hi).symm.trans t1⟩
    · obtain ⟨a5, a6, rowi, rfl, e1, r1, l1, t1⟩ := hP
      rw [List.drop_length] at t1
      have t1 : rowi = testsInto intN part tests row b := t1
      have hW : weightInto intN row tests b part step = if part + 1 = step then rowi.set (b + tests.length) (rowi.getD (b + tests.length) 0 - 1) else rowi := by
        unfold weightInto
        rw [← t1]
        rfl
      refine s_when (ev_eqI (ev_var rfl) (ev_sub (ev_var rfl) ev_c)) (fun hb H2 e2 => ?_) (fun hb H2 e2 => ?_)
      · have h5 : (part : Int) = (step : Int) - 1 := of_decide_eq_true hb
        rw [if_pos (by omega)] at hW
        refine s_augI (k := b + tests.length) (r1.ex e2) (ev_var rfl) (ev_is (ev_add (ev_var rfl) (ev_is (ev_lenT (ev_var rfl) ((e1.trans e2) tp _ ht)) (by rw [List.length_map, hT.len]))) (congrArg V.int (by omega))) (by omega) ev_c fun H3 e3 => ?_
        exact k _ (Ex.mut ((e1.trans e2).trans e3) del_at) (by rw [hW]; exact upd_same)
      · have h5 : ¬ (part : Int) = (step : Int) - 1 := of_decide_eq_false hb
        rw [if_neg (by omega)] at hW
        exact k _ (e1.trans e2) (by rw [hW]; exact r1.ex e2)
end
end Fd
end

section
set_option Elab.async false
set_option linter.all false
set_option maxRecDepth 100000
set_option maxHeartbeats 4000000
/-! WH: stand_rows, fall_rows. -/
namespace FR
theorem zeros_map {n : Nat} : (zeros intN n).map L2.V.int = (List.range n).map fun _ => L2.V.int 0 := by
  unfold zeros
  rw [List.map_replicate, List.map_const', List.length_range]
  rfl
theorem zeros_len {n : Nat} : (zeros intN n).length = n := List.length_replicate
def standRow (cp : CProg Int) (wide : Nat) (b : Br Int) (begin_ part : Nat) : List Int := weightInto intN (placeInto intN (cp.nv + 1) (zeros intN (wide + 1)) b.src part 1) b.tests begin_ part (cp.nv + 1)
theorem standRows_int (cp : CProg Int) (wide : Nat) (b : Br Int) (begin_ : Nat) : standRows intN cp wide b begin_ = (List.range (cp.nv + 1)).map (standRow cp wide b begin_) := rfl
theorem standRow_len {cp : CProg Int} {wide : Nat} {b : Br Int} {begin_ part : Nat} : (standRow cp wide b begin_ part).length = wide + 1 := by
  unfold standRow
  rw [weightInto_len, placeInto_len, zeros_len]
end FR
namespace Ew
open PySem PySem.Spec PyProof.Rows L2 Evl
theorem place_at {g : Pg} {x : Str} (h : x ∈ g.places) : g.places[g.places.idxOf x]? = some x ∧ g.places.idxOf x < g.places.length := by
  have h1 : g.places.idxOf x < g.places.length := List.idxOf_lt_length_iff.mpr h
  exact ⟨by rw [List.getElem?_eq_getElem h1, List.getElem_idxOf h1], h1⟩
theorem tests_ok {g : Pg} (hok : PgOk g) {b : Brh} (hb : b ∈ g.brs) : (testsL g b).length ≤ 6 ∧ ∀ t ∈ testsL g b, t.length = g.names.length + 1 := by
  have hbo := hok.bs b hb
  unfold testsL
  constructor
  · rw [List.length_append, List.length_map]
    have h5 := List.length_filter_le (fun s => decide (s.1 = b.src)) g.says
    have h6 := hok.s3
    have h7 := hbo.few
    omega
  · intro t ht
    rcases List.mem_append.mp ht with z | z
    · exact (hbo.tests t z).1
    · obtain ⟨s, hs, rfl⟩ := List.mem_map.mp z
      exact (hok.ss s (List.mem_filter.mp hs).1).2.1
theorem places_le {g : Pg} (hok : PgOk g) : g.places.length ≤ 3 := by
  have h5 := hok.few (g.brs.length - 1) (by have := hok.b0; omega)
  have h6 : g.brs.length - 1 + 1 = g.brs.length := by have := hok.b0; omega
  rw [h6, List.take_length] at h5
  exact h5
/-- what the columns say of one index -/
theorem cols_at {g : Pg} {idx : List Nat} {q : Nat × Nat × Nat × Nat} {b : Brh} (hq : q ∈ colsOf g idx) (hb : g.brs[q.1]? = some b) : q.2.2.1 = q.2.1 + ((testsL g b).length + 1) ∧ q.2.2.2 = q.2.1 + 2 * ((testsL g b).length + 1) ∧ q.2.2.2 + 2 ≤ wideL g idx ∧ 2 * (g.names.length + 1) * g.places.length ≤ q.2.1 := by
  obtain ⟨h1, h2, h3, h4⟩ := FR.lay_at hq
  rw [sizeAt_of hb] at h2 h3
  exact ⟨h2, h3, h4, h1⟩
theorem spot_lt {g : Pg} {i part : Nat} (hi : i < g.places.length) (hp : part < g.names.length + 1) : 2 * i * (g.names.length + 1) + (g.names.length + 1) + part < 2 * (g.names.length + 1) * g.places.length := by
  have h1 : (i + 1) * (g.names.length + 1) ≤ g.places.length * (g.names.length + 1) := Nat.mul_le_mul_right _ hi
  rw [Nat.add_mul] at h1
  have h2 : 2 * i * (g.names.length + 1) = 2 * (i * (g.names.length + 1)) := Nat.mul_assoc _ _ _
  have h3 : 2 * (g.names.length + 1) * g.places.length = 2 * (g.places.length * (g.names.length + 1)) := by
    rw [Nat.mul_assoc, Nat.mul_comm (g.names.length + 1)]
  omega
section
variable {K : Fg} {σ : L2.St} {H H' : Hp} {ta tb te tx tv tk td ty to ti tc : TE} {t u : TT} {x y z v : V} {r : R2} {D : Ends} {tu tw tz : TS}
/-- a, b, c = e1, e2, [] -/
theorem q_parPL {i j l : Nat} {Pr : V → Hp → Prop} (h1 : Ev ta σ H x) (h2 : EvP tb σ H Pr) (h3 : EvL tc σ H []) (k : ∀ v p H1 H2, Ex H H1 → Pr v H1 → H1 p = none → Ex H1 H2 → H2 p = some (.lst []) → tz D (((σ.set i (some x)).set j (some v)).set l (some (.ref p))) H2) :
    tSeq (tPar3 i j l (tCons ta (tCons tb (tCons tc tNil)))) tz D σ H := h1 H (Ex.refl H) _ fun H1 e1 => h2 H1 e1 _ fun v H2 e2 hv => h3 H2 (e1.trans e2) _ fun p H3 hp e3 hp3 => ⟨_, _, _, rfl, k v p H2 H3 (e1.trans e2) hv hp e3 hp3⟩
/-- the three columns of an index, and the other attributes -/
theorem ev_part {C c : Addr} {g : Pg} {idx : List Nat} {q : Nat × Nat × Nat × Nat} {k : Nat} {n : Int} (hC : ColAt C g idx c H) (hcl : Cls K C) (hn : NoAttr K C "parts") (h : Ev ta σ H (.ref c)) (hi : Ev tb σ H (.int (q.1 : Int))) (hq : q ∈ colsOf g idx) (hk : Ev ti σ H (.int (k : Int))) (hkn : ([.int (q.2.1 : Int), .int (q.2.2.1 : Int), .int (q.2.2.2 : Int)] : List V)[k]? = some (.int n)) :
    Ev (tOp (rIxT K) (tDGet (tFld K ta "parts") tb) ti) σ H (.int n) := by
  obtain ⟨dx, sp, pp, kv1, kv2, hc, hsp, hpp, hk1, hk2⟩ := hC
  obtain ⟨p, h1, h2⟩ := hk2 q hq
  exact ev_ixT (ev_dget (k := .inl (q.1 : Int)) (ev_fld h hc hcl hn rfl) hi hpp h1) hk h2 hkn
theorem ev_step {C c : Addr} {g : Pg} {idx : List Nat} (hC : ColAt C g idx c H) (hcl : Cls K C) (hn : NoAttr K C "step") (h : Ev ta σ H (.ref c)) : Ev (tFld K ta "step") σ H (.int ((g.names.length + 1 : Nat) : Int)) := by
  obtain ⟨dx, sp, pp, kv1, kv2, hc, hsp, hpp, hk1, hk2⟩ := hC
  exact ev_fld h hc hcl hn rfl
theorem ev_wide {C c : Addr} {g : Pg} {idx : List Nat} (hC : ColAt C g idx c H) (hcl : Cls K C) (hn : NoAttr K C "wide") (h : Ev ta σ H (.ref c)) : Ev (tFld K ta "wide") σ H (.int ((wideL g idx : Nat) : Int)) := by
  obtain ⟨dx, sp, pp, kv1, kv2, hc, hsp, hpp, hk1, hk2⟩ := hC
  exact ev_fld h hc hcl hn rfl
theorem ev_spot {C c : Addr} {g : Pg} {idx : List Nat} {i : Nat} {s : Str} (hC : ColAt C g idx c H) (hcl : Cls K C) (hn : NoAttr K C "spots") (h : Ev ta σ H (.ref c)) (hi : Ev tb σ H (.str s)) (hs : g.places[i]? = some s) : Ev (tDGet (tFld K ta "spots") tb) σ H (.int ((2 * i * (g.names.length + 1) : Nat) : Int)) := by
  obtain ⟨dx, sp, pp, kv1, kv2, hc, hsp, hpp, hk1, hk2⟩ := hC
  exact ev_dget (k := .inr s) (ev_fld h hc hcl hn rfl) hi hsp (hk1 i s hs)
/-- columns.place_into(row, place, part, by) as a statement: the row is the only thing that changes -/
theorem q_place {C c rp : Addr} {E : XK} {g : Pg} {idx : List Nat} {pi part : Nat} {s : Str} {i : Int} {row : List Int} {B : Hp} {t1 t2 t3 t4 : TE} (ho : Ev ta σ H (.ref c)) (hC : ColAt C g idx c H) (hrow : IL H rp row) (eB : Ex B H) (hB : B rp = none) (hs : g.places[pi]? = some s)
    (hl : 2 * pi * (g.names.length + 1) + (g.names.length + 1) + part < row.length) (h : EvA (tCons t1 (tCons t2 (tCons t3 (tCons t4 tNil)))) σ H [.ref rp, .str s, .int (part : Int), .int i])
    (k : ∀ H2, Ex B H2 → IL H2 rp (FR.placeInto FR.intN (g.names.length + 1) row pi part i) → tz D σ H2) : tSeq (tDrop (tMeth C "place_into" (Fd.sp_place_into C) [] E ta (tCons t1 (tCons t2 (tCons t3 (tCons t4 tNil)))))) tz D σ H := by
  have hC2 := hC
  obtain ⟨dx, sp, pp, kv1, kv2, hc, _⟩ := hC
  exact q_meth ho hc rfl h fun H1 e1 => ⟨c, rp, g, idx, s, pi, part, i, row, rfl, lasts_col _ _ _ _ e1 hC2, hrow.ex e1, hs, hl, fun H2 e2 h2 => k H2 (ex_del_back e2 (eB.trans e1) hB) h2⟩
theorem s_place {C c rp : Addr} {E : XK} {g : Pg} {idx : List Nat} {pi part : Nat} {s : Str} {i : Int} {row : List Int} {B : Hp} {t1 t2 t3 t4 : TE} (ho : Ev ta σ H (.ref c)) (hC : ColAt C g idx c H) (hrow : IL H rp row) (eB : Ex B H) (hB : B rp = none) (hs : g.places[pi]? = some s)
    (hl : 2 * pi * (g.names.length + 1) + (g.names.length + 1) + part < row.length) (h : EvA (tCons t1 (tCons t2 (tCons t3 (tCons t4 tNil)))) σ H [.ref rp, .str s, .int (part : Int), .int i])
    (k : ∀ H2, Ex B H2 → IL H2 rp (FR.placeInto FR.intN (g.names.length + 1) row pi part i) → D.nx σ H2) : tDrop (tMeth C "place_into" (Fd.sp_place_into C) [] E ta (tCons t1 (tCons t2 (tCons t3 (tCons t4 tNil))))) D σ H := by
  have hC2 := hC
  obtain ⟨dx, sp, pp, kv1, kv2, hc, _⟩ := hC
  exact s_meth ho hc rfl h fun H1 e1 => ⟨c, rp, g, idx, s, pi, part, i, row, rfl, lasts_col _ _ _ _ e1 hC2, hrow.ex e1, hs, hl, fun H2 e2 h2 => k H2 (ex_del_back e2 (eB.trans e1) hB) h2⟩
end
end Ew
namespace Fd
open PySem PySem.Spec PyProof.Rows L2 Evl Ew Tx FR
section
variable {P : Program} {w : World} {K : PySem.W.Frag} {mg : Str → Option Value} {base : Heap}
/-- what each of the two walks by index is given -/
structure IxAt (T : Txt K mg) (a c : Addr) (g : Pg) (idx : List Nat) (q : Nat × Nat × Nat × Nat) (b : Brh) (H : Hp) : Prop where
  pg : PgAt T.pro.C g a H
  ok : PgOk g
  col : ColAt T.col.C g idx c H
  il : idx.length ≤ 5
  mq : q ∈ colsOf g idx
  mb : g.brs[q.1]? = some b
theorem IxAt.mem {T : Txt K mg} {a c : Addr} {g : Pg} {idx : List Nat} {q : Nat × Nat × Nat × Nat} {b : Brh} {H : Hp} (h : IxAt T a c g idx q b H) : b ∈ g.brs := List.mem_of_getElem? h.mb
theorem IxAt.ex {T : Txt K mg} {a c : Addr} {g : Pg} {idx : List Nat} {q : Nat × Nat × Nat × Nat} {b : Brh} {H H' : Hp} (h : IxAt T a c g idx q b H) (e : Ex H H') : IxAt T a c g idx q b H' := ⟨lasts_pg _ _ _ _ e h.pg, h.ok, lasts_col _ _ _ _ e h.col, h.il, h.mq, h.mb⟩
theorem wide_le {g : Pg} (hok : PgOk g) {idx : List Nat} (hl : idx.length ≤ 5) (hx : ∀ i, sizeAt (cpOf g).brs i ≤ 7) : wideL g idx ≤ 110 := by
  have h : ∀ (l : List Nat) (w : Nat), wideOf (cpOf g).brs l w ≤ w + 16 * l.length := by
    intro l
    induction l with
    | nil =>
      intro w
      exact Nat.le_refl _
    | cons i l ih =>
      intro w
      have h5 := ih (w + 2 * sizeAt (cpOf g).brs i + 2)
      have h6 := hx i
      show wideOf (cpOf g).brs l _ ≤ w + 16 * (l.length + 1)
      omega
  have h5 := h idx (wide0 (cpOf g))
  have h6 : wide0 (cpOf g) ≤ 24 := by
    show 2 * (g.names.length + 1) * g.places.length ≤ 24
    have h7 := hok.n3
    have h8 := places_le hok
    have h9 := Nat.mul_le_mul (Nat.mul_le_mul_left 2 (Nat.succ_le_succ h7)) h8
    exact h9
  unfold wideL
  omega
theorem size_le {g : Pg} (hok : PgOk g) (i : Nat) : sizeAt (cpOf g).brs i ≤ 7 := by
  cases h : g.brs[i]? with
  | none =>
    unfold sizeAt
    have h5 : (cpOf g).brs[i]? = none := by
      show (g.brs.map (brOf g))[i]? = none
      rw [List.getElem?_map, h]
      rfl
    rw [h5]
    exact Nat.zero_le _
  | some b =>
    rw [sizeAt_of h]
    have := (tests_ok hok (List.mem_of_getElem? h)).1
    omega
theorem IxAt.wide {T : Txt K mg} {a c : Addr} {g : Pg} {idx : List Nat} {q : Nat × Nat × Nat × Nat} {b : Brh} {H : Hp} (h : IxAt T a c g idx q b H) : wideL g idx ≤ 110 := wide_le h.ok h.il (size_le h.ok)
def sp_stand_rows (T : Txt K mg) : Sp := fun vs H Q _ => ∃ (a c : Addr) (g : Pg) (idx : List Nat) (q : Nat × Nat × Nat × Nat) (b : Brh), vs = [.ref a, .ref c, .int (q.1 : Int)] ∧ IxAt T a c g idx q b H ∧
  ∀ p ps H2, H p = none → Ex H H2 → Mat H2 p ps (standRows intN (cpOf g) (wideL g idx) (brOf g b) q.2.1) → Q (.ref p) H2
theorem ok_stand_rows (T : Txt K mg) : FnOk P w K mg base CX0 3 T.stand_rows.a T.stand_rows.d p_stand_rows (sp_stand_rows T) := by
  have R1 := raw0 (ok_branches (P := P) (w := w) (base := base) T) T.pro.branches.b
  have G1 := ok_place_into (P := P) (w := w) (base := base) T
  have G2 := ok_weight_into (P := P) (w := w) (base := base) T
  have G3 := ok_tests_of (P := P) (w := w) (base := base) T
  refine T.stand_rows.F.ok sc_stand_rows (fun vs H Q E h => ?_) (fun cdv A outer s H vs Q E hr h => ?_)
  · obtain ⟨a, c, g, idx, q, b, rfl, _⟩ := h
    rfl
  · obtain ⟨a, c, g, idx, q, b, rfl, hx, k⟩ := h
    have nd := sc_stand_rows.nd
    have hu := hr.units
    have hu1 : (A.deeper (envOfC "stand_rows" (defScope s_stand_rows) s.heap.objs.size T.stand_rows.a cdv)).units + 1 < cLine := by omega
    have n1 := T.col.n "step" (by decide +kernel)
    have n2 := T.col.n "spots" (by decide +kernel)
    have n3 := T.col.n "wide" (by decide +kernel)
    have n4 := T.col.n "parts" (by decide +kernel)
    have hr1 := hr.mono (show 1 ≤ 2 by decide)
    refine ⟨_, pss_cons (ps_par3 (i := 3) (j := 4) (l := 5) rfl nd rfl rfl rfl (by decide) (by decide) (by decide) rfl rfl rfl (pa_cons (pe_ix (r := rIxT K) ix_tup (pe_ix (r := rIxT K) ix_tup (SlX.pe_propSl (E := E0) (pv 0) T.pro.c T.pro.qb.at_ T.pro.qb.get T.pro.qb.tk T.pro.qb.rc R1 hr (fun _ _ _ _ h => h.elim)) (pv 2) (fun _ _ => rfl)) pe_int (fun _ _ => rfl))
          (pa_cons (pe_call G3 hr1 (by rfl) T.tests_of.g T.tests_of.F.kp T.tests_of.b .nil pass0 (pa_cons (pv 0) (pa_cons (pv 2) pa_nil))) (pa_cons (pe_lst pa_nil) pa_nil))) (by rfl))
      (pss_cons (ps_for PassesOwn.never rfl (pi_range1 (by rfl) T.z.range (pa_cons (pe_fld (pv 1) (by rfl)) pa_nil)) (pg_name (i := 6) nd rfl (Or.inl rfl))
        (pss_cons (ps_setLc (i := 7) (own := [("column", 8)]) rfl nd rfl rfl (sw_true rfl rfl rfl (by decide +kernel)) (pi_range1 (by rfl) T.z.range (pa_cons (pe_op op_add (pe_fld (pv 1) (by rfl)) pe_int) pa_nil)) (blkOk_by (own := [("column", 8)]) (N := n_stand_rows) (sc := defScope s_stand_rows) (by decide +kernel))
            (fun _ _ _ _ _ => pg_name (i := 8) nd rfl (Or.inl rfl)) (fun _ _ _ _ _ => pts_nil) (fun _ _ _ _ _ => pe_int))
        (pss_cons (ps_expr (pe_meth (pv 1) T.col.c T.col.m G1 hr1 T.col.place_into.b .nil pass0 (pa_cons (pv 7) (pa_cons (pv 3) (pa_cons (pv 6) (pa_cons pe_int pa_nil))))))
        (pss_cons (ps_expr (pe_call G2 hr1 (by rfl) T.weight_into.g T.weight_into.F.kp T.weight_into.b .nil pass0 (pa_cons (pv 7) (pa_cons (pv 4) (pa_cons (pe_ix (r := rIxT K) ix_tup (pe_dget hu1 (pe_fld (pv 1) (by rfl)) (pv 2) (fun _ _ => rfl)) pe_int (fun _ _ => rfl)) (pa_cons (pv 6) (pa_cons (pe_fld (pv 1) (by rfl)) pa_nil)))))))
        (pss_one (ps_expr (pe_bm PySem.F.plainAttrs_list PySem.F.slot_list_append PySem.F.type_list_append mt_append (pv 5) (pa_cons (pv 7) pa_nil))))))))
      (pss_one (ps_ret (pv 5)))), ?_⟩
    have hC := hx.col
    have hg := hx.pg
    obtain ⟨dx, np, sp, bp, hs, hN, hS, qs, hq, hF⟩ := hx.pg
    have hbo := hx.ok.bs b hx.mem
    obtain ⟨bq, hbq, tp0, cp0, hbp, _⟩ := hF.at_ q.1 b hx.mb
    obtain ⟨pl1, pl2⟩ := place_at (hx.ok.pin b hx.mem).1
    obtain ⟨cw1, cw2, cw3, cw4⟩ := cols_at hx.mq hx.mb
    obtain ⟨tl1, tl2⟩ := tests_ok hx.ok hx.mem
    have hw := hx.wide
    have hnv := hx.ok.n3
    refine q_parPL (x := .str b.src) (Pr := fun v H' => ∃ p, v = .ref p ∧ TupOf FormP (testsL g b) p H') (ev_ixT (i := 0) (ev_ixT (ev_prop (ev_var rfl) hs fun H1 e1 Q2 q2 E2 => ⟨a, dx, _, .ref bp, rfl, slt_ex e1 hs, rfl, q2⟩) (ev_var rfl) hq (ref_at hbq)) ev_c hbp rfl)
      (fun H1 e1 Q2 q2 => (ea_cons (ev_var rfl) (ea_cons (ev_var rfl) ea_nil)) H1 e1 _ fun H2 e2 => ⟨a, g, q.1, b, rfl, lasts_pg _ _ _ _ (e1.trans e2) hg, hx.mb, by have := hx.ok.s3; omega, by have := hbo.few; omega, fun p H3 hp e3 h3 => q2 _ H3 (e2.trans e3) ⟨p, rfl, h3⟩⟩)
      (el_lst ea_nil (by decide)) fun v rp H1 H2 e1 hv hrp e2 h2 => ?_
    obtain ⟨tp, rfl, hT⟩ := hv
    have e02 := e1.trans e2
    refine q_for (ew_range (g.names.length + 1) (ea_cons (ev_step (lasts_col _ _ _ _ e02 hC) T.col.c n1 (ev_var rfl)) ea_nil) rfl (by omega))
      (fun i σ' H' => ∃ a6 a7 a8 ps, σ' = [some (.ref a), some (.ref c), some (.int (q.1 : Int)), some (.str b.src), some (.ref tp), some (.ref rp), a6, a7, a8] ∧ Ex H1 H' ∧ Mat H' rp ps ((List.range i).map (standRow (cpOf g) (wideL g idx) (brOf g b) q.2.1)))
      (fun H3 e3 _ => ⟨_, _, _, [], rfl, e2.trans e3, ⟨e3 rp _ h2, rfl, fun i hi => absurd hi (Nat.not_lt_zero i)⟩⟩) (fun _ _ _ _ => trivial) (fun i x σ' H3 H4 hi hP y => ?_) (fun σ' H3 hP => ?_)
    · obtain ⟨a6, a7, a8, ps, rfl, e3, hM⟩ := hP
      refine y_name y ?_
      have e03 := e1.trans e3
      refine q_asgL (xs := (zeros intN (wideL g idx + 1)).map V.int) ?_ fun ro H5 hro e5 h5 => ?_
      · rw [zeros_map]
        exact el_map (fun _ => .int 0) (ei_range (wideL g idx + 1) (ea_cons (ev_add (ev_wide (lasts_col _ _ _ _ e03 hC) T.col.c n3 (ev_var rfl)) ev_c) ea_nil) (by omega) (by omega)) (by omega) tg_name (fun _ => rfl) fun _ _ _ _ => ev_c
      refine q_place (ev_var rfl) (lasts_col _ _ _ _ (e03.trans e5) hC) (IL.ex (Ex.refl H5) h5) e5 hro pl1 (by rw [zeros_len]; have := spot_lt (g := g) (i := g.places.idxOf b.src) (part := i) pl2 hi; omega) (ea_cons (ev_var rfl) (ea_cons (ev_var rfl) (ea_cons (ev_var rfl) (ea_cons ev_c ea_nil)))) fun H6 e6 h6 => ?_
      have e06 := e03.trans e6
      refine q_do (ea_cons (ev_var rfl) (ea_cons (ev_var rfl) (ea_cons (ev_part (k := 0) (lasts_col _ _ _ _ e06 hC) T.col.c n4 (ev_var rfl) (ev_var rfl) hx.mq ev_c rfl) (ea_cons (ev_var rfl) (ea_cons (ev_step (lasts_col _ _ _ _ e06 hC) T.col.c n1 (ev_var rfl)) ea_nil))))) fun H7 e7 => ?_
      refine ⟨ro, tp, testsL g b, q.2.1, i, g.names.length + 1, _, rfl, h6.ex e7, lasts_tup lasts_form _ _ _ _ (e3.trans (ex_to_del (e6.trans e7) hro)) hT, fun t ht => by rw [tl2 t ht]; exact hi, by omega, by rw [placeInto_len, zeros_len]; omega, fun H8 e8 h8 => ?_⟩
      have e38 := ex_del_back e8 (e6.trans e7) hro
      refine s_app (hM.ex e38).at_ (ev_var rfl) (ev_var rfl) (by rw [List.length_map, hM.rows.len, List.length_map, List.length_range]; omega) fun H9 e9 => ⟨_, _, _, ps ++ [ro], rfl, Ex.mut ((e3.trans e38).trans e9) hrp, ?_⟩
      rw [List.range_succ, List.map_append]
      exact Mat.snoc hM (e38.trans e9) hro (h8.ex e9)
    · obtain ⟨a6, a7, a8, ps, rfl, e3, hM⟩ := hP
      exact s_ret (ev_var rfl) fun H4 e4 => k rp ps H4 (fresh_back e1 hrp) ((e1.trans e3).trans e4) (hM.ex e4)
end
end Fd
end

section
set_option Elab.async false
set_option linter.all false
set_option maxRecDepth 100000
set_option maxHeartbeats 4000000
/-! WI: fall_rows. -/
namespace FR
def lastRow (wide fall : Nat) : List Int := (((zeros intN (wide + 1)).set fall 1).set (fall + 1) 1).set wide 1
theorem fallRows_int (cp : CProg Int) (wide : Nat) (b : Br Int) (begin_ fall : Nat) : fallRows intN cp wide b begin_ fall = (List.range (cp.nv + 1)).map (fallRow intN cp wide b begin_ fall) ++ [lastRow wide fall] := rfl
theorem targetInto_len {cp : CProg Int} {b : Br Int} {part : Nat} : ∀ {n other : Nat} {row : List Int}, (targetInto intN cp b part n other row).length = row.length
  | 0, _, _ => rfl
  | n + 1, other, row => by
    show (targetInto intN cp b part n _ _).length = _
    rw [targetInto_len, placeInto_len]
theorem fallRow_len {cp : CProg Int} {wide : Nat} {b : Br Int} {begin_ fall part : Nat} : (fallRow intN cp wide b begin_ fall part).length = wide + 1 := by
  unfold fallRow
  show (if _ then _ else _ : List Int).length = _
  split
  · unfold subAt
    rw [List.length_set, weightInto_len, targetInto_len, placeInto_len, zeros_len]
  · rw [weightInto_len, targetInto_len, placeInto_len, zeros_len]
theorem behind_len (form : List Int) (changes : List (List Int)) : (behind intN form changes).length = changes.length + 1 := by
  rw [behind_int, List.length_append, List.length_take, List.length_map, List.length_range]
  show min _ _ + 1 = _
  omega
theorem unitAt_int (step other : Nat) : unitAt intN step other = (List.range step).map fun at_ => if at_ = other then (1 : Int) else 0 := rfl
theorem lastRow_len {wide fall : Nat} : (lastRow wide fall).length = wide + 1 := by
  unfold lastRow
  rw [List.length_set, List.length_set, List.length_set, zeros_len]
end FR
namespace Ew
open PySem PySem.Spec PyProof.Rows L2 Evl
section
variable {K : Fg} {σ : L2.St} {H H' : Hp} {ta tb te tx tv tk td ty to ti tc : TE} {td' : TA} {t u : TT} {x y z v w : V} {r : R2} {D : Ends} {tu tw tz : TS}
theorem ea_is {vs ws : List V} (h : EvA td' σ H vs) (e : vs = ws) : EvA td' σ H ws := by
  rw [← e]
  exact h
theorem q_unp4 {i j l m : Nat} {p : Addr} (h : Ev te σ H (.ref p)) (hp : H p = some (.tup [x, y, z, w])) (k : ∀ H1, Ex H H1 → tz D ((((σ.set i (some x)).set j (some y)).set l (some z)).set m (some w)) H1) : tSeq (tAsg te (gTup K 4 (gCons (gName i) (gCons (gName j) (gCons (gName l) (gCons (gName m) gNil)))))) tz D σ H :=
  h H (Ex.refl H) _ fun H1 e1 => ⟨p, _, rfl, st_of (e1 p _ hp), rfl, _, _, rfl, _, _, rfl, _, _, rfl, _, _, rfl, rfl, k _ e1⟩
theorem ev_ixTN {xs : List V} {i : Nat} (h : EvU ta σ H xs) (h2 : ∀ H1, Ex H H1 → Ev tb σ H1 (.int (i : Int))) (hi : xs[i]? = some v) : Ev (tOp (rIxT K) ta tb) σ H v := fun H1 e Q q =>
  h H1 e _ fun p H2 hp e2 hx => h2 H2 (e.trans e2) H2 (Ex.refl H2) _ fun H3 e3 => rv_ixT (st_of (e3 p _ hx)) (atI_nat hi) H3 (Ex.refl H3) Q fun H4 e4 => q H4 ((e2.trans e3).trans e4)
theorem q_tup4P {i j l m : Nat} {Pr : V → Hp → Prop} (h1 : EvP ta σ H Pr) (h2 : Ev tb σ H x) (h3 : Ev tc σ H y) (h4 : EvL td σ H []) (k : ∀ v p H1 H2, Ex H H1 → Pr v H1 → H1 p = none → Ex H1 H2 → H2 p = some (.lst []) → tz D ((((σ.set i (some v)).set j (some x)).set l (some y)).set m (some (.ref p))) H2) :
    tSeq (tAsg (tTup (tCons ta (tCons tb (tCons tc (tCons td tNil))))) (gTup K 4 (gCons (gName i) (gCons (gName j) (gCons (gName l) (gCons (gName m) gNil)))))) tz D σ H :=
  h1 H (Ex.refl H) _ fun v H1 e1 hv => h2 H1 e1 _ fun H2 e2 => h3 H2 (e1.trans e2) _ fun H3 e3 => h4 H3 ((e1.trans e2).trans e3) _ fun p H4 hp e4 hp4 => ⟨by show 4 ≤ sizeLine; decide, fun c hc => ⟨c, _, rfl, st_of upd_same, rfl, _, _, rfl, _, _, rfl, _, _, rfl, _, _, rfl, rfl,
    k v p H1 _ e1 hv (fresh_back (e2.trans e3) hp) (((e2.trans e3).trans e4).trans (Ex.new hc)) (by rw [upd_ne (ne_of_none hp4 hc)]; exact hp4)⟩⟩
/-- l[i], l[j], l[k] = x, y, z where only l changes -/
theorem q_set3 {B : Hp} {l : Addr} {xs : List V} {n1 n2 n3 : Nat} {t1 t2 t3 o1 o2 o3 : TE} (hl : H l = some (.lst xs)) (eB : Ex B H) (hB : B l = none) (hx : Ev ta σ H x) (hy : Ev tb σ H y) (hz : Ev tc σ H z)
    (w1 : ∀ H', Ex B H' → Ev o1 σ H' (.ref l)) (w2 : ∀ H', Ex B H' → Ev o2 σ H' (.ref l)) (w3 : ∀ H', Ex B H' → Ev o3 σ H' (.ref l)) (i1 : ∀ H', Ex B H' → Ev t1 σ H' (.int (n1 : Int))) (i2 : ∀ H', Ex B H' → Ev t2 σ H' (.int (n2 : Int))) (i3 : ∀ H', Ex B H' → Ev t3 σ H' (.int (n3 : Int)))
    (h1 : n1 < xs.length) (h2 : n2 < xs.length) (h3 : n3 < xs.length) (k : ∀ H', Ex B H' → H' l = some (.lst (((xs.set n1 x).set n2 y).set n3 z)) → tz D σ H') :
    tSeq (tAsg (tTup (tCons ta (tCons tb (tCons tc tNil)))) (gTup K 3 (gCons (gSub o1 t1 rSetL) (gCons (gSub o2 t2 rSetL) (gCons (gSub o3 t3 rSetL) gNil))))) tz D σ H :=
  hx H (Ex.refl H) _ fun Ha ea => hy Ha ea _ fun Hb eb => hz Hb (ea.trans eb) _ fun H1 ec => ⟨by show 3 ≤ sizeLine; decide, fun p hp => ⟨p, _, rfl, st_of upd_same, rfl, _, _, rfl, by
    have e1 := (ea.trans eb).trans ec
    have f1 : Ex B (upd H1 p (.tup [x, y, z])) := (eB.trans e1).trans (Ex.new hp)
    have npl : p ≠ l := fun z => by
      rw [z, e1 l _ hl] at hp
      cases hp
    have l1 : upd H1 p (.tup [x, y, z]) l = some (.lst xs) := by
      rw [upd_ne (Ne.symm npl)]
      exact e1 l _ hl
    generalize upd H1 p (.tup [x, y, z]) = H2 at f1 l1 ⊢
    refine w1 H2 f1 H2 (Ex.refl H2) _ fun H3 e3 => i1 H3 (f1.trans e3) H3 (Ex.refl H3) _ fun H4 e4 => ⟨l, xs, _, n1, rfl, rfl, (e3.trans e4) l _ l1, ixN_nat h1, _, _, rfl, ?_⟩
    have f4 : Ex B (upd H4 l (.lst (xs.set n1 x))) := Ex.mut ((f1.trans e3).trans e4) hB
    have l4 : upd H4 l (.lst (xs.set n1 x)) l = some (.lst (xs.set n1 x)) := upd_same
    generalize upd H4 l (.lst (xs.set n1 x)) = H5 at f4 l4 ⊢
    refine w2 H5 f4 H5 (Ex.refl H5) _ fun H6 e6 => i2 H6 (f4.trans e6) H6 (Ex.refl H6) _ fun H7 e7 => ⟨l, _, _, n2, rfl, rfl, (e6.trans e7) l _ l4, ixN_nat (by rw [List.length_set]; exact h2), _, _, rfl, ?_⟩
    have f7 : Ex B (upd H7 l (.lst ((xs.set n1 x).set n2 y))) := Ex.mut ((f4.trans e6).trans e7) hB
    have l7 : upd H7 l (.lst ((xs.set n1 x).set n2 y)) l = some (.lst ((xs.set n1 x).set n2 y)) := upd_same
    generalize upd H7 l (.lst ((xs.set n1 x).set n2 y)) = H8 at f7 l7 ⊢
    refine w3 H8 f7 H8 (Ex.refl H8) _ fun H9 e9 => i3 H9 (f7.trans e9) H9 (Ex.refl H9) _ fun H10 e10 => ⟨l, _, _, n3, rfl, rfl, (e9.trans e10) l _ l7, ixN_nat (by rw [List.length_set, List.length_set]; exact h3), rfl, ?_⟩
    exact k _ (Ex.mut ((f7.trans e9).trans e10) hB) upd_same⟩⟩
end
theorem Rows.append {H : Hp} {ps qs : List Addr} {T U : List (List Int)} (h : Rows H ps T) (h2 : Rows H qs U) : Rows H (ps ++ qs) (T ++ U) := by
  refine ⟨by rw [List.length_append, List.length_append, h.len, h2.len], fun i hi => ?_⟩
  rw [List.length_append] at hi
  by_cases hit : i < T.length
  · obtain ⟨p, h1, h3⟩ := h.row i hit
    refine ⟨p, by rw [List.getElem?_append_left (by rw [h.len]; exact hit)]; exact h1, ?_⟩
    rw [List.getD_eq_getElem?_getD, List.getElem?_append_left hit, ← List.getD_eq_getElem?_getD]
    exact h3
  · obtain ⟨p, h1, h3⟩ := h2.row (i - T.length) (by omega)
    refine ⟨p, by rw [List.getElem?_append_right (by rw [h.len]; omega), h.len]; exact h1, ?_⟩
    rw [List.getD_eq_getElem?_getD, List.getElem?_append_right (by omega), ← List.getD_eq_getElem?_getD]
    exact h3
theorem rows_one {H : Hp} {p : Addr} {r : List Int} (h : IL H p r) : Rows H [p] [r] := ⟨rfl, fun i hi => by
  have : i = 0 := by
    have : i < 1 := hi
    omega
  subst this
  exact ⟨p, rfl, h⟩⟩
end Ew
namespace Fd
open PySem PySem.Spec PyProof.Rows L2 Evl Ew Tx FR
section
variable {P : Program} {w : World} {K : PySem.W.Frag} {mg : Str → Option Value} {base : Heap}
theorem fit_mill {x : Int} (h : x.natAbs ≤ 1000000) : Fit x := by
  unfold Fit
  refine Nat.lt_of_le_of_lt h ?_
  decide +kernel
def sp_fall_rows (T : Txt K mg) : Sp := fun vs H Q _ => ∃ (a c : Addr) (g : Pg) (idx : List Nat) (q : Nat × Nat × Nat × Nat) (b : Brh), vs = [.ref a, .ref c, .int (q.1 : Int)] ∧ IxAt T a c g idx q b H ∧
  ∀ p ps H2, H p = none → Ex H H2 → Mat H2 p ps (fallRows intN (cpOf g) (wideL g idx) (brOf g b) q.2.2.1 q.2.2.2) → Q (.ref p) H2
theorem ok_fall_rows (T : Txt K mg) : FnOk P w K mg base CX0 3 T.fall_rows.a T.fall_rows.d p_fall_rows (sp_fall_rows T) := by
  have R1 := raw0 (ok_branches (P := P) (w := w) (base := base) T) T.pro.branches.b
  have G1 := ok_place_into (P := P) (w := w) (base := base) T
  have G2 := ok_weight_into (P := P) (w := w) (base := base) T
  have G3 := ok_tests_of (P := P) (w := w) (base := base) T
  have G4 := ok_behind (P := P) (w := w) (base := base) T
  refine T.fall_rows.F.ok sc_fall_rows (fun vs H Q E h => ?_) (fun cdv A outer s H vs Q E hr h => ?_)
  · obtain ⟨a, c, g, idx, q, b, rfl, _⟩ := h
    rfl
  · obtain ⟨a, c, g, idx, q, b, rfl, hx, k⟩ := h
    have nd := sc_fall_rows.nd
    have hu := hr.units
    have hu1 : (A.deeper (envOfC "fall_rows" (defScope s_fall_rows) s.heap.objs.size T.fall_rows.a cdv)).units + 1 < cLine := by omega
    have n1 := T.col.n "step" (by decide +kernel)
    have n2 := T.col.n "spots" (by decide +kernel)
    have n3 := T.col.n "wide" (by decide +kernel)
    have n4 := T.col.n "parts" (by decide +kernel)
    have hr1 := hr.mono (show 1 ≤ 2 by decide)
    refine ⟨_, pss_cons (ps_asg (pe_ix (r := rIxT K) ix_tup (SlX.pe_propSl (E := E0) (pv 0) T.pro.c T.pro.qb.at_ T.pro.qb.get T.pro.qb.tk T.pro.qb.rc R1 hr (fun _ _ _ _ h => h.elim)) (pv 2) (fun _ _ => rfl))
          (pg_tup rfl (pgs_cons (pg_name (i := 3) nd rfl (Or.inl rfl)) (pgs_cons (pg_name (i := 4) nd rfl (Or.inl rfl)) (pgs_cons (pg_name (i := 5) nd rfl (Or.inl rfl)) (pgs_cons (pg_name (i := 6) nd rfl (Or.inl rfl)) pgs_nil))))))
      (pss_cons (ps_asg (pe_tup (pa_cons (pe_call G3 hr1 (by rfl) T.tests_of.g T.tests_of.F.kp T.tests_of.b .nil pass0 (pa_cons (pv 0) (pa_cons (pv 2) pa_nil)))
            (pa_cons (pe_ix (r := rIxT K) ix_tup (pe_dget hu1 (pe_fld (pv 1) (by rfl)) (pv 2) (fun _ _ => rfl)) pe_int (fun _ _ => rfl)) (pa_cons (pe_ix (r := rIxT K) ix_tup (pe_dget hu1 (pe_fld (pv 1) (by rfl)) (pv 2) (fun _ _ => rfl)) pe_int (fun _ _ => rfl)) (pa_cons (pe_lst pa_nil) pa_nil)))))
          (pg_tup rfl (pgs_cons (pg_name (i := 7) nd rfl (Or.inl rfl)) (pgs_cons (pg_name (i := 8) nd rfl (Or.inl rfl)) (pgs_cons (pg_name (i := 9) nd rfl (Or.inl rfl)) (pgs_cons (pg_name (i := 10) nd rfl (Or.inl rfl)) pgs_nil))))))
      (pss_cons (ps_for PassesOwn.never rfl (pi_range1 (by rfl) T.z.range (pa_cons (pe_fld (pv 1) (by rfl)) pa_nil)) (pg_name (i := 11) nd rfl (Or.inl rfl))
        (pss_cons (ps_setLc (i := 12) (own := [("column", 16)]) rfl nd rfl rfl (sw_true rfl rfl rfl (by decide +kernel)) (pi_range1 (by rfl) T.z.range (pa_cons (pe_op op_add (pe_fld (pv 1) (by rfl)) pe_int) pa_nil)) (blkOk_by (own := [("column", 16)]) (N := n_fall_rows) (sc := defScope s_fall_rows) (by decide +kernel))
            (fun _ _ _ _ _ => pg_name (i := 16) nd rfl (Or.inl rfl)) (fun _ _ _ _ _ => pts_nil) (fun _ _ _ _ _ => pe_int))
        (pss_cons (ps_expr (pe_meth (pv 1) T.col.c T.col.m G1 hr1 T.col.place_into.b .nil pass0 (pa_cons (pv 12) (pa_cons (pv 3) (pa_cons (pv 11) (pa_cons pe_int pa_nil))))))
        (pss_cons (ps_for PassesOwn.never rfl (pi_range1 (by rfl) T.z.range (pa_cons (pe_fld (pv 1) (by rfl)) pa_nil)) (pg_name (i := 13) nd rfl (Or.inr rfl))
          (pss_cons (ps_setLc (i := 14) (own := [("at", 17)]) rfl nd rfl rfl (sw_true rfl rfl rfl (by decide +kernel)) (pi_range1 (by rfl) T.z.range (pa_cons (pe_fld (pv 1) (by rfl)) pa_nil)) (blkOk_by (own := [("at", 17)]) (N := n_fall_rows) (sc := defScope s_fall_rows) (by decide +kernel))
              (fun _ _ _ _ _ => pg_name (i := 17) nd rfl (Or.inl rfl)) (fun _ _ _ _ _ => pts_nil) (fun _ _ _ _ _ => pe_ifExp (pt_cmpR op_eq (pv 17) (pv 13) (nomark _)) pe_int pe_int))
          (pss_one (ps_expr (pe_meth (pv 1) T.col.c T.col.m G1 hr1 T.col.place_into.b .nil pass0 (pa_cons (pv 12) (pa_cons (pv 4) (pa_cons (pv 13) (pa_cons (pe_un un_neg (pe_ix (r := rIxT K) ix_tup (pe_call G4 hr1 (by rfl) T.behind.g T.behind.F.kp T.behind.b .nil pass0 (pa_cons (pv 14) (pa_cons (pv 6) pa_nil))) (pv 11) (fun _ _ => rfl))) pa_nil)))))))))
        (pss_cons (ps_expr (pe_call G2 hr1 (by rfl) T.weight_into.g T.weight_into.F.kp T.weight_into.b .nil pass0 (pa_cons (pv 12) (pa_cons (pv 7) (pa_cons (pv 8) (pa_cons (pv 11) (pa_cons (pe_fld (pv 1) (by rfl)) pa_nil)))))))
        (pss_cons (ps_if (pt_cmpR op_eq (pv 11) (pe_op op_sub (pe_fld (pv 1) (by rfl)) pe_int) (nomark _)) (pss_one (ps_augS (pv 12) (pv 9) Gap.get_list pe_int ip_sub set_list)) pss_nil)
        (pss_one (ps_expr (pe_bm PySem.F.plainAttrs_list PySem.F.slot_list_append PySem.F.type_list_append mt_append (pv 10) (pa_cons (pv 12) pa_nil))))))))))
      (pss_cons (ps_setLc (i := 15) (own := [("column", 16)]) rfl nd rfl rfl (sw_true rfl rfl rfl (by decide +kernel)) (pi_range1 (by rfl) T.z.range (pa_cons (pe_op op_add (pe_fld (pv 1) (by rfl)) pe_int) pa_nil)) (blkOk_by (own := [("column", 16)]) (N := n_fall_rows) (sc := defScope s_fall_rows) (by decide +kernel))
            (fun _ _ _ _ _ => pg_name (i := 16) nd rfl (Or.inl rfl)) (fun _ _ _ _ _ => pts_nil) (fun _ _ _ _ _ => pe_int))
      (pss_cons (ps_asg (pe_tup (pa_cons pe_int (pa_cons pe_int (pa_cons pe_int pa_nil)))) (pg_tup rfl (pgs_cons (pg_sub (pv 15) (pv 9) set_list) (pgs_cons (pg_sub (pv 15) (pe_op op_add (pv 9) pe_int) set_list) (pgs_cons (pg_sub (pv 15) (pe_fld (pv 1) (by rfl)) set_list) pgs_nil)))))
      (pss_one (ps_ret (pe_lst (StX.pa_star (pv 10) (pa_cons (pv 15) pa_nil))))))))), ?_⟩
    have hC := hx.col
    have hg := hx.pg
    obtain ⟨dx, np, sp, bp, hs, hN, hS, qs, hq, hF⟩ := hx.pg
    have hbo := hx.ok.bs b hx.mem
    obtain ⟨bq, hbq, tp0, cp0, hbp, hT0, hCh⟩ := hF.at_ q.1 b hx.mb
    obtain ⟨pl1, pl2⟩ := place_at (hx.ok.pin b hx.mem).1
    obtain ⟨tg1, tg2⟩ := place_at (hx.ok.pin b hx.mem).2
    obtain ⟨cw1, cw2, cw3, cw4⟩ := cols_at hx.mq hx.mb
    obtain ⟨tl1, tl2⟩ := tests_ok hx.ok hx.mem
    have hw := hx.wide
    have hnv := hx.ok.n3
    refine q_unp4 (ev_ixT (ev_prop (ev_var rfl) hs fun H1 e1 Q2 q2 E2 => ⟨a, dx, _, .ref bp, rfl, slt_ex e1 hs, rfl, q2⟩) (ev_var rfl) hq (ref_at hbq)) hbp fun H0 e0 => ?_
    refine q_tup4P (Pr := fun v H' => ∃ p, v = .ref p ∧ TupOf FormP (testsL g b) p H')
      (fun H1 e1 Q2 q2 => (ea_cons (ev_var rfl) (ea_cons (ev_var rfl) ea_nil)) H1 e1 _ fun H2 e2 => ⟨a, g, q.1, b, rfl, lasts_pg _ _ _ _ ((e0.trans e1).trans e2) hg, hx.mb, by have := hx.ok.s3; omega, by have := hbo.few; omega, fun p H3 hp e3 h3 => q2 _ H3 (e2.trans e3) ⟨p, rfl, h3⟩⟩)
      (ev_part (k := 1) (lasts_col _ _ _ _ e0 hC) T.col.c n4 (ev_var rfl) (ev_var rfl) hx.mq ev_c rfl) (ev_part (k := 2) (lasts_col _ _ _ _ e0 hC) T.col.c n4 (ev_var rfl) (ev_var rfl) hx.mq ev_c rfl) (el_lst ea_nil (by decide)) fun v rp H1 H2 e01 hv hrp e2 h2 => ?_
    obtain ⟨tp, rfl, hT⟩ := hv
    have e1 := e0.trans e01
    have e02 := e1.trans e2
    refine q_for (ew_range (g.names.length + 1) (ea_cons (ev_step (lasts_col _ _ _ _ e02 hC) T.col.c n1 (ev_var rfl)) ea_nil) rfl (by omega))
      (fun i σ' H' => ∃ a11 a12 a13 a14 a16 a17 ps, σ' = [some (.ref a), some (.ref c), some (.int (q.1 : Int)), some (.str b.src), some (.str b.tgt), some (.ref tp0), some (.ref cp0), some (.ref tp), some (.int (q.2.2.1 : Int)), some (.int (q.2.2.2 : Int)), some (.ref rp), a11, a12, a13, a14, none, a16, a17] ∧ Ex H1 H' ∧
        Mat H' rp ps ((List.range i).map (fallRow intN (cpOf g) (wideL g idx) (brOf g b) q.2.2.1 q.2.2.2)))
      (fun H3 e3 _ => ⟨_, _, _, _, _, _, [], rfl, e2.trans e3, ⟨e3 rp _ h2, rfl, fun i hi => absurd hi (Nat.not_lt_zero i)⟩⟩) (fun _ _ _ _ => trivial) (fun i x σ' H3 H4 hi hP y => ?_) (fun σ' H3 hP => ?_)
    · obtain ⟨a11, a12, a13, a14, a16, a17, ps, rfl, e3, hM⟩ := hP
      refine y_name y ?_
      have e03 := e1.trans e3
      refine q_asgL (xs := (zeros intN (wideL g idx + 1)).map V.int) ?_ fun ro H5 hro e5 h5 => ?_
      · rw [zeros_map]
        exact el_map (fun _ => .int 0) (ei_range (wideL g idx + 1) (ea_cons (ev_add (ev_wide (lasts_col _ _ _ _ e03 hC) T.col.c n3 (ev_var rfl)) ev_c) ea_nil) (by omega) (by omega)) (by omega) tg_name (fun _ => rfl) fun _ _ _ _ => ev_c
      refine q_place (ev_var rfl) (lasts_col _ _ _ _ (e03.trans e5) hC) (IL.ex (Ex.refl H5) h5) e5 hro pl1 (by rw [zeros_len]; have := spot_lt (g := g) (i := g.places.idxOf b.src) (part := i) pl2 hi; omega) (ea_cons (ev_var rfl) (ea_cons (ev_var rfl) (ea_cons (ev_var rfl) (ea_cons ev_c ea_nil)))) fun H6 e6 h6 => ?_
      -- the target's columns
      generalize hr0 : placeInto intN (g.names.length + 1) (zeros intN (wideL g idx + 1)) (g.places.idxOf b.src) i 1 = r0 at h6
      have hr0l : r0.length = wideL g idx + 1 := by rw [← hr0, placeInto_len, zeros_len]
      refine q_for (ew_range (g.names.length + 1) (ea_cons (ev_step (lasts_col _ _ _ _ (e03.trans e6) hC) T.col.c n1 (ev_var rfl)) ea_nil) rfl (by omega))
        (fun j σ' H' => ∃ a13 a14 a16 a17 rowj, σ' = [some (.ref a), some (.ref c), some (.int (q.1 : Int)), some (.str b.src), some (.str b.tgt), some (.ref tp0), some (.ref cp0), some (.ref tp), some (.int (q.2.2.1 : Int)), some (.int (q.2.2.2 : Int)), some (.ref rp), some (.int (i : Int)), some (.ref ro), a13, a14, none, a16, a17] ∧ Ex H3 H' ∧
          IL H' ro rowj ∧ rowj.length = wideL g idx + 1 ∧ targetInto intN (cpOf g) (brOf g b) i (g.names.length + 1 - j) j rowj = targetInto intN (cpOf g) (brOf g b) i (g.names.length + 1) 0 r0)
        (fun H7 e7 _ => ⟨_, _, _, _, r0, rfl, e6.trans e7, h6.ex e7, hr0l, rfl⟩) (fun _ _ _ _ => trivial) (fun j x σ' H7 H8 hj hP y => ?_) (fun σ' H7 hP => ?_)
      · obtain ⟨a13, a14, a16, a17, rowj, rfl, e7, h7, l7, t7⟩ := hP
        refine y_name y ?_
        have e07 := e03.trans e7
        have hun : (unitAt intN (g.names.length + 1) j).map V.int = (List.range (g.names.length + 1)).map fun at_ => V.int (if at_ = j then 1 else 0) := by
          rw [unitAt_int, List.map_map]
          rfl
        refine q_asgL (xs := (unitAt intN (g.names.length + 1) j).map V.int) ?_ fun un H9 hun2 e9 h9 => ?_
        · rw [hun]
          refine el_map (fun at_ => .int (if at_ = j then 1 else 0)) (ei_range (g.names.length + 1) (ea_cons (ev_step (lasts_col _ _ _ _ e07 hC) T.col.c n1 (ev_var rfl)) ea_nil) rfl (by omega)) (by omega) tg_name (fun _ => rfl) fun at_ H10 e10 hat => ?_
          refine ev_if (ev_eqI (ev_var rfl) (ev_var rfl)) (fun hb2 => ?_) (fun hb2 => ?_)
          · have h11 : (at_ : Int) = (j : Int) := of_decide_eq_true hb2
            rw [if_pos (by omega)]
            exact ev_c
          · have h11 : ¬ (at_ : Int) = (j : Int) := of_decide_eq_false hb2
            rw [if_neg (by omega)]
            exact ev_c
        have e79 := e7.trans e9
        have hbl : i < (behind intN (unitAt intN (g.names.length + 1) j) b.changes).length := by
          rw [behind_len, hbo.all]
          exact hi
        have hbv : Ev (tOp (rIxT K) (tCall sp_behind [] E0 (tCons (tVar 14) (tCons (tVar 6) tNil))) (tVar 11)) ([some (.ref a), some (.ref c), some (.int (q.1 : Int)), some (.str b.src), some (.str b.tgt), some (.ref tp0), some (.ref cp0), some (.ref tp), some (.int (q.2.2.1 : Int)), some (.int (q.2.2.2 : Int)), some (.ref rp), some (.int (i : Int)), some (.ref ro), some (.int (j : Int)), some (.ref un), none, a16, a17]) H9
            (.int ((behind intN (unitAt intN (g.names.length + 1) j) b.changes).getD i 0)) := ev_ixTN (xs := (behind intN (unitAt intN (g.names.length + 1) j) b.changes).map V.int) (fun H10 e10 Q2 q2 => (ea_cons (ev_var rfl) (ea_cons (ev_var rfl) ea_nil)) H10 e10 _ fun H11 e11 =>
              ⟨un, cp0, unitAt intN (g.names.length + 1) j, b.changes, g.names.length, rfl, IL.ex (e10.trans e11) h9, lasts_tup lasts_form _ _ _ _ ((((e1.trans e3).trans e79).trans e10).trans e11) hCh, hbo.all, by omega, by rw [unitAt_int, List.length_map, List.length_range], fun x hx2 => by
                obtain ⟨at_, _, rfl⟩ := List.mem_map.mp (by rw [unitAt_int] at hx2; exact hx2)
                show Fit (if at_ = j then 1 else 0)
                split
                · exact fit_lit 1 (by decide)
                · exact fit_lit 0 (by decide), fun r hr2 => ⟨(hbo.changes r hr2).1, fun x hx2 => fit_mill ((hbo.changes r hr2).2 x hx2)⟩, fun p H12 hp e12 h12 => q2 p H12 (fresh_back e11 hp) (e11.trans e12) h12⟩) (fun _ _ => ev_var rfl) (int_at hbl)
        have tj : g.names.length + 1 - j = (g.names.length + 1 - (j + 1)) + 1 := by omega
        rw [tj] at t7
        refine s_place (ev_var rfl) (lasts_col _ _ _ _ (e03.trans e79) hC) (h7.ex e9) e79 hro tg1 (by rw [l7]; have := spot_lt (g := g) (i := g.places.idxOf b.tgt) (part := j) tg2 hj; omega)
          (ea_cons (ev_var rfl) (ea_cons (ev_var rfl) (ea_cons (ev_var rfl) (ea_cons (ev_un hbv ru_neg) ea_nil)))) fun H10 e10 h10 => ⟨_, _, _, _, _, rfl, e10, h10, by rw [placeInto_len, l7], ?_⟩
        rw [← t7]
        show targetInto _ _ _ _ _ _ _ = targetInto intN (cpOf g) (brOf g b) i _ (j + 1) (placeInto intN _ rowj _ j (neg intN _))
        rw [FR.neg_int]
        rfl
      · obtain ⟨a13, a14, a16, a17, rowj, rfl, e7, h7, l7, t7⟩ := hP
        rw [Nat.sub_self] at t7
        have t7 : rowj = targetInto intN (cpOf g) (brOf g b) i (g.names.length + 1) 0 r0 := t7
        have e07 := e03.trans e7
        refine q_do (ea_cons (ev_var rfl) (ea_cons (ev_var rfl) (ea_cons (ev_var rfl) (ea_cons (ev_var rfl) (ea_cons (ev_step (lasts_col _ _ _ _ e07 hC) T.col.c n1 (ev_var rfl)) ea_nil))))) fun H8 e8 => ?_
        refine ⟨ro, tp, testsL g b, q.2.2.1, i, g.names.length + 1, rowj, rfl, h7.ex e8, lasts_tup lasts_form _ _ _ _ (e3.trans (ex_to_del (e7.trans e8) hro)) hT, fun t ht => by rw [tl2 t ht]; exact hi, by omega, by rw [l7]; omega, fun H9 e9 h9 => ?_⟩
        have e39 := ex_del_back e9 (e7.trans e8) hro
        have hfr : fallRow intN (cpOf g) (wideL g idx) (brOf g b) q.2.2.1 q.2.2.2 i = if i + 1 = g.names.length + 1 then (weightInto intN rowj (testsL g b) q.2.2.1 i (g.names.length + 1)).set q.2.2.2 ((weightInto intN rowj (testsL g b) q.2.2.1 i (g.names.length + 1)).getD q.2.2.2 0 - 1) else weightInto intN rowj (testsL g b) q.2.2.1 i (g.names.length + 1) := by
          rw [t7, ← hr0]
          rfl
        have fin : ∀ H10, Ex H3 H10 → IL H10 ro (fallRow intN (cpOf g) (wideL g idx) (brOf g b) q.2.2.1 q.2.2.2 i) → ∀ (D : Ends) (a13 a14 : Option V), (∀ σ' H', (∃ a11 a12 a13 a14 a16 a17 ps, σ' = [some (.ref a), some (.ref c), some (.int (q.1 : Int)), some (.str b.src), some (.str b.tgt), some (.ref tp0), some (.ref cp0), some (.ref tp), some (.int (q.2.2.1 : Int)), some (.int (q.2.2.2 : Int)), some (.ref rp), a11, a12, a13, a14, none, a16, a17] ∧ Ex H1 H' ∧
            Mat H' rp ps ((List.range (i + 1)).map (fallRow intN (cpOf g) (wideL g idx) (brOf g b) q.2.2.1 q.2.2.2))) → D.nx σ' H') → tDrop (tBM K "list" rAppend (tVar 10) (tCons (tVar 12) tNil)) D [some (.ref a), some (.ref c), some (.int (q.1 : Int)), some (.str b.src), some (.str b.tgt), some (.ref tp0), some (.ref cp0), some (.ref tp), some (.int (q.2.2.1 : Int)), some (.int (q.2.2.2 : Int)), some (.ref rp), some (.int (i : Int)), some (.ref ro), a13, a14, none, a16, a17] H10 := fun H10 e10 h10 D a13 a14 hD => by
          refine s_app (hM.ex e10).at_ (ev_var rfl) (ev_var rfl) (by rw [List.length_map, hM.rows.len, List.length_map, List.length_range]; omega) fun H11 e11 => hD _ _ ⟨_, _, _, _, _, _, ps ++ [ro], rfl, Ex.mut ((e3.trans e10).trans e11) hrp, ?_⟩
          rw [List.range_succ, List.map_append]
          exact Mat.snoc hM (e10.trans e11) hro (h10.ex e11)
        refine q_when (ev_eqI (ev_var rfl) (ev_sub (ev_step (lasts_col _ _ _ _ (e03.trans e39) hC) T.col.c n1 (ev_var rfl)) ev_c)) (fun hb2 H10 e10 => ?_) (fun hb2 H10 e10 => ?_)
        · have h11 : (i : Int) = ((g.names.length + 1 : Nat) : Int) - 1 := of_decide_eq_true hb2
          rw [if_pos (by omega)] at hfr
          refine s_augI (k := q.2.2.2) (h9.ex e10) (ev_var rfl) (ev_var rfl) (by rw [weightInto_len, l7]; omega) ev_c fun H11 e11 => ?_
          exact fin _ (Ex.mut ((e39.trans e10).trans e11) hro) (by rw [hfr]; exact upd_same) _ _ _ fun _ _ q => q
        · have h11 : ¬ (i : Int) = ((g.names.length + 1 : Nat) : Int) - 1 := of_decide_eq_false hb2
          rw [if_neg (by omega)] at hfr
          exact fin _ (e39.trans e10) (by rw [hfr]; exact h9.ex e10) _ _ _ fun _ _ q => q
    · obtain ⟨a11, a12, a13, a14, a16, a17, ps, rfl, e3, hM⟩ := hP
      have e03 := e1.trans e3
      refine q_asgL (xs := (zeros intN (wideL g idx + 1)).map V.int) ?_ fun lp H5 hlp e5 h5 => ?_
      · rw [zeros_map]
        exact el_map (fun _ => .int 0) (ei_range (wideL g idx + 1) (ea_cons (ev_add (ev_wide (lasts_col _ _ _ _ e03 hC) T.col.c n3 (ev_var rfl)) ev_c) ea_nil) (by omega) (by omega)) (by omega) tg_name (fun _ => rfl) fun _ _ _ _ => ev_c
      have hzl : ((zeros intN (wideL g idx + 1)).map V.int).length = wideL g idx + 1 := by rw [List.length_map, zeros_len]
      refine q_set3 (n1 := q.2.2.2) (n2 := q.2.2.2 + 1) (n3 := wideL g idx) h5 e5 hlp ev_c ev_c ev_c (fun _ _ => ev_var rfl) (fun _ _ => ev_var rfl) (fun _ _ => ev_var rfl) (fun _ _ => ev_var rfl) (fun _ _ => ev_is (ev_add (ev_var rfl) ev_c) rfl)
        (fun H' e' => ev_wide (lasts_col _ _ _ _ (e03.trans e') hC) T.col.c n3 (ev_var rfl)) (by omega) (by omega) (by omega) fun H6 e6 h6 => ?_
      have hM6 := hM.ex e6
      have hl6 : IL H6 lp (lastRow (wideL g idx) q.2.2.2) := by
        show H6 lp = _
        rw [h6]
        unfold lastRow
        rw [List.map_set, List.map_set, List.map_set]
      refine s_retL (xs := (ps ++ [lp]).map V.ref) (el_lst (ea_is (ea_starL (K := K) (ev_var rfl) hM6.at_ (ea_cons (ev_var rfl) ea_nil)) (by rw [List.map_append]; rfl)) (by rw [List.length_map, List.length_append, hM.rows.len, List.length_map, List.length_range]; show _ + 1 ≤ 100000; omega)) fun p H7 hp e7 h7 => ?_
      exact k p (ps ++ [lp]) H7 (fresh_back (e03.trans e6) hp) ((e03.trans e6).trans e7) ⟨h7, (hM6.ex e7).rows.append (rows_one (hl6.ex e7))⟩
end
end Fd
end

section
set_option Elab.async false
set_option linter.all false
set_option maxRecDepth 100000
set_option maxHeartbeats 4000000
/-! WJ: rank_rows, read_forms, Columns as a call. -/
namespace FR
theorem rankRows_snoc {cp : CProg Int} {wide : Nat} {q : Nat × Nat × Nat × Nat} : ∀ {l : List (Nat × Nat × Nat × Nat)}, rankRows intN cp wide (l ++ [q]) = rankRows intN cp wide l ++ rowsAt intN cp wide q
  | [] => by
    show rowsAt intN cp wide q ++ [] = [] ++ rowsAt intN cp wide q
    rw [List.append_nil, List.nil_append]
  | p :: l => by
    show rowsAt intN cp wide p ++ rankRows intN cp wide (l ++ [q]) = rowsAt intN cp wide p ++ rankRows intN cp wide l ++ _
    rw [rankRows_snoc, List.append_assoc]
theorem standRows_len {cp : CProg Int} {wide : Nat} {b : Br Int} {begin_ : Nat} : (standRows intN cp wide b begin_).length = cp.nv + 1 ∧ ∀ r ∈ standRows intN cp wide b begin_, r.length = wide + 1 := by
  rw [standRows_int]
  refine ⟨by rw [List.length_map, List.length_range], fun r hr => ?_⟩
  obtain ⟨i, _, rfl⟩ := List.mem_map.mp hr
  exact standRow_len
theorem fallRows_len {cp : CProg Int} {wide : Nat} {b : Br Int} {begin_ fall : Nat} : (fallRows intN cp wide b begin_ fall).length = cp.nv + 2 ∧ ∀ r ∈ fallRows intN cp wide b begin_ fall, r.length = wide + 1 := by
  rw [fallRows_int]
  refine ⟨by rw [List.length_append, List.length_map, List.length_range]; rfl, fun r hr => ?_⟩
  rcases List.mem_append.mp hr with z | z
  · obtain ⟨i, _, rfl⟩ := List.mem_map.mp z
    exact fallRow_len
  · rw [List.mem_singleton.mp z]
    exact lastRow_len
theorem rowsAt_len {cp : CProg Int} {wide : Nat} {q : Nat × Nat × Nat × Nat} : (rowsAt intN cp wide q).length ≤ 2 * cp.nv + 3 ∧ ∀ r ∈ rowsAt intN cp wide q, r.length = wide + 1 := by
  unfold rowsAt
  split
  · obtain ⟨a1, a2⟩ := standRows_len (cp := cp) (wide := wide) (b := ‹_›) (begin_ := q.2.1)
    obtain ⟨b1, b2⟩ := fallRows_len (cp := cp) (wide := wide) (b := ‹_›) (begin_ := q.2.2.1) (fall := q.2.2.2)
    refine ⟨by rw [List.length_append, a1, b1]; omega, fun r hr => ?_⟩
    rcases List.mem_append.mp hr with z | z
    · exact a2 r z
    · exact b2 r z
  · exact ⟨Nat.zero_le _, fun r hr => by cases hr⟩
theorem rankRows_len {cp : CProg Int} {wide : Nat} : ∀ {l : List (Nat × Nat × Nat × Nat)}, (rankRows intN cp wide l).length ≤ (2 * cp.nv + 3) * l.length ∧ ∀ r ∈ rankRows intN cp wide l, r.length = wide + 1
  | [] => ⟨Nat.zero_le _, fun r hr => by cases hr⟩
  | p :: l => by
    obtain ⟨a1, a2⟩ := rowsAt_len (cp := cp) (wide := wide) (q := p)
    obtain ⟨b1, b2⟩ := rankRows_len (cp := cp) (wide := wide) (l := l)
    refine ⟨?_, fun r hr => ?_⟩
    · show (rowsAt intN cp wide p ++ rankRows intN cp wide l).length ≤ (2 * cp.nv + 3) * (l.length + 1)
      rw [List.length_append, Nat.mul_add, Nat.mul_one]
      omega
    · rcases List.mem_append.mp hr with z | z
      · exact a2 r z
      · exact b2 r z
end FR
namespace Ew
open PySem PySem.Spec PyProof.Rows L2 Evl
section
variable {K : Fg} {σ : L2.St} {H H' : Hp} {ta tb te tx tv tk td ty to ti tc : TE} {t u : TT} {x y z v w : V} {r : R2} {D : Ends} {tu tw tz : TS}
/-- l.extend(a call that gives rows) -/
theorem s_extM {l : Addr} {ps : List Addr} {T U : List (List Int)} (hM : Mat H l ps T) (ha : Ev ta σ H (.ref l)) (h : EvP te σ H (fun v H' => ∃ p qs, v = .ref p ∧ Mat H' p qs U)) (hU : ∀ r ∈ U, r ≠ []) (hz : T.length + U.length ≤ 1000)
    (k : ∀ qs H1 H2, Ex H H1 → H2 = upd H1 l (.lst ((ps ++ qs).map V.ref)) → Mat H2 l (ps ++ qs) (T ++ U) → D.nx σ H2) : tDrop (tBM K "list" rExtend ta (tCons te tNil)) D σ H := ha H (Ex.refl H) _ fun H1 e1 =>
  ⟨Or.inl ⟨rfl, _, sq_of (e1 l _ hM.at_)⟩, h H1 e1 _ fun v H2 e2 ⟨p, qs, hv, hU2⟩ => by
    subst hv
    have hM2 := hM.ex (e1.trans e2)
    refine ⟨l, p, _, _, rfl, rfl, hM2.at_, hU2.at_, sz_of (by rw [List.length_map, List.length_map, hM.rows.len, hU2.rows.len]; omega), ?_⟩
    rw [← List.map_append]
    refine k qs H2 _ (e1.trans e2) rfl ⟨upd_same, ?_⟩
    have hr1 : Rows (upd H2 l (.lst ((ps ++ qs).map V.ref))) ps T := ⟨hM2.rows.len, fun i hi => by
      obtain ⟨a, a1, a2⟩ := hM2.rows.row i hi
      refine ⟨a, a1, ?_⟩
      show upd H2 l _ a = _
      rw [upd_ne (hM2.ne a1 a2)]
      exact a2⟩
    have hr2 : Rows (upd H2 l (.lst ((ps ++ qs).map V.ref))) qs U := ⟨hU2.rows.len, fun i hi => by
      obtain ⟨a, a1, a2⟩ := hU2.rows.row i hi
      refine ⟨a, a1, ?_⟩
      have nal : a ≠ l := fun z => by
        have h5 := hM2.at_
        rw [← z, a2.at] at h5
        have h6 := HO.lst.inj (Option.some.inj h5)
        have h7 : U.getD i [] ≠ [] := hU _ (by
          rw [List.getD_eq_getElem?_getD, List.getElem?_eq_getElem hi]
          exact List.getElem_mem hi)
        cases hu : U.getD i [] with
        | nil => exact h7 hu
        | cons b bs =>
          rw [hu] at h6
          cases ps with
          | nil => cases h6
          | cons c cs => cases h6
      show upd H2 l _ a = _
      rw [upd_ne nal]
      exact a2⟩
    exact hr1.append hr2⟩
theorem q_extM {l : Addr} {ps : List Addr} {T U : List (List Int)} (hM : Mat H l ps T) (ha : Ev ta σ H (.ref l)) (h : EvP te σ H (fun v H' => ∃ p qs, v = .ref p ∧ Mat H' p qs U)) (hU : ∀ r ∈ U, r ≠ []) (hz : T.length + U.length ≤ 1000)
    (k : ∀ qs H1 H2, Ex H H1 → H2 = upd H1 l (.lst ((ps ++ qs).map V.ref)) → Mat H2 l (ps ++ qs) (T ++ U) → tz D σ H2) : tSeq (tDrop (tBM K "list" rExtend ta (tCons te tNil))) tz D σ H := s_extM (D := { D with nx := tz D }) hM ha h hU hz k
end
theorem forms_upd {H : Hp} {a : Addr} {xs : List V} {o : HO} {ps : List Addr} {l : List (List Int)} (ha : H a = some (.lst xs)) (h : Each FormP H ps l) : Each FormP (upd H a o) ps l := ⟨h.len, fun i x hx => by
  obtain ⟨q, h1, h2⟩ := h.at_ i x hx
  refine ⟨q, h1, ?_⟩
  have h3 : H q = some (.tup (x.map V.int)) := h2
  have n : q ≠ a := fun z => by
    rw [z, ha] at h3
    cases h3
  show upd H a o q = _
  rw [upd_ne n]
  exact h3⟩
theorem each_one {H : Hp} {q : Addr} {r : List Int} (h : TupI H q r) : Each FormP H [q] [r] := ⟨rfl, fun i x hx => by
  cases i with
  | zero => exact ⟨q, rfl, by rw [← Option.some.inj hx]; exact h⟩
  | succ i => cases hx⟩
end Ew
namespace Fd
open PySem PySem.Spec PyProof.Rows L2 Evl Ew Tx FR
section
variable {P : Program} {w : World} {K : PySem.W.Frag} {mg : Str → Option Value} {base : Heap}
def sp_rank_rows (T : Txt K mg) : Sp := fun vs H Q _ => ∃ (a c ip : Addr) (g : Pg) (idx : List Nat), vs = [.ref a, .ref c, .ref ip] ∧ PgAt T.pro.C g a H ∧ PgOk g ∧ ColAt T.col.C g idx c H ∧ NL H ip idx ∧ idx.length ≤ 5 ∧ (∀ i ∈ idx, i < g.brs.length) ∧
  ∀ p ps H2, H p = none → Ex H H2 → Mat H2 p ps (rankRows intN (cpOf g) (wideL g idx) (colsOf g idx)) → Q (.ref p) H2
theorem ok_rank_rows (T : Txt K mg) : FnOk P w K mg base CX0 4 T.rank_rows.a T.rank_rows.d p_rank_rows (sp_rank_rows T) := by
  have G1 := ok_stand_rows (P := P) (w := w) (base := base) T
  have G2 := ok_fall_rows (P := P) (w := w) (base := base) T
  refine T.rank_rows.F.ok sc_rank_rows (fun vs H Q E h => ?_) (fun cdv A outer s H vs Q E hr h => ?_)
  · obtain ⟨a, c, ip, g, idx, rfl, _⟩ := h
    rfl
  · obtain ⟨a, c, ip, g, idx, rfl, hg, hok, hC, hip, hil, hix, k⟩ := h
    have nd := sc_rank_rows.nd
    refine ⟨_, pss_cons (ps_set (i := 3) nd rfl (Or.inl rfl) (pe_lst pa_nil))
      (pss_cons (ps_for PassesOwn.never rfl (pi_list (pv 2)) (pg_name (i := 4) nd rfl (Or.inl rfl))
        (pss_cons (ps_expr (pe_bm PySem.F.plainAttrs_list PySem.F.slot_list_extend PySem.F.type_list_extend mt_extend (pv 3) (pa_cons (pe_call G1 hr (by rfl) T.stand_rows.g T.stand_rows.F.kp T.stand_rows.b .nil pass0 (pa_cons (pv 0) (pa_cons (pv 1) (pa_cons (pv 4) pa_nil)))) pa_nil)))
        (pss_one (ps_expr (pe_bm PySem.F.plainAttrs_list PySem.F.slot_list_extend PySem.F.type_list_extend mt_extend (pv 3) (pa_cons (pe_call G2 hr (by rfl) T.fall_rows.g T.fall_rows.F.kp T.fall_rows.b .nil pass0 (pa_cons (pv 0) (pa_cons (pv 1) (pa_cons (pv 4) pa_nil)))) pa_nil))))))
      (pss_one (ps_ret (pv 3)))), ?_⟩
    have hfst : (colsOf g idx).map (·.1) = idx := lay_fst
    have hcl : (colsOf g idx).length = idx.length := by
      rw [← List.length_map (f := fun q : Nat × Nat × Nat × Nat => q.1), hfst]
    refine q_asgL (el_lst ea_nil (by decide)) fun rp H1 hrp e1 h1 => ?_
    have hI := ew_list (K := K) (tl := tVar 2) (σ := (start n_rank_rows [.ref a, .ref c, .ref ip]).set 3 (some (.ref rp))) (ev_var rfl) (e1 ip _ hip.at)
    rw [List.length_map] at hI
    refine q_for hI (fun i σ' H' => ∃ a4 ps, σ' = [some (.ref a), some (.ref c), some (.ref ip), some (.ref rp), a4] ∧ Ex H H' ∧ Mat H' rp ps (rankRows intN (cpOf g) (wideL g idx) ((colsOf g idx).take i)))
      (fun H2 e2 _ => ⟨_, [], rfl, e1.trans e2, ⟨e2 rp _ h1, rfl, fun i hi => absurd hi (Nat.not_lt_zero i)⟩⟩) (fun _ _ _ ⟨_, _, _, e, _⟩ => e ip _ hip.at) (fun i x σ' H2 H3 hi hP y => ?_) (fun σ' H2 hP => ?_)
    · obtain ⟨a4, ps, rfl, e2, hM⟩ := hP
      refine y_name y ?_
      have hci : i < (colsOf g idx).length := by omega
      have hq1 : ((colsOf g idx)[i]).1 = idx[i] := by
        have h5 : ((colsOf g idx).map (·.1))[i]? = idx[i]? := by rw [hfst]
        rw [List.getElem?_map, List.getElem?_eq_getElem hci, List.getElem?_eq_getElem hi] at h5
        exact Option.some.inj h5
      have hqm : (colsOf g idx)[i] ∈ colsOf g idx := List.getElem_mem hci
      have htk : (colsOf g idx).take (i + 1) = (colsOf g idx).take i ++ [(colsOf g idx)[i]] := by
        rw [List.take_succ, List.getElem?_eq_getElem hci]
        rfl
      have ha : atV (idx.map fun (n : Nat) => V.int (n : Int)) i = .int (((colsOf g idx)[i]).1 : Nat) := by
        rw [atV_of (nat_at hi), hq1, List.getD_eq_getElem?_getD, List.getElem?_eq_getElem hi]
        rfl
      rw [ha]
      have hbi : ((colsOf g idx)[i]).1 < g.brs.length := by
        rw [hq1]
        exact hix _ (List.getElem_mem hi)
      generalize (colsOf g idx)[i] = q at hqm htk hbi ⊢
      have hb : g.brs[q.1]? = some g.brs[q.1] := List.getElem?_eq_getElem hbi
      generalize g.brs[q.1] = b at hb
      have hrl := (rankRows_len (cp := cpOf g) (wide := wideL g idx) (l := (colsOf g idx).take i)).1
      have hsl := standRows_len (cp := cpOf g) (wide := wideL g idx) (b := brOf g b) (begin_ := q.2.1)
      have hfl := fallRows_len (cp := cpOf g) (wide := wideL g idx) (b := brOf g b) (begin_ := q.2.2.1) (fall := q.2.2.2)
      have hnv := hok.n3
      have hnv2 : (cpOf g).nv = g.names.length := rfl
      rw [List.length_take, hnv2] at hrl
      rw [hnv2] at hsl hfl
      have hrl2 : (2 * g.names.length + 3) * min i (colsOf g idx).length ≤ 9 * 5 := Nat.mul_le_mul (by omega) (by omega)
      refine q_extM hM (ev_var rfl) (U := standRows intN (cpOf g) (wideL g idx) (brOf g b) q.2.1) (fun H4 e4 Q2 q2 => (ea_cons (ev_var rfl) (ea_cons (ev_var rfl) (ea_cons (ev_var rfl) ea_nil))) H4 e4 _ fun H5 e5 =>
        ⟨a, c, g, idx, q, b, rfl, ⟨lasts_pg _ _ _ _ ((e2.trans e4).trans e5) hg, hok, lasts_col _ _ _ _ ((e2.trans e4).trans e5) hC, hil, hqm, hb⟩, fun p qs H6 _ e6 h6 => q2 _ H6 (e5.trans e6) ⟨p, qs, rfl, h6⟩⟩) (fun r hr2 z => by
          have := hsl.2 r hr2
          rw [z] at this
          cases this) (by omega) fun qs H4 H5 e4 h5 hM5 => ?_
      have hrH : H rp = none := hrp
      have e5 : Ex H H5 := by
        rw [h5]
        exact Ex.mut (e2.trans e4) hrH
      refine s_extM hM5 (ev_var rfl) (U := fallRows intN (cpOf g) (wideL g idx) (brOf g b) q.2.2.1 q.2.2.2) (fun H6 e6 Q2 q2 => (ea_cons (ev_var rfl) (ea_cons (ev_var rfl) (ea_cons (ev_var rfl) ea_nil))) H6 e6 _ fun H7 e7 =>
        ⟨a, c, g, idx, q, b, rfl, ⟨lasts_pg _ _ _ _ ((e5.trans e6).trans e7) hg, hok, lasts_col _ _ _ _ ((e5.trans e6).trans e7) hC, hil, hqm, hb⟩, fun p qs H8 _ e8 h8 => q2 _ H8 (e7.trans e8) ⟨p, qs, rfl, h8⟩⟩) (fun r hr2 z => by
          have := hfl.2 r hr2
          rw [z] at this
          cases this) (by rw [List.length_append, hsl.1, hfl.1]; omega) fun qs2 H6 H7 e6 h7 hM7 => ?_
      refine ⟨_, ps ++ qs ++ qs2, rfl, ?_, ?_⟩
      · rw [h7]
        exact Ex.mut (e5.trans e6) hrH
      · rw [htk, rankRows_snoc]
        have hra : rowsAt intN (cpOf g) (wideL g idx) q = standRows intN (cpOf g) (wideL g idx) (brOf g b) q.2.1 ++ fallRows intN (cpOf g) (wideL g idx) (brOf g b) q.2.2.1 q.2.2.2 := by
          unfold rowsAt
          rw [cpOf_at hb]
        rw [hra, ← List.append_assoc]
        exact hM7
    · obtain ⟨a4, ps, rfl, e2, hM⟩ := hP
      rw [← hcl, List.take_length] at hM
      exact s_ret (ev_var rfl) fun H3 e3 => k rp ps H3 hrp (e2.trans e3) (hM.ex e3)
/-- the forms of all places -/
def formsL (g : Pg) (tops : List Int) : List (List Int) := (List.range g.places.length).map (formOf intN (g.names.length + 1) tops)
def sp_read_forms (T : Txt K mg) : Sp := fun vs H Q _ => ∃ (a c tp : Addr) (g : Pg) (idx : List Nat) (tops : List Int), vs = [.ref a, .ref c, .ref tp] ∧ PgAt T.pro.C g a H ∧ PgOk g ∧ ColAt T.col.C g idx c H ∧ TupI H tp tops ∧ wide0 (cpOf g) ≤ tops.length ∧
  ∀ p H2, H p = none → Ex H H2 → TupOf FormP (formsL g tops) p H2 → Q (.ref p) H2
theorem ok_read_forms (T : Txt K mg) : FnOk P w K mg base CX0 4 T.read_forms.a T.read_forms.d p_read_forms (sp_read_forms T) := by
  have R2 := raw0 (ok_places (P := P) (w := w) (base := base) T) T.pro.places.b
  refine T.read_forms.F.ok sc_read_forms (fun vs H Q E h => ?_) (fun cdv A outer s H vs Q E hr h => ?_)
  · obtain ⟨a, c, tp, g, idx, tops, rfl, _⟩ := h
    rfl
  · obtain ⟨a, c, tp, g, idx, tops, rfl, hg, hok, hC, ht, htl, k⟩ := h
    have nd := sc_read_forms.nd
    have hu := hr.units
    have hu1 : (A.deeper (envOfC "read_forms" (defScope s_read_forms) s.heap.objs.size T.read_forms.a cdv)).units + 1 < cLine := by omega
    have n1 := T.col.n "step" (by decide +kernel)
    have n2 := T.col.n "spots" (by decide +kernel)
    refine ⟨_, pss_cons (ps_set (i := 3) nd rfl (Or.inl rfl) (pe_lst pa_nil))
      (pss_cons (ps_for PassesOwn.never rfl (pi_tup (SlX.pe_propSl (E := E0) (pv 0) T.pro.c T.pro.qp.at_ T.pro.qp.get T.pro.qp.tk T.pro.qp.rc R2 hr (fun _ _ _ _ h => h.elim))) (pg_name (i := 4) nd rfl (Or.inl rfl))
        (pss_cons (ps_asg (pe_tup (pa_cons (pe_dget hu1 (pe_fld (pv 1) (by rfl)) (pv 4) (fun _ _ => rfl)) (pa_cons (pe_fld (pv 1) (by rfl)) pa_nil))) (pg_tup rfl (pgs_cons (pg_name (i := 5) nd rfl (Or.inr rfl)) (pgs_cons (pg_name (i := 6) nd rfl (Or.inr rfl)) pgs_nil))))
        (pss_one (ps_expr (pe_bm PySem.F.plainAttrs_list PySem.F.slot_list_append PySem.F.type_list_append mt_append (pv 3) (pa_cons (pe_callTy (r := rTupS K) call_tuple_of (by rfl) T.z.tuple (by decide +kernel) (pa_cons (pe_lc (own := [("part", 7)]) (by rfl) nd (pi_range1 (by rfl) T.z.range (pa_cons (pv 6) pa_nil)) (blkOk_by (own := [("part", 7)]) (N := n_read_forms) (sc := defScope s_read_forms) (by decide +kernel))
            (fun _ _ _ _ _ => pg_name (i := 7) nd rfl (Or.inl rfl)) (fun _ _ _ _ _ => pts_nil)
            (fun _ _ _ _ _ => pe_op op_sub (pe_ix (r := rIxT K) ix_tup (pv 2) (pe_op op_add (pv 5) (pv 7)) (fun _ _ => rfl)) (pe_ix (r := rIxT K) ix_tup (pv 2) (pe_op op_add (pe_op op_add (pv 5) (pv 6)) (pv 7)) (fun _ _ => rfl)))) pa_nil)) pa_nil))))))
      (pss_one (ps_ret (pe_callTy (r := rTupS K) call_tuple_of (by rfl) T.z.tuple (by decide +kernel) (pa_cons (pv 3) pa_nil))))), ?_⟩
    obtain ⟨dx, vs, hs⟩ := Slt_of hg
    have hpl := places_le hok
    have hnv := hok.n3
    refine q_asgL (el_lst ea_nil (by decide)) fun fl H1 hfl e1 h1 => ?_
    refine q_forU (xs := g.places.map V.str) (eu_prop (ev_var rfl) (slt_ex e1 hs) fun H2 e2 Q2 q2 => ⟨a, g, rfl, lasts_pg _ _ _ _ (e1.trans e2) hg, hok, q2⟩)
      (fun pl i σ' H' => ∃ a4 a5 a6 a7 ps, σ' = [some (.ref a), some (.ref c), some (.ref tp), some (.ref fl), a4, a5, a6, a7] ∧ Ex H H' ∧ H' pl = some (.tup (g.places.map V.str)) ∧ H' fl = some (.lst (ps.map V.ref)) ∧ Each FormP H' ps ((List.range i).map (formOf intN (g.names.length + 1) tops)) ∧ pl ≠ fl)
      (fun pl H2 hp e2 h2 => ⟨_, _, _, _, [], rfl, e1.trans e2, h2, e2 fl _ h1, ⟨rfl, fun i x hx => by cases hx⟩, Ne.symm (ne_of_none h1 hp)⟩) (fun _ _ _ _ ⟨_, _, _, _, _, _, _, h, _⟩ => h) (fun pl i x σ' H2 H3 hi hP y => ?_) (fun pl σ' H2 hP => ?_)
    · obtain ⟨a4, a5, a6, a7, ps, rfl, e2, hp2, hf2, hE, npf⟩ := hP
      rw [List.length_map] at hi
      refine y_name y ?_
      rw [atV_str hi]
      have hxi : g.places[i]? = some g.places[i] := List.getElem?_eq_getElem hi
      refine q_tup2 (ea_cons (ev_spot (lasts_col _ _ _ _ e2 hC) T.col.c n2 (ev_var rfl) (ev_var rfl) hxi) (ea_cons (ev_step (lasts_col _ _ _ _ e2 hC) T.col.c n1 (ev_var rfl)) ea_nil)) fun H4 e4 => ?_
      refine s_appU (xs := ps.map V.ref) (ys := (formOf intN (g.names.length + 1) tops i).map V.int) (e4 fl _ hf2) (ev_var rfl) (eu_tupN ?_) (by rw [List.length_map, hE.len, List.length_map, List.length_range]; omega) fun q H5 hq e5 h5 => ?_
      · have es : (formOf intN (g.names.length + 1) tops i).map V.int = (List.range (g.names.length + 1)).map fun part => V.int (tops.getD (2 * i * (g.names.length + 1) + part) 0 - tops.getD (2 * i * (g.names.length + 1) + (g.names.length + 1) + part) 0) := by
          unfold formOf
          rw [List.map_map]
          rfl
        rw [es]
        refine el_map (fun part => .int (tops.getD (2 * i * (g.names.length + 1) + part) 0 - tops.getD (2 * i * (g.names.length + 1) + (g.names.length + 1) + part) 0)) (ei_range (g.names.length + 1) (ea_cons (ev_var rfl) ea_nil) rfl (by omega)) (by omega) tg_name (fun _ => rfl) fun part H5 e5 hpt => ?_
        have hsl := spot_lt hi hpt
        have htl2 : 2 * (g.names.length + 1) * g.places.length ≤ tops.length := htl
        have ht5 := ((e2.trans e4).trans e5) tp _ ht
        exact ev_sub (ev_ixT (i := 2 * i * (g.names.length + 1) + part) (ev_var rfl) (ev_is (ev_add (ev_var rfl) (ev_var rfl)) (congrArg V.int (by omega))) ht5 (int_at (by omega)))
          (ev_ixT (i := 2 * i * (g.names.length + 1) + (g.names.length + 1) + part) (ev_var rfl) (ev_is (ev_add (ev_add (ev_var rfl) (ev_var rfl)) (ev_var rfl)) (congrArg V.int (by omega))) ht5 (int_at (by omega)))
      · refine ⟨_, _, _, _, ps ++ [q], rfl, Ex.mut ((e2.trans e4).trans e5) hfl, by rw [upd_ne npf]; exact (e4.trans e5) pl _ hp2, by rw [upd_same, List.map_append]; rfl, ?_, npf⟩
        rw [List.range_succ, List.map_append]
        exact (forms_upd ((e4.trans e5) fl _ hf2) (hE.ex lasts_form (e4.trans e5))).append (forms_upd ((e4.trans e5) fl _ hf2) (each_one h5))
    · obtain ⟨a4, a5, a6, a7, ps, rfl, e2, hp2, hf2, hE, npf⟩ := hP
      rw [List.length_map] at hE
      exact s_retU (eu_tupL (ev_var rfl) hf2) fun p H3 hp e3 h3 => k p H3 (fresh_back e2 hp) (e2.trans e3) ⟨ps, h3, hE.ex lasts_form e3⟩
/-- Columns(program, indexes) -/
theorem ev_Columns (T : Txt K mg) {σ : L2.St} {H : Hp} {t : TA} {a ip : Addr} {g : Pg} {idx : List Nat} (h : EvA t σ H [.ref a, .ref ip]) (hg : PgAt T.pro.C g a H) (hok : PgOk g) (hip : NL H ip idx) (hnd : idx.Nodup) (hil : idx.length ≤ 5) (hix : ∀ i ∈ idx, i < g.brs.length) {E : XK} :
    EvP (tMake T.col.C (sp_Columns_init T.col.C T.pro.C) [] E t) σ H (fun v H' => ∃ c, v = .ref c ∧ ColAt T.col.C g idx c H') := fun H1 e1 Q q =>
  h H1 e1 _ fun H2 e2 => fun x dx hx hd ne => by
    have e3 : Ex H2 (del (upd (upd H2 dx (.own x)) x (.ins T.col.C dx [])) x) := fun b o hb => by
      have n1 : b ≠ x := ne_of_none hb hx
      have n2 : b ≠ dx := ne_of_none hb hd
      rw [del_ne n1, upd_ne n1, upd_ne n2]
      exact hb
    have e03 := (e1.trans e2).trans e3
    exact ⟨x, dx, a, ip, g, idx, rfl, upd_same, lasts_pg _ _ _ _ e03 hg, hok, hip.ex e03, hnd, hil, hix, fun H4 e4 h4 => ⟨rfl, q _ H4 ((e2.trans e3).trans e4) ⟨x, rfl, h4⟩⟩⟩
end
end Fd
end

section
set_option Elab.async false
set_option linter.all false
set_option maxRecDepth 100000
set_option maxHeartbeats 4000000
/-! WK: least_of at the form 0, is_empty, dead_of. -/
namespace FR
theorem isDead_some {tests : List (List Int)} {many : Nat} {d : Bool} (h : isDead intN tests many = some d) : ∃ r, most intN (testRows intN tests many) (List.replicate (2 * many + tests.length) 0) = some r ∧ d = r.isNone := by
  obtain ⟨r, h1, h2⟩ := Option.bind_eq_some_iff.mp h
  exact ⟨r, h1, (Option.some.inj h2).symm⟩
def testRow (tests : List (List Int)) (many at_ : Nat) : List Int := (tests.getD at_ []).take many ++ (((tests.getD at_ []).take many).map (fun x => -x) ++ ((List.range tests.length).map (fun o => if o = at_ then -1 else 0) ++ [-((tests.getD at_ []).getD many 0)]))
theorem testRows_int (tests : List (List Int)) (many : Nat) : testRows intN tests many = (List.range tests.length).map (testRow tests many) := by
  unfold testRows
  refine List.map_congr_left fun i _ => ?_
  unfold testRow
  have h : neg intN = fun x => -x := funext FR.neg_int
  rw [h, List.append_assoc, List.append_assoc]
  rfl
theorem testRow_len {tests : List (List Int)} {many at_ : Nat} (h : (tests.getD at_ []).length = many + 1) : (testRow tests many at_).length = 2 * many + tests.length + 1 := by
  unfold testRow
  rw [List.length_append, List.length_append, List.length_append, List.length_map, List.length_map, List.length_range, List.length_take, h]
  show min many (many + 1) + (min many (many + 1) + (tests.length + 1)) = _
  omega
end FR
namespace Ew
open PySem PySem.Spec PyProof.Rows L2 Evl
section
variable {K : Fg} {σ : L2.St} {H H' : Hp} {ta tb te tx tv tk td ty to ti tc : TE} {t u : TT} {x y z v w : V} {r : R2} {D : Ends} {tu tw tz : TS}
theorem ea_starP {tr : TA} {xs ys : List V} (h : EvP te σ H (fun v H' => ∃ p, v = .ref p ∧ H' p = some (.tup xs))) (hr : EvA tr σ H ys) : EvA (StX.tStar K te tr) σ H (xs ++ ys) := fun H1 e Q q =>
  h H1 e _ fun v H2 e2 ⟨p, hv, hp⟩ => ⟨p, xs, hv, .inl (st_of hp), hr H2 (e.trans e2) _ fun H3 e3 => q H3 (e2.trans e3)⟩
theorem ei_tupP {tl : TE} {xs : List V} (h : EvP tl σ H (fun v H' => ∃ p, v = .ref p ∧ H' p = some (.tup xs))) : EvI (iTup K tl) σ H xs.length (YFn (atV xs)) := fun H1 e R q =>
  h H1 e _ fun v H2 e2 ⟨a, hv, hx⟩ => ⟨a, hv, ⟨xs, st_of hx⟩, q _ H2 e2 (walk_tup.mono (fun H3 e3 => st_of (e3 a _ hx)) fun i H x H' _ _ y => ⟨y.1, (atV_of y.2).symm⟩)⟩
/-- [-part for part in ..] -/
theorem neg_map {r : List Int} {n : Nat} (h : r.length = n) : (r.map fun x => -x).map V.int = (List.range n).map fun i => V.int (-(r.getD i 0)) := by
  rw [map_range_row (by rw [List.length_map, h])]
  refine List.map_congr_left fun i hi => ?_
  have hi2 := List.mem_range.mp hi
  rw [List.getD_eq_getElem?_getD, List.getElem?_map, List.getD_eq_getElem?_getD (l := r), List.getElem?_eq_getElem (by omega)]
  rfl
end
end Ew
namespace Fd
open PySem PySem.Spec PyProof.Rows L2 Evl Ew Tx FR
section
variable {P : Program} {w : World} {K : PySem.W.Frag} {mg : Str → Option Value} {base : Heap}
def sp_least0 : Sp := fun vs H Q _ => ∃ (tp fp : Addr) (tests : List (List Int)) (many : Nat) (d : Bool), vs = [.ref tp, .ref fp] ∧ TupOf FormP tests tp H ∧ IL H fp (List.replicate (many + 1) 0) ∧ many ≤ 10 ∧ tests.length ≤ 10 ∧ (∀ t ∈ tests, t.length = many + 1) ∧ isDead intN tests many = some d ∧
  (d = true → ∀ H2, Ex H H2 → Q .non H2) ∧ (d = false → (∀ H2, Ex H H2 → Q (.str "endless") H2) ∧ ∀ p H2, Ex H H2 → (∃ xs, H2 p = some (.tup xs)) → Q (.ref p) H2)
theorem ok_least_of (T : Txt K mg) : FnOk P w K mg base CX0 5 T.least_of.a T.least_of.d p_least_of sp_least0 := by
  have G1 := ok_most (P := P) (w := w) (base := base) T
  have G2 := ok_lowest (P := P) (w := w) (base := base) T
  refine T.least_of.F.ok sc_least_of (fun vs H Q E h => ?_) (fun cdv A outer s H vs Q E hr h => ?_)
  · obtain ⟨tp, fp, tests, many, d, rfl, _⟩ := h
    rfl
  · obtain ⟨tp, fp, tests, many, d, rfl, ⟨ps, ht, hT⟩, hf, hm, htn, htl, hd, kT, kF⟩ := h
    have nd := sc_least_of.nd
    obtain ⟨tE, hE⟩ := T.i.ENDLESS
    refine ⟨_, pss_cons (ps_asg (pe_tup (pa_cons (pe_op op_sub (pe_callB (r := rLenS K) call_len_seq (by rfl) T.z.len PySem.boot_len (pa_cons (pv 1) pa_nil)) pe_int) (pa_cons (pe_lst pa_nil) pa_nil))) (pg_tup rfl (pgs_cons (pg_name (i := 2) nd rfl (Or.inr rfl)) (pgs_cons (pg_name (i := 3) nd rfl (Or.inl rfl)) pgs_nil))))
      (pss_cons (ps_for PassesOwn.never rfl (Gap.pi_enumT (by rfl) T.z.enumerate (pa_cons (pv 0) pa_nil)) (pg_tup rfl (pgs_cons (pg_name (i := 4) nd rfl (Or.inr rfl)) (pgs_cons (pg_name (i := 5) nd rfl (Or.inl rfl)) pgs_nil)))
        (pss_cons (ps_setLc (i := 6) (own := [("other", 12)]) rfl nd rfl rfl (sw_true rfl rfl rfl (by decide +kernel)) (pi_range1 (by rfl) T.z.range (pa_cons (pe_callB (r := rLenS K) call_len_seq (by rfl) T.z.len PySem.boot_len (pa_cons (pv 0) pa_nil)) pa_nil)) (blkOk_by (own := [("other", 12)]) (N := n_least_of) (sc := defScope s_least_of) (by decide +kernel))
            (fun _ _ _ _ _ => pg_name (i := 12) nd rfl (Or.inl rfl)) (fun _ _ _ _ _ => pts_nil) (fun _ _ _ _ _ => pe_ifExp (pt_cmpR op_eq (pv 12) (pv 4) (nomark _)) (pe_un un_neg pe_int) pe_int))
        (pss_one (ps_expr (pe_bm PySem.F.plainAttrs_list PySem.F.slot_list_append PySem.F.type_list_append mt_append (pv 3) (pa_cons (pe_lst (StX.pa_star (pe_slice (r := rSlA K) sl_tupA (pv 5) po_none (po_some (pv 2)))
            (StX.pa_star (pe_lc (own := [("part", 13)]) (by rfl) nd (pi_tup (pe_slice (r := rSlA K) sl_tupA (pv 5) po_none (po_some (pv 2)))) (blkOk_by (own := [("part", 13)]) (N := n_least_of) (sc := defScope s_least_of) (by decide +kernel))
                (fun _ _ _ _ _ => pg_name (i := 13) nd rfl (Or.inl rfl)) (fun _ _ _ _ _ => pts_nil) (fun _ _ _ _ _ => pe_un un_neg (pv 13)))
            (StX.pa_star (pv 6) (pa_cons (pe_un un_neg (pe_ix (r := rIxT K) ix_tup (pv 5) (pv 2) (fun _ _ => rfl))) pa_nil))))) pa_nil))))))
      (pss_cons (ps_set (i := 7) nd rfl (Or.inl rfl) (pe_lst (StX.pa_star (pe_lc (own := [("part", 13)]) (by rfl) nd (pi_list (pe_slice (r := rSlL K) sl_list (pv 1) po_none (po_some (pv 2)))) (blkOk_by (own := [("part", 13)]) (N := n_least_of) (sc := defScope s_least_of) (by decide +kernel))
                (fun _ _ _ _ _ => pg_name (i := 13) nd rfl (Or.inl rfl)) (fun _ _ _ _ _ => pts_nil) (fun _ _ _ _ _ => pe_un un_neg (pv 13)))
            (StX.pa_star (pe_slice (r := rSlL K) sl_list (pv 1) po_none (po_some (pv 2)))
            (StX.pa_star (pe_lc (own := [("test", 5)]) (by rfl) nd (pi_tup (pv 0)) (blkOk_by (own := [("test", 5)]) (N := n_least_of) (sc := defScope s_least_of) (by decide +kernel))
                (fun _ _ _ _ _ => pg_name (i := 5) nd rfl (Or.inl rfl)) (fun _ _ _ _ _ => pts_nil) (fun _ _ _ _ _ => pe_int)) pa_nil)))))
      (pss_cons (ps_set (i := 8) nd rfl (Or.inl rfl) (pe_call G1 hr (by rfl) T.most.g T.most.F.kp T.most.b .nil pass0 (pa_cons (pv 3) (pa_cons (pv 7) pa_nil))))
      (pss_cons (ps_if (pt_cmpR op_isN (pv 8) pe_non (nomark _)) (pss_one (ps_ret pe_non)) pss_nil)
      (pss_cons (ps_if (pt_cmpR op_eq (pe_callB (r := rLenS K) call_len_seq (by rfl) T.z.len PySem.boot_len (pa_cons (pv 8) pa_nil)) pe_int (nomark _)) (pss_one (ps_ret (C8.pe_gc (v := .str "endless") (by rfl) ⟨_, hE, ⟨_, rfl⟩⟩))) pss_nil)
      (pss_cons (ps_asg (pv 8) (pg_tup rfl (pgs_cons (pg_name (i := 9) nd rfl (Or.inr rfl)) (pgs_cons (pg_name (i := 10) nd rfl (Or.inl rfl)) pgs_nil))))
      (pss_cons (ps_set (i := 11) nd rfl (Or.inl rfl) (pe_callB (r := rSum K) (cr_sum rfl) (by rfl) T.z.sum (by decide +kernel) (pa_cons (pe_lc (own := [("k", 14)]) (by rfl) nd (pi_range1 (by rfl) T.z.range (pa_cons (pv 2) pa_nil)) (blkOk_by (own := [("k", 14)]) (N := n_least_of) (sc := defScope s_least_of) (by decide +kernel))
          (fun _ _ _ _ _ => pg_name (i := 14) nd rfl (Or.inl rfl)) (fun _ _ _ _ _ => pts_nil)
          (fun _ _ _ _ _ => pe_op op_mulW (pe_ix (r := rIxL K) ix_list (pv 1) (pv 14) (fun _ _ => rfl)) (pe_op op_sub (pe_ix (r := rIxT K) ix_tup (pv 9) (pv 14) (fun _ _ => rfl)) (pe_ix (r := rIxT K) ix_tup (pv 9) (pe_op op_add (pv 2) (pv 14)) (fun _ _ => rfl))))) pa_nil)))
      (pss_one (ps_ret (pe_call G2 (hr.mono (by decide)) (by rfl) T.lowest.g T.lowest.F.kp T.lowest.b .nil pass0 (pa_cons (pe_op op_add (pv 11) (pe_op op_mulW (pe_ix (r := rIxL K) ix_list (pv 1) (pv 2) (fun _ _ => rfl)) (pv 10))) (pa_cons (pv 10) pa_nil)))))))))))), ?_⟩
    obtain ⟨r, hmo, hdr⟩ := isDead_some hd
    refine q_tup2L (x := .int (many : Int)) (ev_is (ev_sub (ev_len (ev_var rfl) (sq_of hf.at)) ev_c) (congrArg V.int (by rw [List.length_map, List.length_replicate]; omega))) (el_lst ea_nil (by decide)) fun rp H1 hrp e1 h1 => ?_
    have hI := ew_enumT (K := K) (ta := tCons (tVar 0) tNil) (σ := ((start n_least_of [.ref tp, .ref fp]).set 2 (some (.int (many : Int)))).set 3 (some (.ref rp))) (ea_cons (ev_var rfl) ea_nil) (e1 tp _ ht)
    rw [List.length_map, hT.len] at hI
    refine q_for hI (fun i σ' H' => ∃ a4 a5 a6 qs, σ' = [some (.ref tp), some (.ref fp), some (.int (many : Int)), some (.ref rp), a4, a5, a6, none, none, none, none, none, none, none, none] ∧ Ex H H' ∧ Mat H' rp qs ((List.range i).map (testRow tests many)))
      (fun H2 e2 _ => ⟨_, _, _, [], rfl, e1.trans e2, ⟨e2 rp _ h1, rfl, fun i hi => absurd hi (Nat.not_lt_zero i)⟩⟩) (fun _ _ _ ⟨_, _, _, _, _, e, _⟩ => e tp _ ht) (fun i x σ' H2 H3 hi hP y => ?_) (fun σ' H2 hP => ?_)
    · obtain ⟨a4, a5, a6, qs, rfl, e2, hM⟩ := hP
      refine y_pair y fun H4 e4 _ => ?_
      have e04 := e2.trans e4
      obtain ⟨q, hq, hfq⟩ := (hT.ex lasts_form e04).at' [] hi
      have hq4 : TupI H4 q (tests.getD i []) := hfq
      rw [atV_ref hq]
      have htl2 : (tests.getD i []).length = many + 1 := htl _ (getD_mem hi)
      refine q_asgL (xs := (List.range tests.length).map fun o => V.int (if o = i then -1 else 0)) (el_map (fun o => .int (if o = i then -1 else 0)) (ei_range tests.length (ea_cons (ev_is (ev_lenT (ev_var rfl) (e04 tp _ ht)) (by rw [List.length_map, hT.len])) ea_nil) rfl (by omega)) (by omega) tg_name (fun _ => rfl) fun o H5 e5 ho => ?_) fun sp H5 hsp e5 h5 => ?_
      · refine ev_if (ev_eqI (ev_var rfl) (ev_var rfl)) (fun hb2 => ?_) (fun hb2 => ?_)
        · have h11 : (o : Int) = (i : Int) := of_decide_eq_true hb2
          rw [if_pos (by omega)]
          exact ev_neg1
        · have h11 : ¬ (o : Int) = (i : Int) := of_decide_eq_false hb2
          rw [if_neg (by omega)]
          exact ev_c
      have hq5 := e5 q _ hq4.at
      have hsl : ∀ {H6 : Hp}, Ex H5 H6 → EvP (tSl (rSlA K) (tVar 5) tNoPart (tPart (tVar 2))) ([some (.ref tp), some (.ref fp), some (.int (many : Int)), some (.ref rp), some (.int (i : Int)), some (.ref q), some (.ref sp), none, none, none, none, none, none, none, none]) H6 (fun v H' => ∃ p, v = .ref p ∧ H' p = some (.tup (((tests.getD i []).take many).map V.int))) := fun e6 => by
        have h7 := ep_slA (K := K) (te := tVar 5) (tl := tNoPart) (th := tPart (tVar 2)) (σ := [some (.ref tp), some (.ref fp), some (.int (many : Int)), some (.ref rp), some (.int (i : Int)), some (.ref q), some (.ref sp), none, none, none, none, none, none, none, none]) (lo := none) (hi := some (many : Int)) (ev_var rfl) eo_none (eo_some (ev_var rfl)) (e6 q _ hq5)
        rw [cutV_to, ← List.map_take] at h7
        exact h7
      have htk : ((tests.getD i []).take many).length = many := by
        rw [List.length_take, htl2]
        omega
      have hI2 := ei_tupP (K := K) (hsl (Ex.refl H5))
      rw [List.length_map, htk] at hI2
      have hneg := el_map (te := tUn (rU fun i => .int (-i)) (tVar 13)) (vs := [13]) (fun j => .int (-(((tests.getD i []).take many).getD j 0))) hI2 (by omega) (tg_name (j := 13)) (fun _ => rfl) (fun j H6 e6 hj => ev_un (ev_var (by rw [atV_int (by omega)]; rfl)) ru_neg)
      rw [← neg_map htk] at hneg
      have hrow : EvL (tLst (StX.tStar K (tSl (rSlA K) (tVar 5) tNoPart (tPart (tVar 2))) (StX.tStar K (tLc (iTup K (tSl (rSlA K) (tVar 5) tNoPart (tPart (tVar 2)))) (gName 13) tYes (tUn (rU fun i => .int (-i)) (tVar 13)) [13]) (StX.tStar K (tVar 6) (tCons (tUn (rU fun i => .int (-i)) (tOp (rIxT K) (tVar 5) (tVar 2))) tNil)))))
          ([some (.ref tp), some (.ref fp), some (.int (many : Int)), some (.ref rp), some (.int (i : Int)), some (.ref q), some (.ref sp), none, none, none, none, none, none, none, none]) H5 ((testRow tests many i).map V.int) := by
        have hlen := testRow_len htl2
        refine el_lst (ea_is (ea_starP (hsl (Ex.refl H5)) (ea_starN hneg (ea_starL (ev_var rfl) h5 (ea_cons (ev_un (ev_ixT (i := many) (ev_var rfl) (ev_var rfl) hq5 (int_at (by omega))) ru_neg) ea_nil)))) ?_) (by rw [List.length_map, hlen]; omega)
        unfold testRow
        rw [List.map_append, List.map_append, List.map_append, List.map_map (l := List.range tests.length)]
        rfl
      refine s_appL (e5 rp _ (e4 rp _ hM.at_)) (ev_var rfl) hrow (by rw [List.length_map, hM.rows.len, List.length_map, List.length_range]; omega) fun p H6 hp e6 h6 => ⟨_, _, _, qs ++ [p], rfl, Ex.mut ((e04.trans e5).trans e6) hrp, ?_⟩
      rw [List.range_succ, List.map_append]
      exact Mat.snoc hM ((e4.trans e5).trans e6) (fresh_back (e4.trans e5) hp) h6
    · obtain ⟨a4, a5, a6, qs, rfl, e2, hM⟩ := hP
      rw [← testRows_int] at hM
      have hf2 := hf.ex e2
      refine q_asgL (xs := (List.replicate (2 * many + tests.length) (0 : Int)).map V.int) ?_ fun gp H3 hgp e3 h3 => ?_
      · have hsl : EvL (tSl (rSlL K) (tVar 1) tNoPart (tPart (tVar 2))) ([some (.ref tp), some (.ref fp), some (.int (many : Int)), some (.ref rp), a4, a5, a6, none, none, none, none, none, none, none, none]) H2 ((List.replicate many (0 : Int)).map V.int) := by
          have h7 := el_sl (K := K) (te := tVar 1) (tl := tNoPart) (th := tPart (tVar 2)) (σ := [some (.ref tp), some (.ref fp), some (.int (many : Int)), some (.ref rp), a4, a5, a6, none, none, none, none, none, none, none, none]) (lo := none) (hi := some (many : Int)) (ev_var rfl) eo_none (eo_some (ev_var rfl)) (sq_of hf2.at)
          rw [cutV_to, ← List.map_take, List.take_replicate, Nat.min_eq_left (Nat.le_succ many)] at h7
          exact h7
        have hI2 := ei_listN (K := K) hsl
        rw [List.length_map, List.length_replicate] at hI2
        have hneg := el_map (te := tUn (rU fun i => .int (-i)) (tVar 13)) (vs := [13]) (fun j => .int (-((List.replicate many (0 : Int)).getD j 0))) hI2 (by omega) (tg_name (j := 13)) (fun _ => rfl) (fun j H6 e6 hj => ev_un (ev_var (by rw [atV_int (by rw [List.length_replicate]; exact hj)]; rfl)) ru_neg)
        rw [← neg_map List.length_replicate] at hneg
        have hI3 := ei_tup (K := K) (tl := tVar 0) (σ := [some (.ref tp), some (.ref fp), some (.int (many : Int)), some (.ref rp), a4, a5, a6, none, none, none, none, none, none, none, none]) (ev_var rfl) (e2 tp _ ht)
        rw [List.length_map, hT.len] at hI3
        have hz := el_map (te := tC (.int 0)) (vs := [5]) (fun _ => .int 0) hI3 (by omega) (tg_name (j := 5)) (fun _ => rfl) (fun j H6 e6 hj => ev_c)
        refine el_lst (ea_is (ea_starN hneg (ea_starN hsl (ea_starN hz ea_nil))) ?_) (by rw [List.length_map, List.length_replicate]; omega)
        rw [List.map_replicate, List.map_replicate, List.map_replicate, List.map_const', List.length_range, List.append_nil, List.map_replicate]
        show List.replicate many (V.int 0) ++ (List.replicate many (V.int 0) ++ List.replicate tests.length (V.int 0)) = _
        rw [List.replicate_append_replicate, List.replicate_append_replicate]
        congr 1
        omega
      have e03 := e2.trans e3
      refine q_call (ea_cons (ev_var rfl) (ea_cons (ev_var rfl) ea_nil)) fun H4 e4 => ?_
      refine ⟨rp, gp, qs, testRows intN tests many, List.replicate (2 * many + tests.length) 0, r, rfl, hM.ex (e3.trans e4), IL.ex e4 h3, fun row hrow => ?_, by rw [testRows_int, List.length_map, List.length_range]; omega, by rw [List.length_replicate]; omega, hmo, fun hr2 H5 e5 => ?_, fun hr2 p H5 hp e5 h5 => ?_, fun tops b hr2 htl2 htf hb0 hbf p a H5 hp ha e5 ha5 hp5 => ?_⟩
      · rw [testRows_int] at hrow
        obtain ⟨i, hi, rfl⟩ := List.mem_map.mp hrow
        rw [List.length_replicate]
        exact testRow_len (htl _ (getD_mem (List.mem_range.mp hi)))
      · have hdt : d = true := by rw [hdr, hr2]; rfl
        exact q_yes (ev_isN (ev_var rfl)) rfl fun H6 e6 => s_ret ev_c fun H7 e7 => kT hdt H7 ((((e03.trans e4).trans e5).trans e6).trans e7)
      · have hdf : d = false := by rw [hdr, hr2]; rfl
        refine q_skip (ev_isN (ev_var rfl)) rfl fun H6 e6 => ?_
        exact q_yes (ev_eqI (ev_lenT (ev_var rfl) (e6 p _ h5)) ev_c) rfl fun H7 e7 => s_ret ev_c fun H8 e8 => (kF hdf).1 H8 (((((e03.trans e4).trans e5).trans e6).trans e7).trans e8)
      · have hdf : d = false := by rw [hdr, hr2]; rfl
        rw [List.length_replicate] at htl2
        have e05 := (e03.trans e4).trans e5
        refine q_skip (ev_isN (ev_var rfl)) rfl fun H6 e6 => ?_
        refine q_skip (ev_eqI (ev_lenT (ev_var rfl) (e6 p _ hp5)) ev_c) rfl fun H7 e7 => ?_
        refine q_unp2 (ev_var rfl) ((e6.trans e7) p _ hp5) fun H8 e8 => ?_
        have ha8 := ((e6.trans e7).trans e8) a _ ha5
        have e08 := ((e05.trans e6).trans e7).trans e8
        have hf8 := hf.ex e08
        have hz0 : ∀ k, (List.replicate (many + 1) (0 : Int)).getD k 0 = 0 := fun k => by
          rw [List.getD_eq_getElem?_getD, List.getElem?_replicate]
          split <;> rfl
        refine q_asg (ev_sumN (ns := (List.range many).map fun k => 0 * (tops.getD k 0 - tops.getD (many + k) 0)) ?_) fun H9 e9 => ?_
        · rw [List.map_map]
          refine el_map (fun k => .int (0 * (tops.getD k 0 - tops.getD (many + k) 0))) (ei_range many (ea_cons (ev_var rfl) ea_nil) rfl (by omega)) (by omega) tg_name (fun _ => rfl) fun k H9 e9 hk => ?_
          refine ev_mulW (ev_is (ev_ixL (i := k) (ev_var rfl) (ev_var rfl) (hf8.ex e9).at (int_at (by rw [List.length_replicate]; omega))) (congrArg V.int (hz0 k))) (ev_sub (ev_ixT (i := k) (ev_var rfl) (ev_var rfl) (e9 a _ ha8) (int_at (by omega))) (ev_ixT (i := many + k) (ev_var rfl) (ev_is (ev_add (ev_var rfl) (ev_var rfl)) rfl) (e9 a _ ha8) (int_at (by omega)))) ?_
          exact mul_fw (fw_fit (fit_lit 0 (by decide))) (fw_sub (htf _ (mem_getD (by omega))) (htf _ (mem_getD (by omega))))
        · refine s_retC (ea_cons (ev_add (ev_var rfl) (ev_mulW (ev_is (ev_ixL (i := many) (ev_var rfl) (ev_var rfl) (hf8.ex e9).at (int_at (by rw [List.length_replicate]; omega))) (congrArg V.int (hz0 many))) (ev_var rfl) (mul_fit (fit_lit 0 (by decide)) hbf))) (ea_cons (ev_var rfl) ea_nil)) fun H10 e10 => ⟨_, b, rfl, hb0, hbf, fun q H11 hq e11 h11 => (kF hdf).2 q H11 (((e08.trans e9).trans e10).trans e11) ⟨_, h11⟩⟩
end
end Fd
end

section
set_option Elab.async false
set_option linter.all false
set_option maxRecDepth 100000
set_option maxHeartbeats 4000000
/-! WL: is_empty, dead_of, plain_rank. -/
namespace Tx
open PySem L2
abbrev q_plain2 : Scope := match stOf s_plain_rank 2 with
  | .Return (some (.Tuple (_ :: e :: _) _ _)) _ => lcSc (arg0 e)
  | _ => lcSc (.Constant .none 0 ⟨0, 0, 0, 0⟩)
end Tx
namespace Ew
open PySem PySem.Spec PyProof.Rows L2 Evl
section
variable {K : Fg} {σ : L2.St} {H H' : Hp} {ta tb te tx tv tk td ty to ti tc : TE} {t u : TT} {x y z v w : V} {r : R2} {D : Ends} {tu tw tz : TS}
theorem ev_isNP {d : Bool} (h : EvP te σ H (fun v _ => decide (v = .non) = d)) : Ev (tOp (fun x y H Q => y = .non ∧ Q (.bl (decide (x = .non))) H) te (tC .non)) σ H (.bl d) := fun H1 e Q q =>
  h H1 e _ fun v H2 e2 hv => ⟨rfl, by
    rw [hv]
    exact q H2 e2⟩
theorem ev_lenOwn {C a dx : Addr} {vs : List (Option V)} {sp : Sp} {E : XK} {n : Nat} (h : Ev te σ H (.ref a)) (hs : SlX.Slt H a C dx vs) (hn : n ≤ 1000) (hsp : SpV sp [.ref a] H (.int (n : Int))) : Ev (tCB (Gap.rLenOwn C sp E) (tCons te tNil)) σ H (.int (n : Int)) := fun H1 e Q q =>
  h H1 e _ fun H2 e2 => ⟨a, dx, vs, rfl, slt_ex (e.trans e2) hs, hsp H2 (e.trans e2) _ (fun H3 e3 => ⟨(n : Int), rfl, by omega, by omega, q H3 (e2.trans e3)⟩) E⟩
/-- return (e, tuple([..])) where the list's items are made -/
theorem s_retXT {n : Nat} {o : Nat → HO} (h1 : Ev ta σ H x) (h2 : EvLN te σ H n o) (k : ∀ (p tp : Addr) (qs : List Addr) (H2 : Hp), H p = none → Ex H H2 → H2 p = some (.tup [x, .ref tp]) → H2 tp = some (.tup (qs.map V.ref)) → qs.length = n → (∀ i, i < n → ∃ q, qs[i]? = some q ∧ H2 q = some (o i)) → D.rt (.ref p) H2) :
    tRet (tTup (tCons ta (tCons (tCB (rTupS K) (tCons te tNil)) tNil))) D σ H :=
  h1 H (Ex.refl H) _ fun H1 e1 => h2 H1 e1 _ fun lp qs H2 hlp e2 hlq hql hqr => ⟨lp, _, rfl, .inl ⟨sq_of hlq, fun tp htp => ⟨by show 2 ≤ sizeLine; decide, fun p hp => by
    have ntp : tp ≠ p := ne_of_none (H := upd H2 tp (.tup (qs.map V.ref))) upd_same hp
    refine k p tp qs _ (fresh_back ((e1.trans e2).trans (Ex.new htp)) hp) (((e1.trans e2).trans (Ex.new htp)).trans (Ex.new hp)) upd_same (by rw [upd_ne ntp]; exact upd_same) hql fun i hi => ?_
    obtain ⟨q, q1, q2, q3⟩ := hqr i hi
    exact ⟨q, q1, ((Ex.new htp).trans (Ex.new hp)) q _ q3⟩⟩⟩⟩
theorem s_retP {P : V → Hp → Prop} (h : EvP te σ H P) (k : ∀ v H1, Ex H H1 → P v H1 → D.rt v H1) : tRet te D σ H := h H (Ex.refl H) _ fun v H1 e hv => k v H1 e hv
end
end Ew
namespace Fd
open PySem PySem.Spec PyProof.Rows L2 Evl Ew Tx FR
section
variable {P : Program} {w : World} {K : PySem.W.Frag} {mg : Str → Option Value} {base : Heap}
def sp_is_empty : Sp := fun vs H Q _ => ∃ (tp : Addr) (tests : List (List Int)) (many : Nat) (d : Bool), vs = [.ref tp, .int (many : Int)] ∧ TupOf FormP tests tp H ∧ many ≤ 10 ∧ tests.length ≤ 10 ∧ (∀ t ∈ tests, t.length = many + 1) ∧ isDead intN tests many = some d ∧ RetV (.bl d) H Q
theorem ok_is_empty (T : Txt K mg) : FnOk P w K mg base CX0 6 T.is_empty.a T.is_empty.d p_is_empty sp_is_empty := by
  have G1 := ok_least_of (P := P) (w := w) (base := base) T
  refine T.is_empty.F.ok sc_is_empty (fun vs H Q E h => ?_) (fun cdv A outer s H vs Q E hr h => ?_)
  · obtain ⟨tp, tests, many, d, rfl, _⟩ := h
    rfl
  · obtain ⟨tp, tests, many, d, rfl, hT, hm, htn, htl, hd, k⟩ := h
    have nd := sc_is_empty.nd
    refine ⟨_, pss_one (ps_ret (pe_cmpR op_isN (pe_call G1 hr (by rfl) T.least_of.g T.least_of.F.kp T.least_of.b .nil pass0 (pa_cons (pv 0) (pa_cons (pe_lc (own := [("part", 2)]) (by rfl) nd (pi_range1 (by rfl) T.z.range (pa_cons (pe_op op_add (pv 1) pe_int) pa_nil)) (blkOk_by (own := [("part", 2)]) (N := n_is_empty) (sc := defScope s_is_empty) (by decide +kernel))
            (fun _ _ _ _ _ => pg_name (i := 2) nd rfl (Or.inl rfl)) (fun _ _ _ _ _ => pts_nil) (fun _ _ _ _ _ => pe_int)) pa_nil))) pe_non (nomark _))), ?_⟩
    refine s_ret (ev_isNP fun H1 e1 Q2 q2 => ?_) k
    have hz : (List.replicate (many + 1) (0 : Int)).map V.int = (List.range (many + 1)).map fun _ => V.int 0 := by
      rw [List.map_replicate, List.map_const', List.length_range]
    have hlc := el_map (te := tC (.int 0)) (vs := [2]) (σ := start n_is_empty [.ref tp, .int (many : Int)]) (H := H1) (fun _ => .int 0) (ei_range (ta := tCons (tOp (rI0 fun i j => .int (i + j)) (tVar 1) (tC (.int 1))) tNil) (many + 1) (ea_cons (ev_add (ev_var rfl) ev_c) ea_nil) rfl (by omega)) (by omega) (tg_name (j := 2)) (fun _ => rfl) (fun j H6 e6 hj => ev_c)
    rw [← hz] at hlc
    refine ⟨.ref tp, rfl, hlc H1 (Ex.refl H1) _ fun fp H2 hfp e2 h2 => ⟨tp, fp, tests, many, d, rfl, lasts_tup lasts_form _ _ _ _ (e1.trans e2) hT, h2, hm, htn, htl, hd, fun hdt H3 e3 => q2 _ H3 (e2.trans e3) (by rw [hdt]; rfl), fun hdf => ⟨fun H3 e3 => q2 _ H3 (e2.trans e3) (by rw [hdf]; rfl), fun p H3 e3 _ => q2 _ H3 (e2.trans e3) (by rw [hdf]; rfl)⟩⟩⟩
def sp_dead_of (C : Addr) : Sp := fun vs H Q _ => ∃ (a : Addr) (g : Pg) (dd : Nat → Bool), vs = [.ref a] ∧ PgAt C g a H ∧ PgOk g ∧ (∀ i b, g.brs[i]? = some b → isDead intN (testsL g b) g.names.length = some (dd i)) ∧
  ∀ p H2, H p = none → Ex H H2 → NL H2 p ((List.range g.brs.length).filter dd) → Q (.ref p) H2
theorem ok_dead_of (T : Txt K mg) : FnOk P w K mg base CX0 7 T.dead_of.a T.dead_of.d p_dead_of (sp_dead_of T.pro.C) := by
  have R1 := raw0 (ok_names (P := P) (w := w) (base := base) T) T.pro.names.b
  have R2 := raw0 (ok_len (P := P) (w := w) (base := base) T) T.pro.len.b
  have G1 := ok_tests_of (P := P) (w := w) (base := base) T
  have G2 := ok_is_empty (P := P) (w := w) (base := base) T
  refine T.dead_of.F.ok sc_dead_of (fun vs H Q E h => ?_) (fun cdv A outer s H vs Q E hr h => ?_)
  · obtain ⟨a, g, dd, rfl, _⟩ := h
    rfl
  · obtain ⟨a, g, dd, rfl, hg, hok, hdd, k⟩ := h
    have nd := sc_dead_of.nd
    refine ⟨_, pss_cons (ps_set (i := 1) nd rfl (Or.inr rfl) (pe_callB (r := rLenS K) call_len_seq (by rfl) T.z.len PySem.boot_len (pa_cons (SlX.pe_propSl (E := E0) (pv 0) T.pro.c T.pro.qn.at_ T.pro.qn.get T.pro.qn.tk T.pro.qn.rc R1 (hr.mono (by decide)) (fun _ _ _ _ h => h.elim)) pa_nil)))
      (pss_one (ps_ret (pe_lc (own := [("index", 2)]) (by rfl) nd (pi_range1 (by rfl) T.z.range (pa_cons (pe_callB (r := Gap.rLenOwn T.pro.C (sp_len T.pro.C) E0) (Gap.call_lenOwn T.pro.lf T.pro.li R2 (hr.mono (by decide)) pass0) (by rfl) T.z.len PySem.boot_len (pa_cons (pv 0) pa_nil)) pa_nil)) (blkOk_by (own := [("index", 2)]) (N := n_dead_of) (sc := defScope s_dead_of) (by decide +kernel))
          (fun _ _ _ _ _ => pg_name (i := 2) nd rfl (Or.inl rfl)) (fun _ _ _ _ _ => pts_one (pt_val (pe_call G2 hr (by rfl) T.is_empty.g T.is_empty.F.kp T.is_empty.b .nil pass0 (pa_cons (pe_call G1 (hr.mono (by decide)) (by rfl) T.tests_of.g T.tests_of.F.kp T.tests_of.b .nil pass0 (pa_cons (pv 0) (pa_cons (pv 2) pa_nil))) (pa_cons (pv 1) pa_nil))))) (fun _ _ _ _ _ => pv 2)))), ?_⟩
    have hg0 := hg
    obtain ⟨dx, np, sp, bp, hs, hN, hS, hB⟩ := hg
    have hnv := hok.n3
    have hb5 := hok.b5
    refine q_asg (ev_is (ev_lenT (ev_prop (ev_var rfl) hs fun H1 e1 Q2 q2 E2 => ⟨a, dx, _, .ref np, rfl, slt_ex e1 hs, rfl, q2⟩) hN) (by rw [List.length_map])) fun H1 e1 => ?_
    refine s_retL (xs := given g.brs.length dd fun i => .int (i : Int)) (el_lcV dd (fun i => .int (i : Int)) (ei_range g.brs.length (ea_cons (ev_lenOwn (ev_var rfl) (slt_ex e1 hs) (by omega) fun H2 e2 Q2 q2 E2 => ⟨a, g, rfl, lasts_pg _ _ _ _ (e1.trans e2) hg0, q2⟩) ea_nil) rfl (by omega)) (by omega) tg_name (fun _ => rfl) (fun i H2 e2 hi => et_B ?_) (fun i H2 e2 hi _ => ev_var rfl)) fun p H2 hp e2 h2 => k p H2 (fresh_back e1 hp) (e1.trans e2) h2
    have hb : g.brs[i]? = some g.brs[i] := List.getElem?_eq_getElem hi
    obtain ⟨tl1, tl2⟩ := tests_ok hok (List.getElem_mem hi)
    have hbo := hok.bs _ (List.getElem_mem hi)
    have hd := hdd i _ hb
    generalize g.brs[i] = b at hb tl1 tl2 hbo hd
    intro H3 e3 Q3 q3
    refine ⟨.ref a, rfl, .int (i : Int), rfl, ⟨a, g, i, b, rfl, lasts_pg _ _ _ _ ((e1.trans e2).trans e3) hg0, hb, by have := hok.s3; omega, by have := hbo.few; omega, fun tp H5 htp e5 h5 => ?_⟩⟩
    exact ⟨_, rfl, ⟨tp, testsL g b, g.names.length, dd i, rfl, h5, by omega, by omega, tl2, hd, fun H6 e6 => q3 H6 (e5.trans e6)⟩⟩
/-- all forms over d -/
def overD (forms : List (List Int)) (d : Int) : List (List Int) := forms.map fun f => f.map fun x => x.fdiv d
def sp_plain_rank : Sp := fun vs H Q _ => ∃ (b : Int) (fp : Addr) (forms : List (List Int)), vs = [.int b, .ref fp] ∧ 0 < b ∧ Fit b ∧ TupOf FormP forms fp H ∧ forms.length ≤ 10 ∧ (∀ f ∈ forms, f.length ≤ 10) ∧
  ∀ p q d H2, 0 < d → d ∣ b → (∀ f ∈ forms, ∀ x ∈ f, d ∣ x) → H p = none → Ex H H2 → H2 p = some (.tup [.int (b.fdiv d), .ref q]) → TupOf FormP (overD forms d) q H2 → Q (.ref p) H2
theorem dvd_fit {d b : Int} (hd : 0 < d) (hb : 0 < b) (h : d ∣ b) (hf : Fit b) : Fit d := fit_le (by
  have := Int.le_of_dvd hb h
  omega) hf
theorem ok_plain_rank (T : Txt K mg) : FnOk P w K mg base CX0 2 T.plain_rank.a T.plain_rank.d p_plain_rank sp_plain_rank := by
  have G1 := ok_shared (P := P) (w := w) (base := base) T.shared.F T.z.abs
  refine T.plain_rank.F.ok sc_plain_rank (fun vs H Q E h => ?_) (fun cdv A outer s H vs Q E hr h => ?_)
  · obtain ⟨b, fp, forms, rfl, _⟩ := h
    rfl
  · obtain ⟨b, fp, forms, rfl, hb, hbf, ⟨ps, hf, hF⟩, hfl, hfl2, k⟩ := h
    have nd := sc_plain_rank.nd
    refine ⟨_, pss_cons (ps_set (i := 2) nd rfl (Or.inr rfl) (pv 0))
      (pss_cons (ps_for PassesOwn.never rfl (pi_tup (pv 1)) (pg_name (i := 3) nd rfl (Or.inl rfl))
        (pss_one (ps_for PassesOwn.never rfl (pi_tup (pv 3)) (pg_name (i := 4) nd rfl (Or.inl rfl))
          (pss_one (ps_set (i := 2) nd rfl (Or.inr rfl) (pe_call G1 hr (by rfl) T.shared.g T.shared.F.kp T.shared.b .nil pass0 (pa_cons (pv 2) (pa_cons (pv 4) pa_nil))))))))
      (pss_one (ps_ret (pe_tup (pa_cons (pe_op op_fdivW (pv 0) (pv 2)) (pa_cons (pe_callTy (r := rTupS K) call_tuple_of (by rfl) T.z.tuple (by decide +kernel) (pa_cons (pe_lc (own := [("form", 3)]) (by rfl) nd (pi_tup (pv 1)) (blkOk_by (own := [("form", 3)]) (N := n_plain_rank) (sc := defScope s_plain_rank) (by decide +kernel))
            (fun _ _ _ _ _ => pg_name (i := 3) nd rfl (Or.inl rfl)) (fun _ _ _ _ _ => pts_nil)
            (fun _ _ _ _ _ => pe_callTy (r := rTupS K) call_tuple_of (by rfl) T.z.tuple (by decide +kernel) (pa_cons (pe_lc (own := [("part", 4)]) (wi := iTup K (tVar 3)) (g := gName 4) (tt := tYes) (te := tOp (rI CDivW fun i j => .int (i / j)) (tVar 4) (tVar 2)) (by rfl) nd (pi_tup (pv 3)) (blkOk_by (own := [("part", 4)]) (N := n_plain_rank) (sc := relS q_plain2 (defScope s_plain_rank)) (by decide +kernel))
                (fun _ _ _ _ _ => pg_name (i := 4) nd rfl (Or.inl rfl)) (fun _ _ _ _ _ => pts_nil) (fun _ _ _ _ _ => pe_op op_fdivW (pv 4) (pv 2))) pa_nil))) pa_nil)) pa_nil)))))), ?_⟩
    refine q_asg (ev_var rfl) fun H1 e1 => ?_
    have hI := ew_tup (K := K) (tl := tVar 1) (σ := (start n_plain_rank [.int b, .ref fp]).set 2 (some (.int b))) (ev_var rfl) (e1 fp _ hf)
    rw [List.length_map, hF.len] at hI
    refine q_for hI (fun i σ' H' => ∃ a3 a4 d, σ' = [some (.int b), some (.ref fp), some (.int d), a3, a4] ∧ Ex H H' ∧ 0 < d ∧ d ∣ b ∧ ∀ j, j < i → ∀ x ∈ forms.getD j [], d ∣ x)
      (fun H2 e2 _ => ⟨_, _, b, rfl, e1.trans e2, hb, Int.dvd_refl b, fun j hj => absurd hj (Nat.not_lt_zero j)⟩) (fun _ _ _ ⟨_, _, _, _, e, _⟩ => e fp _ hf) (fun i x σ' H2 H3 hi hP y => ?_) (fun σ' H2 hP => ?_)
    · obtain ⟨a3, a4, d, rfl, e2, hd0, hdb, hdj⟩ := hP
      refine y_name y ?_
      obtain ⟨q, hq, hfq⟩ := (hF.ex lasts_form e2).at' [] hi
      have hq2 : TupI H2 q (forms.getD i []) := hfq
      rw [atV_ref hq]
      have hI2 := ew_tup (K := K) (tl := tVar 3) (σ := [some (.int b), some (.ref fp), some (.int d), some (.ref q), a4]) (ev_var rfl) hq2.at
      rw [List.length_map] at hI2
      refine s_for hI2 (fun l σ' H' => ∃ a4 d, σ' = [some (.int b), some (.ref fp), some (.int d), some (.ref q), a4] ∧ Ex H2 H' ∧ 0 < d ∧ d ∣ b ∧ (∀ j, j < i → ∀ x ∈ forms.getD j [], d ∣ x) ∧ ∀ m, m < l → d ∣ (forms.getD i []).getD m 0)
        (fun H4 e4 _ => ⟨_, d, rfl, e4, hd0, hdb, hdj, fun j hj => absurd hj (Nat.not_lt_zero j)⟩) (fun _ _ _ ⟨_, _, _, e, _⟩ => e q _ hq2) (fun l x σ' H4 H5 hl hP y => ?_) (fun σ' H4 hP => ?_)
      · obtain ⟨a4, d, rfl, e4, hd0, hdb, hdj, hdm⟩ := hP
        refine y_name y ?_
        rw [atV_int hl]
        refine s_asg (ev_call (z := .int (Int.gcd d ((forms.getD i []).getD l 0) : Int)) (ea_cons (ev_var rfl) (ea_cons (ev_var rfl) ea_nil)) fun H6 e6 Q2 q2 E2 => ⟨_, _, rfl, q2⟩) fun H6 e6 => ?_
        have g1 : (Int.gcd d ((forms.getD i []).getD l 0) : Int) ∣ d := Int.gcd_dvd_left _ _
        have g2 : (Int.gcd d ((forms.getD i []).getD l 0) : Int) ∣ (forms.getD i []).getD l 0 := Int.gcd_dvd_right _ _
        refine ⟨_, _, rfl, e4.trans e6, ?_, Int.dvd_trans g1 hdb, fun j hj x hx => Int.dvd_trans g1 (hdj j hj x hx), fun m hm => ?_⟩
        · have := Int.gcd_pos_of_ne_zero_left (a := d) ((forms.getD i []).getD l 0) (show d ≠ 0 by omega)
          omega
        · by_cases hml : m = l
          · rw [hml]
            exact g2
          · exact Int.dvd_trans g1 (hdm m (by omega))
      · obtain ⟨a4, d, rfl, e4, hd0, hdb, hdj, hdm⟩ := hP
        refine ⟨_, _, d, rfl, e2.trans e4, hd0, hdb, fun j hj x hx => ?_⟩
        by_cases hji : j = i
        · subst hji
          obtain ⟨m, hm, rfl⟩ := List.mem_iff_getElem.mp hx
          have h5 := hdm m hm
          rw [List.getD_eq_getElem?_getD (l := forms.getD j []), List.getElem?_eq_getElem hm] at h5
          exact h5
        · exact hdj j (by omega) x hx
    · obtain ⟨a3, a4, d, rfl, e2, hd0, hdb, hdj⟩ := hP
      have hdf := dvd_fit hd0 hb hdb hbf
      have hda : ∀ f ∈ forms, ∀ x ∈ f, d ∣ x := fun f hf2 x hx => by
        obtain ⟨i, hi, rfl⟩ := List.mem_iff_getElem.mp hf2
        refine hdj i hi x ?_
        rw [List.getD_eq_getElem?_getD, List.getElem?_eq_getElem hi]
        exact hx
      have hI3 := ei_tup (K := K) (tl := tVar 1) (σ := [some (.int b), some (.ref fp), some (.int d), a3, a4]) (ev_var rfl) (e2 fp _ hf)
      rw [List.length_map, hF.len] at hI3
      have hln := el_new (te := tCB (rTupS K) (tCons (tLc (iTup K (tVar 3)) (gName 4) tYes (tOp (rI CDivW fun i j => .int (i / j)) (tVar 4) (tVar 2)) [4]) tNil)) (vs := [3]) (fun i => .tup (((forms.getD i []).map fun x => x.fdiv d).map V.int)) hI3 (by omega) (tg_name (j := 3)) (fun _ => rfl) fun i H3 e3 hi => by
        obtain ⟨q, hq, hfq⟩ := (hF.ex lasts_form (e2.trans e3)).at' [] hi
        have hq3 : TupI H3 q (forms.getD i []) := hfq
        rw [atV_ref hq]
        refine evN_U (eu_tupN ?_)
        have hI4 := ei_tup (K := K) (tl := tVar 3) (σ := (wipe ([some (.int b), some (.ref fp), some (.int d), a3, a4] : L2.St) [3]).set 3 (some (.ref q))) (ev_var rfl) hq3.at
        rw [List.length_map] at hI4
        have es : ((forms.getD i []).map fun x => x.fdiv d).map V.int = (List.range (forms.getD i []).length).map fun j => V.int (((forms.getD i []).getD j 0).fdiv d) := by
          rw [List.map_map, map_at 0 (forms.getD i [])]
          rfl
        rw [es]
        refine el_map (fun j => .int (((forms.getD i []).getD j 0).fdiv d)) hI4 (by have := hfl2 _ (getD_mem hi); omega) tg_name (fun _ => rfl) fun j H4 e4 hj => ?_
        refine ev_fdivW (ev_var ?_) (ev_var rfl) (div_fit hd0 hdf)
        rw [atV_int hj]
        rfl
      refine s_retXT (ev_fdivW (ev_var rfl) (ev_var rfl) (div_fit hd0 hdf)) hln fun p tp qs H3 hp e3 hp3 ht3 hql hqr => ?_
      refine k p tp d _ hd0 hdb hda (fresh_back e2 hp) (e2.trans e3) hp3 ⟨qs, ht3, ?_⟩
      refine ⟨by rw [hql]; unfold overD; rw [List.length_map], fun i x hx => ?_⟩
      unfold overD at hx
      rw [List.getElem?_map] at hx
      obtain ⟨f, hfi, rfl⟩ := Option.map_eq_some_iff.mp hx
      obtain ⟨hi, hfe⟩ := List.getElem?_eq_some_iff.mp hfi
      obtain ⟨q, q1, q3⟩ := hqr i hi
      refine ⟨q, q1, ?_⟩
      rw [List.getD_eq_getElem?_getD, hfi] at q3
      exact q3
end
end Fd
end

section
set_option Elab.async false
set_option linter.all false
set_option maxRecDepth 100000
set_option maxHeartbeats 4000000
/-! WM: best_rank. -/
namespace FR
abbrev Q4 : Type := Nat × Nat × Nat × Nat
def takenI (tops : List Int) (cols : List Q4) : List Nat := (cols.filter fun q => decide (0 < tops.getD q.2.2.2 0)).map (·.1)
theorem takenOf_int (tops : List Int) : ∀ cols : List Q4, bestG.takenOf intN tops cols = some (takenI tops cols)
  | [] => rfl
  | q :: r => by
    have ih := takenOf_int tops r
    have h1 : bestG.takenOf intN tops (q :: r) = (intN.pos (tops.getD q.2.2.2 (intN.lit 0))).bind fun p => (bestG.takenOf intN tops r).bind fun more => some (if p then q.1 :: more else more) := rfl
    rw [h1, ih, pos_int]
    show some (if decide (0 < tops.getD q.2.2.2 0) = true then q.1 :: takenI tops r else takenI tops r) = _
    unfold takenI
    rw [List.filter_cons]
    by_cases h : decide (0 < tops.getD q.2.2.2 0) = true
    · rw [if_pos h, if_pos h]
      rfl
    · rw [if_neg h, if_neg h]
def goalB (cols : List Q4) (wide : Nat) : List Int := (List.range wide).map fun c => if (cols.any fun q => q.2.2.2 == c) = true then 1 else 0
theorem best_some {cp : CProg Int} {idx : List Nat} {tk : List Nat} (h : bestG intN cp idx = some tk) : ∃ tops b, most intN (rankRows intN cp (wideOf cp.brs idx (wide0 cp)) (lay cp.brs idx (wide0 cp))) (goalB (lay cp.brs idx (wide0 cp)) (wideOf cp.brs idx (wide0 cp))) = some (some (some (tops, b))) ∧ tk = takenI tops (lay cp.brs idx (wide0 cp)) := by
  obtain ⟨r, h1, h2⟩ := Option.bind_eq_some_iff.mp h
  match r, h1, h2 with
  | some (some (tops, b)), h1, h2 =>
    refine ⟨tops, b, h1, ?_⟩
    have h3 : bestG.takenOf intN tops (lay cp.brs idx (wide0 cp)) = some tk := h2
    rw [takenOf_int] at h3
    exact (Option.some.inj h3).symm
  | some none, h1, h2 => cases h2
  | none, h1, h2 => cases h2
end FR
namespace Ew
open PySem PySem.Spec PyProof.Rows L2 Evl
section
variable {K : Fg} {σ : L2.St} {H H' : Hp} {ta tb te tx tv tk td ty to ti tc : TE} {t u : TT} {x y z v w : V} {r : R2} {D : Ends} {tu tw tz : TS}
theorem q_asgP {P : V → Hp → Prop} {i : Nat} (h : EvP te σ H P) (k : ∀ v H1, Ex H H1 → P v H1 → tz D (σ.set i (some v)) H1) : tSeq (tAsg te (gName i)) tz D σ H := h H (Ex.refl H) _ fun v H1 e hv => k v H1 e hv
theorem q_asgN {o : HO} {i : Nat} (h : EvN te σ H o) (k : ∀ p H1, H p = none → Ex H H1 → H1 p = some o → tz D (σ.set i (some (.ref p))) H1) : tSeq (tAsg te (gName i)) tz D σ H := h H (Ex.refl H) _ fun p H1 hp e h1 => k p H1 hp e h1
end
theorem falls_any {cols : List FR.Q4} {n c : Nat} (hn : cols.length = n) : (valV (dcOf n (fun i => .inl (((cols.getD i (0, 0, 0, 0)).2.2.2 : Nat) : Int)) fun _ => .bl true) (.inl (c : Int))).isSome = (cols.any fun q => q.2.2.2 == c) := by
  rw [Bool.eq_iff_iff, dcOf_some, List.any_eq_true]
  constructor
  · rintro ⟨i, hi, e⟩
    have h5 := Sum.inl.inj e
    have hi2 : i < cols.length := by omega
    refine ⟨cols[i], List.getElem_mem hi2, ?_⟩
    rw [List.getD_eq_getElem?_getD, List.getElem?_eq_getElem hi2] at h5
    have h6 : ((cols[i].2.2.2 : Nat) : Int) = (c : Int) := h5
    exact beq_iff_eq.mpr (by omega)
  · rintro ⟨q, hq, e⟩
    obtain ⟨i, hi, rfl⟩ := List.mem_iff_getElem.mp hq
    refine ⟨i, by omega, ?_⟩
    rw [List.getD_eq_getElem?_getD, List.getElem?_eq_getElem hi]
    show Sum.inl ((cols[i].2.2.2 : Nat) : Int) = _
    rw [beq_iff_eq.mp e]
end Ew
namespace Fd
open PySem PySem.Spec PyProof.Rows L2 Evl Ew Tx FR
section
variable {P : Program} {w : World} {K : PySem.W.Frag} {mg : Str → Option Value} {base : Heap}
theorem wide_ge {g : Pg} {idx : List Nat} : wide0 (cpOf g) ≤ wideL g idx := by
  have hw : ∀ (l : List Nat) (w : Nat), w ≤ wideOf (cpOf g).brs l w := by
    intro l
    induction l with
    | nil =>
      intro w
      exact Nat.le_refl w
    | cons j l ih =>
      intro w
      have := ih (w + 2 * sizeAt (cpOf g).brs j + 2)
      show w ≤ wideOf (cpOf g).brs l _
      omega
  exact hw idx _
def q0 : Q4 := (0, 0, 0, 0)
theorem cols_len {g : Pg} {idx : List Nat} : (colsOf g idx).length = idx.length := by
  have hfst : (colsOf g idx).map (·.1) = idx := lay_fst
  rw [← List.length_map (f := fun q : Q4 => q.1), hfst]
theorem cols_get {g : Pg} {idx : List Nat} {i : Nat} (hi : i < idx.length) : (colsOf g idx).getD i q0 ∈ colsOf g idx ∧ ((colsOf g idx).getD i q0).1 = idx.getD i 0 := by
  have hci : i < (colsOf g idx).length := by rw [cols_len]; exact hi
  have hfst : (colsOf g idx).map (·.1) = idx := lay_fst
  have he : (colsOf g idx).getD i q0 = (colsOf g idx)[i] := by
    rw [List.getD_eq_getElem?_getD, List.getElem?_eq_getElem hci]
    rfl
  rw [he]
  refine ⟨List.getElem_mem hci, ?_⟩
  have h5 : ((colsOf g idx).map (·.1))[i]? = idx[i]? := by rw [hfst]
  rw [List.getElem?_map, List.getElem?_eq_getElem hci] at h5
  rw [List.getD_eq_getElem?_getD, ← h5]
  rfl
theorem idx_at {g : Pg} {idx : List Nat} {i : Nat} (hi : i < idx.length) : atV (idx.map fun (n : Nat) => V.int (n : Int)) i = .int (((colsOf g idx).getD i q0).1 : Nat) := by
  rw [atV_of (nat_at hi), (cols_get hi).2]
def sp_best_rank (T : Txt K mg) : Sp := fun vs H Q _ => ∃ (a ip : Addr) (g : Pg) (idx tk : List Nat), vs = [.ref a, .ref ip] ∧ PgAt T.pro.C g a H ∧ PgOk g ∧ NL H ip idx ∧ idx.Nodup ∧ idx.length ≤ 5 ∧ (∀ i ∈ idx, i < g.brs.length) ∧ bestG intN (cpOf g) idx = some tk ∧
  ∀ p r t H2, H p = none → Ex H H2 → H2 p = some (.tup [.ref r, .ref t]) → NL H2 t tk → Q (.ref p) H2
theorem ok_best_rank (T : Txt K mg) : FnOk P w K mg base CX0 6 T.best_rank.a T.best_rank.d p_best_rank (sp_best_rank T) := by
  have G0 := ok_Columns_init (P := P) (w := w) (base := base) T
  have G1 := ok_rank_rows (P := P) (w := w) (base := base) T
  have G2 := ok_most (P := P) (w := w) (base := base) T
  have G3 := ok_read_forms (P := P) (w := w) (base := base) T
  have G4 := ok_plain_rank (P := P) (w := w) (base := base) T
  refine T.best_rank.F.ok sc_best_rank (fun vs H Q E h => ?_) (fun cdv A outer s H vs Q E hr h => ?_)
  · obtain ⟨a, ip, g, idx, tk, rfl, _⟩ := h
    rfl
  · obtain ⟨a, ip, g, idx, tk, rfl, hg, hok, hip, hnd, hil, hix, hbest, k⟩ := h
    have nd := sc_best_rank.nd
    have hu := hr.units
    have hu1 : (A.deeper (envOfC "best_rank" (defScope s_best_rank) s.heap.objs.size T.best_rank.a cdv)).units + 1 < cLine := by omega
    have hr4 := hr.mono (show 4 ≤ 5 by decide)
    have n3 := T.col.n "wide" (by decide +kernel)
    have n4 := T.col.n "parts" (by decide +kernel)
    refine ⟨_, pss_cons (ps_set (i := 2) nd rfl (Or.inr rfl) (pe_make T.col.k G0 hr (by rfl) T.col.g T.col.init.b .nil pass0 (pa_cons (pv 0) (pa_cons (pv 1) pa_nil))))
      (pss_cons (ps_set (i := 3) nd rfl (Or.inr rfl) (pe_dc (own := [("index", 8)]) (g := gName 8) (tk := tOp (rIxT K) (tDGet (tFld K (tVar 2) "parts") (tVar 8)) (tC (.int 2))) (tv := tC (.bl true)) (by rfl) nd (pi_list (pv 1)) (blkOk_by (own := [("index", 8)]) (N := n_best_rank) (sc := defScope s_best_rank) (by decide +kernel))
          (fun _ _ _ _ _ => pg_name (i := 8) nd rfl (Or.inl rfl)) (fun _ _ _ _ _ => pts_nil) (fun _ _ _ _ _ => pe_ix (r := rIxT K) ix_tup (pe_dget hu1 (pe_fld (pv 2) (by rfl)) (pv 8) (fun _ _ => rfl)) pe_int (fun _ _ => rfl)) (fun _ _ _ _ _ => pe_bl)))
      (pss_cons (ps_setLc (i := 4) (own := [("column", 9)]) rfl nd rfl rfl (sw_true rfl rfl rfl (by decide +kernel)) (pi_range1 (by rfl) T.z.range (pa_cons (pe_fld (pv 2) (by rfl)) pa_nil)) (blkOk_by (own := [("column", 9)]) (N := n_best_rank) (sc := defScope s_best_rank) (by decide +kernel))
            (fun _ _ _ _ _ => pg_name (i := 9) nd rfl (Or.inl rfl)) (fun _ _ _ _ _ => pts_nil) (fun _ _ _ _ _ => pe_ifExp (pt_cmp (pc_din hu1 (pv 9) (pv 3)) (by rfl)) pe_int pe_int))
      (pss_cons (ps_asg (pe_call G2 hr4 (by rfl) T.most.g T.most.F.kp T.most.b .nil pass0 (pa_cons (pe_call G1 hr4 (by rfl) T.rank_rows.g T.rank_rows.F.kp T.rank_rows.b .nil pass0 (pa_cons (pv 0) (pa_cons (pv 2) (pa_cons (pv 1) pa_nil)))) (pa_cons (pv 4) pa_nil))) (pg_tup rfl (pgs_cons (pg_name (i := 5) nd rfl (Or.inr rfl)) (pgs_cons (pg_name (i := 6) nd rfl (Or.inl rfl)) pgs_nil))))
      (pss_cons (ps_setLc (i := 7) (own := [("index", 8)]) (tt := tTest (tOp (rI0 fun i j => .bl (decide (j < i))) (tOp (rIxT K) (tVar 5) (tOp (rIxT K) (tDGet (tFld K (tVar 2) "parts") (tVar 8)) (tC (.int 2)))) (tC (.int 0)))) rfl nd rfl rfl (sw_true rfl rfl rfl (by decide +kernel)) (pi_list (pv 1)) (blkOk_by (own := [("index", 8)]) (N := n_best_rank) (sc := defScope s_best_rank) (by decide +kernel))
            (fun _ _ _ _ _ => pg_name (i := 8) nd rfl (Or.inl rfl)) (fun _ _ _ _ _ => pts_one (pt_cmpR op_gt (pe_ix (r := rIxT K) ix_tup (pv 5) (pe_ix (r := rIxT K) ix_tup (pe_dget hu1 (pe_fld (pv 2) (by rfl)) (pv 8) (fun _ _ => rfl)) pe_int (fun _ _ => rfl)) (fun _ _ => rfl)) pe_int (nomark _))) (fun _ _ _ _ _ => pv 8))
      (pss_one (ps_ret (pe_tup (pa_cons (pe_call G4 (hr.mono (by decide)) (by rfl) T.plain_rank.g T.plain_rank.F.kp T.plain_rank.b .nil pass0 (pa_cons (pv 6) (pa_cons (pe_call G3 hr4 (by rfl) T.read_forms.g T.read_forms.F.kp T.read_forms.b .nil pass0 (pa_cons (pv 0) (pa_cons (pv 2) (pa_cons (pv 5) pa_nil)))) pa_nil))) (pa_cons (pv 7) pa_nil))))))))), ?_⟩
    obtain ⟨tops, b, hmo, htk⟩ := best_some hbest
    have hwl : wideL g idx ≤ 110 := wide_le hok hil (size_le hok)
    refine q_asgP (ev_Columns T (ea_cons (ev_var rfl) (ea_cons (ev_var rfl) ea_nil)) hg hok hip hnd hil hix) fun v H1 e1 hv => ?_
    obtain ⟨c, rfl, hC⟩ := hv
    have hip1 := hip.ex e1
    have hI := ei_list (K := K) (tl := tVar 1) (σ := (start n_best_rank [.ref a, .ref ip]).set 2 (some (.ref c))) (ev_var rfl) hip1.at
    rw [List.length_map] at hI
    refine q_asgN (o := .dK (dcOf idx.length (fun i => .inl ((((colsOf g idx).getD i (0, 0, 0, 0)).2.2.2 : Nat) : Int)) fun _ => .bl true)) (en_dc _ _ hI (by omega) tg_name (fun _ => rfl) (fun i H2 e2 hi => ?_) (fun i H2 e2 hi => ev_c)) fun fd H2 hfd e2 h2 => ?_
    · obtain ⟨m1, m2⟩ := cols_get (g := g) hi
      exact ev_part (k := 2) (lasts_col _ _ _ _ e2 hC) T.col.c n4 (ev_var rfl) (ev_var (by rw [idx_at (g := g) hi]; rfl)) m1 ev_c rfl
    have hC2 := lasts_col _ _ _ _ e2 hC
    refine q_asgL (xs := (goalB (colsOf g idx) (wideL g idx)).map V.int) ?_ fun gp H3 hgp e3 h3 => ?_
    · have es : (goalB (colsOf g idx) (wideL g idx)).map V.int = (List.range (wideL g idx)).map fun (c : Nat) => V.int (if ((colsOf g idx).any fun q => q.2.2.2 == c) = true then 1 else 0) := by
        unfold goalB
        rw [List.map_map]
        rfl
      rw [es]
      refine el_map (fun (c : Nat) => .int (if ((colsOf g idx).any fun q => q.2.2.2 == c) = true then 1 else 0)) (ei_range (wideL g idx) (ea_cons (ev_wide hC2 T.col.c n3 (ev_var rfl)) ea_nil) rfl (by omega)) (by omega) tg_name (fun _ => rfl) fun c2 H4 e4 hc2 => ?_
      refine ev_if (et_B (ev_is (ev_din (k := .inl (c2 : Int)) (ev_var rfl) (ev_var rfl) (e4 fd _ h2)) (congrArg V.bl (falls_any cols_len)))) (fun hb2 => ?_) (fun hb2 => ?_)
      · rw [if_pos hb2]
        exact ev_c
      · rw [if_neg (by rw [hb2]; exact Bool.false_ne_true)]
        exact ev_c
    have e03 := (e1.trans e2).trans e3
    have hC3 := lasts_col _ _ _ _ e3 hC2
    have hip3 := hip.ex e03
    have hg3 := lasts_pg _ _ _ _ e03 hg
    -- most
    have hrl := rankRows_len (cp := cpOf g) (wide := wideL g idx) (l := colsOf g idx)
    have hnv := hok.n3
    have hnv2 : (cpOf g).nv = g.names.length := rfl
    rw [hnv2, cols_len] at hrl
    have hrl2 : (2 * g.names.length + 3) * idx.length ≤ 9 * 5 := Nat.mul_le_mul (by omega) (by omega)
    have hgl : (goalB (colsOf g idx) (wideL g idx)).length = wideL g idx := by
      unfold goalB
      rw [List.length_map, List.length_range]
    refine ⟨.ref a, rfl, .ref c, rfl, .ref ip, rfl, ⟨a, c, ip, g, idx, rfl, hg3, hok, hC3, hip3, hil, hix, fun rp rps H4 hrp e4 h4 => ?_⟩⟩
    refine ⟨.ref gp, rfl, ⟨rp, gp, rps, _, _, _, rfl, h4, IL.ex e4 h3, fun r hr2 => by rw [hgl]; exact hrl.2 r hr2, by omega, by rw [hgl]; omega, hmo, (fun z => by cases z), (fun z => by cases z), fun tops' b' z htl htf hb0 hbf p a2 H5 hp ha e5 ha5 hp5 => ?_⟩⟩
    have z1 := Option.some.inj (Option.some.inj z)
    obtain rfl : tops = tops' := congrArg (fun z => z.1) z1
    obtain rfl : b = b' := congrArg (fun z => z.2) z1
    rw [hgl] at htl
    refine ⟨p, _, rfl, st_of hp5, rfl, _, _, rfl, _, _, rfl, rfl, ?_⟩
    have e05 := (e03.trans e4).trans e5
    have hC5 := lasts_col _ _ _ _ (e4.trans e5) hC3
    have hI5 := ei_list (K := K) (tl := tVar 1) (σ := [some (.ref a), some (.ref ip), some (.ref c), some (.ref fd), some (.ref gp), some (.ref a2), some (.int b), none, none, none]) (ev_var rfl) (hip.ex e05).at
    rw [List.length_map] at hI5
    have etk : tk.map (fun (n : Nat) => V.int (n : Int)) = given idx.length (fun i => decide (0 < tops.getD ((colsOf g idx).getD i q0).2.2.2 0)) (fun i => .int ((((colsOf g idx).getD i q0).1 : Nat) : Int)) := by
      rw [htk]
      unfold takenI given
      rw [show lay (cpOf g).brs idx (wide0 (cpOf g)) = colsOf g idx from rfl, filter_at q0 (fun q : Q4 => decide (0 < tops.getD q.2.2.2 0)) (colsOf g idx), cols_len, List.map_map, List.map_map]
      rfl
    dsimp only
    refine q_asgL (xs := tk.map fun (n : Nat) => V.int (n : Int)) ?_ fun tp H6 htp e6 h6 => ?_
    · rw [etk]
      refine el_lcV _ _ hI5 (by omega) tg_name (fun _ => rfl) (fun i H6 e6 hi => ?_) (fun i H6 e6 hi _ => ev_var (by rw [idx_at (g := g) hi]; rfl))
      obtain ⟨m1, m2⟩ := cols_get (g := g) hi
      have hlt : ((colsOf g idx).getD i q0).2.2.2 < wideL g idx := by
        have := (FR.lay_at m1).2.2.2
        have h9 : wideOf (cpOf g).brs idx (wide0 (cpOf g)) = wideL g idx := rfl
        omega
      exact ev_gt (ev_ixT (i := ((colsOf g idx).getD i q0).2.2.2) (ev_var rfl) (ev_part (k := 2) (lasts_col _ _ _ _ e6 hC5) T.col.c n4 (ev_var rfl) (ev_var (by rw [idx_at (g := g) hi]; rfl)) m1 ev_c rfl) (e6 a2 _ ha5) (int_at (by omega))) ev_c
    have e06 := e05.trans e6
    refine ⟨.int b, rfl, .ref a, rfl, .ref c, rfl, .ref a2, rfl, ⟨a, c, a2, g, idx, tops, rfl, lasts_pg _ _ _ _ e06 hg, hok, lasts_col _ _ _ _ e6 hC5, e6 a2 _ ha5, ?_, fun fp H7 hfp e7 h7 => ?_⟩⟩
    · rw [htl]
      exact wide_ge
    refine ⟨b, fp, formsL g tops, rfl, hb0, hbf, h7, ?_, fun f hf => ?_, fun r rq d H8 hd0 hdb hdf hr8 e8 h8 h9 => ?_⟩
    · unfold formsL
      rw [List.length_map, List.length_range]
      have := places_le hok
      omega
    · unfold formsL at hf
      obtain ⟨i, _, rfl⟩ := List.mem_map.mp hf
      unfold formOf
      rw [List.length_map, List.length_range]
      omega
    · exact ⟨.ref tp, rfl, by show 2 ≤ sizeLine; decide, fun o ho => k o r tp _ (fresh_back ((e06.trans e7).trans e8) ho) (((e06.trans e7).trans e8).trans (Ex.new ho)) upd_same ((((e7.trans e8).trans (Ex.new ho))) tp _ h6)⟩
end
end Fd
end

section
set_option Elab.async false
set_option linter.all false
set_option maxRecDepth 100000
set_option maxHeartbeats 4000000
/-! WN: steps_of. -/
namespace FR
def stepsI (cp : CProg Int) : Nat → List Nat → List (List Nat) → Option (List (List Nat) × List Nat)
  | 0, _, _ => none
  | n + 1, rest, acc => if rest = [] then some (acc, []) else (bestG intN cp rest).bind fun tk => if tk = [] then some (acc, rest) else stepsI cp n (rest.filter fun i => !decide (i ∈ tk)) (acc ++ [tk])
end FR
namespace Ew
open PySem PySem.Spec PyProof.Rows L2 Evl
theorem inV_nat {z : Nat} : ∀ {ys : List Nat}, inV (.int (z : Int)) (ys.map fun (n : Nat) => V.int (n : Int)) = decide (z ∈ ys) := by
  intro ys
  induction ys with
  | nil => rfl
  | cons y ys ih =>
    show (((y : Int) == (z : Int)) || inV (.int (z : Int)) (ys.map fun (n : Nat) => V.int (n : Int))) = _
    rw [ih]
    by_cases h : y = z
    · have e5 : decide (z ∈ y :: ys) = true := decide_eq_true (by rw [h]; exact List.mem_cons_self)
      rw [beq_iff_eq.mpr (show (y : Int) = (z : Int) by omega), e5]
      rfl
    · rw [beq_eq_false_iff_ne.mpr (show (y : Int) ≠ (z : Int) by omega), Bool.false_or]
      refine decide_eq_decide.mpr ⟨fun q => List.mem_cons_of_mem _ q, fun q => ?_⟩
      rcases List.mem_cons.mp q with e | e
      · exact (h e.symm).elim
      · exact e
theorem flat_N (ys : List Nat) : (ys.map fun (n : Nat) => V.int (n : Int)).all flatV = true := by
  rw [List.all_map]
  exact List.all_eq_true.mpr fun _ _ => rfl
def StepP (x : List Nat) (q : Addr) (H : Hp) : Prop := x ≠ [] ∧ ∃ r t, H q = some (.tup [.ref r, .ref t]) ∧ NL H t x
theorem lasts_step : Lasts StepP := fun x q H H' e ⟨n, r, t, h1, h2⟩ => ⟨n, r, t, e q _ h1, h2.ex e⟩
theorem steps_upd {H : Hp} {a : Addr} {ps : List Addr} {o : HO} {qs : List Addr} {l : List (List Nat)} (ha : H a = some (.lst (ps.map V.ref))) (h : Each StepP H qs l) : Each StepP (upd H a o) qs l := ⟨h.len, fun i x hx => by
  obtain ⟨q, h1, n, r, t, h2, h3⟩ := h.at_ i x hx
  have nq : q ≠ a := fun z => by
    rw [z, ha] at h2
    cases h2
  have nt : t ≠ a := fun z => by
    rw [z] at h3
    have h4 := h3.at
    rw [ha] at h4
    have h5 := HO.lst.inj (Option.some.inj h4)
    cases hx2 : x with
    | nil => exact n hx2
    | cons b bs =>
      rw [hx2] at h5
      cases ps with
      | nil => cases h5
      | cons c cs => cases h5
  exact ⟨q, h1, n, r, t, by rw [upd_ne nq]; exact h2, by show upd H a o t = _; rw [upd_ne nt]; exact h3⟩⟩
theorem step_one {H : Hp} {q : Addr} {x : List Nat} (h : StepP x q H) : Each StepP H [q] [x] := ⟨rfl, fun i y hy => by
  cases i with
  | zero => exact ⟨q, rfl, by rw [← Option.some.inj hy]; exact h⟩
  | succ i => cases hy⟩
section
variable {K : Fg} {σ : L2.St} {H H' : Hp} {ta tb te tx tv tk td ty to ti tc : TE} {t u : TT} {x y z v w : V} {r : R2} {D : Ends} {tu tw tz : TS}
theorem et_niL {p : Addr} {ys : List Nat} {i : Nat} (h : Ev ta σ H (.int (i : Int))) (h2 : Ev tb σ H (.ref p)) (hp : NL H p ys) : EvT (tTest (tOp (rIn K true) ta tb)) σ H (!decide (i ∈ ys)) := by
  have h5 := rv_niL (K := K) (x := .int (i : Int)) (sq_of hp.at) rfl (flat_N _)
  rw [inV_nat] at h5
  exact et_test (ev_op h h2 h5)
theorem q_parLL {i j : Nat} {xs ys : List V} (h1 : EvL ta σ H xs) (h2 : ∀ H1, Ex H H1 → EvL tb σ H1 ys) (k : ∀ p q H1, H p = none → H q = none → p ≠ q → Ex H H1 → H1 p = some (.lst xs) → H1 q = some (.lst ys) → tz D ((σ.set i (some (.ref p))).set j (some (.ref q))) H1) : tSeq (tPar i j (tCons ta (tCons tb tNil))) tz D σ H :=
  h1 H (Ex.refl H) _ fun p H1 hp e1 hp1 => h2 H1 e1 H1 (Ex.refl H1) _ fun q H2 hq e2 hq2 => ⟨_, _, rfl, k p q H2 hp (fresh_back e1 hq) (ne_of_none hp1 hq) (e1.trans e2) (e2 p _ hp1) hq2⟩
end
end Ew
namespace Fd
open PySem PySem.Spec PyProof.Rows L2 Evl Ew Tx FR
section
variable {P : Program} {w : World} {K : PySem.W.Frag} {mg : Str → Option Value} {base : Heap}
def sp_steps_of (C : Addr) : Sp := fun vs H Q _ => ∃ (a : Addr) (g : Pg) (dd : Nat → Bool) (fuel : Nat) (fnd : List (List Nat)) (rest : List Nat), vs = [.ref a] ∧ PgAt C g a H ∧ PgOk g ∧ (∀ i b, g.brs[i]? = some b → isDead intN (testsL g b) g.names.length = some (dd i)) ∧
  stepsI (cpOf g) fuel ((List.range g.brs.length).filter fun i => !dd i) [] = some (fnd, rest) ∧ fuel ≤ 1000 ∧
  ∀ p fl rl qs H2, H p = none → Ex H H2 → H2 p = some (.tup [.ref fl, .ref rl]) → H2 fl = some (.lst (qs.map V.ref)) → Each StepP H2 qs fnd → NL H2 rl rest → Q (.ref p) H2
theorem ok_steps_of (T : Txt K mg) : FnOk P w K mg base CX0 8 T.steps_of.a T.steps_of.d p_steps_of (sp_steps_of T.pro.C) := by
  have R2 := raw0 (ok_len (P := P) (w := w) (base := base) T) T.pro.len.b
  have G1 := ok_dead_of (P := P) (w := w) (base := base) T
  have G2 := ok_best_rank (P := P) (w := w) (base := base) T
  refine T.steps_of.F.ok sc_steps_of (fun vs H Q E h => ?_) (fun cdv A outer s H vs Q E hr h => ?_)
  · obtain ⟨a, g, dd, fuel, fnd, rest, rfl, _⟩ := h
    rfl
  · obtain ⟨a, g, dd, fuel, fnd, rest, rfl, hg, hok, hdd, hst, hfu, k⟩ := h
    have nd := sc_steps_of.nd
    refine ⟨_, pss_cons (ps_set (i := 1) nd rfl (Or.inr rfl) (pe_call G1 hr (by rfl) T.dead_of.g T.dead_of.F.kp T.dead_of.b .nil pass0 (pa_cons (pv 0) pa_nil)))
      (pss_cons (ps_par (i := 2) (j := 3) rfl nd rfl rfl (by decide) rfl rfl (pa_cons (pe_lc (own := [("index", 6)]) (by rfl) nd (pi_range1 (by rfl) T.z.range (pa_cons (pe_callB (r := Gap.rLenOwn T.pro.C (sp_len T.pro.C) E0) (Gap.call_lenOwn T.pro.lf T.pro.li R2 (hr.mono (by decide)) pass0) (by rfl) T.z.len PySem.boot_len (pa_cons (pv 0) pa_nil)) pa_nil)) (blkOk_by (own := [("index", 6)]) (N := n_steps_of) (sc := defScope s_steps_of) (by decide +kernel))
            (fun _ _ _ _ _ => pg_name (i := 6) nd rfl (Or.inl rfl)) (fun _ _ _ _ _ => pts_one (pt_cmpR (r := rIn K true) op_notIn_seq (pv 6) (pv 1) (by rfl))) (fun _ _ _ _ _ => pv 6)) (pa_cons (pe_lst pa_nil) pa_nil)) (by rfl))
      (pss_cons (ps_while PassesOwn.never (pt_cmpR op_gt (pe_callB (r := rLenS K) call_len_seq (by rfl) T.z.len PySem.boot_len (pa_cons (pv 2) pa_nil)) pe_int (nomark _))
        (pss_cons (ps_asg (pe_call G2 (hr.mono (by decide)) (by rfl) T.best_rank.g T.best_rank.F.kp T.best_rank.b .nil pass0 (pa_cons (pv 0) (pa_cons (pv 2) pa_nil))) (pg_tup rfl (pgs_cons (pg_name (i := 4) nd rfl (Or.inl rfl)) (pgs_cons (pg_name (i := 5) nd rfl (Or.inr rfl)) pgs_nil))))
        (pss_cons (ps_if (pt_cmpR op_eq (pe_callB (r := rLenS K) call_len_seq (by rfl) T.z.len PySem.boot_len (pa_cons (pv 5) pa_nil)) pe_int (nomark _)) (pss_one (ps_ret (pe_tup (pa_cons (pv 3) (pa_cons (pv 2) pa_nil))))) pss_nil)
        (pss_cons (ps_expr (pe_bm PySem.F.plainAttrs_list PySem.F.slot_list_append PySem.F.type_list_append mt_append (pv 3) (pa_cons (pe_tup (pa_cons (pv 4) (pa_cons (pv 5) pa_nil))) pa_nil)))
        (pss_one (ps_setLc (i := 2) (own := [("index", 6)]) (tt := tTest (tOp (rIn K true) (tVar 6) (tVar 5))) rfl nd rfl rfl (sw_true rfl rfl rfl (by decide +kernel)) (pi_list (pv 2)) (blkOk_by (own := [("index", 6)]) (N := n_steps_of) (sc := defScope s_steps_of) (by decide +kernel))
            (fun _ _ _ _ _ => pg_name (i := 6) nd rfl (Or.inl rfl)) (fun _ _ _ _ _ => pts_one (pt_cmpR (r := rIn K true) op_notIn_seq (pv 6) (pv 5) (by rfl))) (fun _ _ _ _ _ => pv 6)))))))
      (pss_one (ps_ret (pe_tup (pa_cons (pv 3) (pa_cons (pv 2) pa_nil))))))), ?_⟩
    have hg0 := hg
    obtain ⟨dx, vs0, hs⟩ := Slt_of hg
    have hb5 := hok.b5
    refine q_call (ea_cons (ev_var rfl) ea_nil) fun H1 e1 => ⟨a, g, dd, rfl, lasts_pg _ _ _ _ e1 hg, hok, hdd, fun dl H2 hdl e2 h2 => ?_⟩
    have e02 := e1.trans e2
    have er : ((List.range g.brs.length).filter fun i => !dd i).map (fun (n : Nat) => V.int (n : Int)) = given g.brs.length (fun i => !decide (i ∈ (List.range g.brs.length).filter dd)) (fun i => .int (i : Int)) := by
      unfold given
      congr 1
      refine List.filter_congr fun i hi => ?_
      cases hd : dd i with
      | true => rw [decide_eq_true (List.mem_filter.mpr ⟨hi, hd⟩)]
      | false => rw [decide_eq_false (fun z => by rw [(List.mem_filter.mp z).2] at hd; cases hd)]
    refine q_parLL (xs := ((List.range g.brs.length).filter fun i => !dd i).map fun (n : Nat) => V.int (n : Int)) (ys := []) ?_ (fun _ _ => el_lst ea_nil (by decide)) fun rl fl H3 hrl hfl nrf e3 hr3 hf3 => ?_
    · rw [er]
      exact el_lcV (t := tTest (tOp (rIn K true) (tVar 6) (tVar 1))) _ _ (ei_range g.brs.length (ea_cons (ev_lenOwn (ev_var rfl) (slt_ex e02 hs) (by omega) fun H4 e4 Q2 q2 E2 => ⟨a, g, rfl, lasts_pg _ _ _ _ (e02.trans e4) hg0, q2⟩) ea_nil) rfl (by omega)) (by omega) tg_name (fun _ => rfl) (fun i H4 e4 hi => et_niL (ev_var rfl) (ev_var rfl) (h2.ex e4)) (fun i H4 e4 hi _ => ev_var rfl)
    have hflH : H fl = none := fresh_back e02 hfl
    refine q_while (fun fu σ' H' => ∃ a4 a5 a6 rl restI qs acc, σ' = [some (.ref a), some (.ref dl), some (.ref rl), some (.ref fl), a4, a5, a6] ∧ Ex H H' ∧ NL H' rl restI ∧ restI.Nodup ∧ restI.length ≤ 5 ∧ (∀ i ∈ restI, i < g.brs.length) ∧
        H' fl = some (.lst (qs.map V.ref)) ∧ Each StepP H' qs acc ∧ acc.length + fu ≤ fuel ∧ stepsI (cpOf g) fu restI acc = some (fnd, rest)) fuel
      ⟨_, _, _, rl, _, [], [], rfl, e02.trans e3, hr3, List.Pairwise.filter _ List.nodup_range, Nat.le_trans (List.length_filter_le _ _) (by rw [List.length_range]; exact hb5), fun i hi => List.mem_range.mp (List.mem_filter.mp hi).1, hf3, ⟨rfl, fun i x hx => by cases hx⟩, by show 0 + fuel ≤ fuel; omega, hst⟩ fun fu σ' H4 hw => ?_
    obtain ⟨a4, a5, a6, rl, restI, qs, acc, rfl, e4, hr4, hnd4, hl4, hi4, hf4, hE4, hfu4, hst4⟩ := hw
    refine ⟨_, ev_gt (ev_len (ev_var rfl) (sq_of hr4.at)) ev_c, fun hb H5 e5 => ?_, fun hb H5 e5 => ?_⟩
    · have hne : restI ≠ [] := fun z => by
        rw [z] at hb
        cases hb
      cases fu with
      | zero => cases hst4
      | succ fu =>
        have hst5 : (if restI = [] then some (acc, []) else (bestG intN (cpOf g) restI).bind fun tk => if tk = [] then some (acc, restI) else stepsI (cpOf g) fu (restI.filter fun i => !decide (i ∈ tk)) (acc ++ [tk])) = some (fnd, rest) := hst4
        rw [if_neg hne] at hst5
        obtain ⟨tk, htk, hst6⟩ := Option.bind_eq_some_iff.mp hst5
        refine ⟨fun σ' H' => ∃ a4 a5 a6 rl restI qs acc, σ' = [some (.ref a), some (.ref dl), some (.ref rl), some (.ref fl), a4, a5, a6] ∧ Ex H H' ∧ NL H' rl restI ∧ restI.Nodup ∧ restI.length ≤ 5 ∧ (∀ i ∈ restI, i < g.brs.length) ∧
          H' fl = some (.lst (qs.map V.ref)) ∧ Each StepP H' qs acc ∧ acc.length + fu ≤ fuel ∧ stepsI (cpOf g) fu restI acc = some (fnd, rest), fun σ2 H' q => ⟨fu, Nat.lt_succ_self fu, q⟩, ?_⟩
        have e05 := e4.trans e5
        refine ⟨.ref a, rfl, .ref rl, rfl, ⟨a, rl, g, restI, tk, rfl, lasts_pg _ _ _ _ e05 hg0, hok, hr4.ex e5, hnd4, hl4, hi4, htk, fun p r t H6 hp e6 hp6 ht6 => ?_⟩⟩
        refine ⟨p, _, rfl, st_of hp6, rfl, _, _, rfl, _, _, rfl, rfl, ?_⟩
        dsimp only
        have e06 := e05.trans e6
        have hf6 := (e5.trans e6) fl _ hf4
        have hE6 := hE4.ex lasts_step (e5.trans e6)
        have hr6 := hr4.ex (e5.trans e6)
        by_cases htn : tk = []
        · rw [if_pos htn] at hst6
          have h0 := Option.some.inj hst6
          have r1 : acc = fnd := congrArg (fun z => z.1) h0
          have r2 : restI = rest := congrArg (fun z => z.2) h0
          refine q_yes (ev_eqI (ev_len (ev_var rfl) (sq_of ht6.at)) ev_c) (by rw [htn]; rfl) fun H7 e7 => ?_
          refine s_retU (eu_tup (ea_cons (ev_var rfl) (ea_cons (ev_var rfl) ea_nil)) (show 2 ≤ 100000 by decide)) fun o H8 ho e8 h8 => ?_
          rw [r1] at hE6
          rw [r2] at hr6
          exact k o fl rl qs H8 (fresh_back (e06.trans e7) ho) ((e06.trans e7).trans e8) h8 ((e7.trans e8) fl _ hf6) (hE6.ex lasts_step (e7.trans e8)) (hr6.ex (e7.trans e8))
        · rw [if_neg htn] at hst6
          refine q_skip (ev_eqI (ev_len (ev_var rfl) (sq_of ht6.at)) ev_c) (decide_eq_false fun z => htn (by
            rw [List.length_map] at z
            exact List.length_eq_zero_iff.mp (by omega))) fun H7 e7 => ?_
          refine q_appU (xs := qs.map V.ref) (ys := [.ref r, .ref t]) (e7 fl _ hf6) (ev_var rfl) (eu_tup (ea_cons (ev_var rfl) (ea_cons (ev_var rfl) ea_nil)) (show 2 ≤ 100000 by decide)) (by rw [List.length_map, hE4.len]; omega) fun o H8 ho e8 h8 => ?_
          have e68 := e7.trans e8
          have hf8 := e68 fl _ hf6
          have hE8 : Each StepP (upd H8 fl (.lst (qs.map V.ref ++ [.ref o]))) (qs ++ [o]) (acc ++ [tk]) := (steps_upd hf8 (hE6.ex lasts_step e68)).append (steps_upd hf8 (step_one ⟨htn, r, t, h8, ht6.ex e68⟩))
          have g8 : Ex H (upd H8 fl (.lst (qs.map V.ref ++ [.ref o]))) := Ex.mut (e06.trans e68) hflH
          have f8 : upd H8 fl (.lst (qs.map V.ref ++ [.ref o])) fl = some (.lst ((qs ++ [o]).map V.ref)) := by
            rw [upd_same, List.map_append]
            rfl
          have ntf : t ≠ fl := fun z => by
            rw [z] at ht6
            have h9 := ht6.at
            rw [hf6] at h9
            have h10 := HO.lst.inj (Option.some.inj h9)
            cases tk with
            | nil => exact htn rfl
            | cons x xs =>
              cases qs with
              | nil => cases h10
              | cons y ys => cases h10
          have nrf2 : rl ≠ fl := fun z => by
            rw [z] at hr6
            have h9 := hr6.at
            rw [hf6] at h9
            have h10 := HO.lst.inj (Option.some.inj h9)
            cases restI with
            | nil => exact hne rfl
            | cons x xs =>
              cases qs with
              | nil => cases h10
              | cons y ys => cases h10
          have ht8 : NL (upd H8 fl (.lst (qs.map V.ref ++ [.ref o]))) t tk := by
            show upd H8 fl _ t = _
            rw [upd_ne ntf]
            exact e68 t _ ht6.at
          have hr8 : NL (upd H8 fl (.lst (qs.map V.ref ++ [.ref o]))) rl restI := by
            show upd H8 fl _ rl = _
            rw [upd_ne nrf2]
            exact e68 rl _ hr6.at
          generalize upd H8 fl (.lst (qs.map V.ref ++ [.ref o])) = H9 at hE8 g8 f8 ht8 hr8 ⊢
          have en : (restI.filter fun i => !decide (i ∈ tk)).map (fun (n : Nat) => V.int (n : Int)) = given restI.length (fun i => !decide (restI.getD i 0 ∈ tk)) (fun i => .int ((restI.getD i 0 : Nat) : Int)) := by
            rw [filter_at 0 (fun i => !decide (i ∈ tk)) restI, List.map_map]
            rfl
          have hI := ei_list (K := K) (tl := tVar 2) (σ := [some (.ref a), some (.ref dl), some (.ref rl), some (.ref fl), some (.ref r), some (.ref t), a6]) (ev_var rfl) hr8.at
          rw [List.length_map] at hI
          refine s_asgL (xs := (restI.filter fun i => !decide (i ∈ tk)).map fun (n : Nat) => V.int (n : Int)) ?_ fun nl H10 hnl e10 h10 => ?_
          · rw [en]
            refine el_lcV (t := tTest (tOp (rIn K true) (tVar 6) (tVar 5))) _ _ hI (by omega) tg_name (fun _ => rfl) (fun i H11 e11 hi => et_niL (ev_var ?_) (ev_var rfl) (ht8.ex e11)) (fun i H11 e11 hi _ => ev_var ?_)
            · rw [atV_of (nat_at hi)]
              rfl
            · rw [atV_of (nat_at hi)]
              rfl
          · exact ⟨_, _, _, nl, _, _, _, rfl, g8.trans e10, h10, List.Pairwise.filter _ hnd4, Nat.le_trans (List.length_filter_le _ _) hl4, fun i hi => hi4 i (List.mem_filter.mp hi).1, e10 fl _ f8, hE8.ex lasts_step e10, by rw [List.length_append]; show acc.length + 1 + fu ≤ fuel; omega, hst6⟩
    · have he : restI = [] := List.length_eq_zero_iff.mp (by
        have h9 : ¬ (0 : Int) < ((restI.map fun (n : Nat) => V.int (n : Int)).length : Int) := of_decide_eq_false hb
        rw [List.length_map] at h9
        omega)
      cases fu with
      | zero => cases hst4
      | succ fu =>
        have hst5 : (if restI = [] then some (acc, []) else (bestG intN (cpOf g) restI).bind fun tk => if tk = [] then some (acc, restI) else stepsI (cpOf g) fu (restI.filter fun i => !decide (i ∈ tk)) (acc ++ [tk])) = some (fnd, rest) := hst4
        rw [if_pos he] at hst5
        have h0 := Option.some.inj hst5
        have r1 : acc = fnd := congrArg (fun z => z.1) h0
        have r2 : ([] : List Nat) = rest := congrArg (fun z => z.2) h0
        rw [r1] at hE4
        rw [he, r2] at hr4
        exact s_retU (eu_tup (ea_cons (ev_var rfl) (ea_cons (ev_var rfl) ea_nil)) (show 2 ≤ 100000 by decide)) fun o H8 ho e8 h8 => k o fl rl qs H8 (fresh_back (e4.trans e5) ho) ((e4.trans e5).trans e8) h8 ((e5.trans e8) fl _ hf4) (hE4.ex lasts_step (e5.trans e8)) (hr4.ex (e5.trans e8))
end
end Fd
end

section
set_option Elab.async false
set_option linter.all false
set_option maxRecDepth 100000
set_option maxHeartbeats 4000000
/-! WO: lowest_rank. -/
namespace FR
def capRow (wide : Nat) (q : Q4) : List Int := ((zeros intN (wide + 1)).set q.2.2.2 1).set wide 1
theorem lowRows_int (cp : CProg Int) (idx : List Nat) : lowRows intN cp idx = rankRows intN cp (wideOf cp.brs idx (wide0 cp)) (lay cp.brs idx (wide0 cp)) ++ (lay cp.brs idx (wide0 cp)).map (capRow (wideOf cp.brs idx (wide0 cp))) := rfl
theorem low_some {cp : CProg Int} {idx : List Nat} {pi : Nat} {point : List Int} {o : Out Int} (h : lowG intN cp idx pi point = some o) :
    ∃ r, most intN (lowRows intN cp idx) (goalInto intN (cp.nv + 1) pi (point ++ [1]) 0 (zeros intN (wideOf cp.brs idx (wide0 cp)))) = some (some r) ∧ ((r = none ∧ o = .endless) ∨ ∃ tops b, r = some (tops, b) ∧ o = .val (valueAt intN (formOf intN (cp.nv + 1) tops pi) point) b) := by
  obtain ⟨r, h1, h2⟩ := Option.bind_eq_some_iff.mp h
  match r, h1, h2 with
  | some (some (tops, b)), h1, h2 => exact ⟨some (tops, b), h1, .inr ⟨tops, b, rfl, (Option.some.inj h2).symm⟩⟩
  | some none, h1, h2 => exact ⟨none, h1, .inl ⟨rfl, (Option.some.inj h2).symm⟩⟩
  | none, h1, h2 => cases h2
theorem goalInto_len {step place : Nat} : ∀ {pt : List Int} {at_ : Nat} {goal : List Int}, (goalInto intN step place pt at_ goal).length = goal.length
  | [], _, _ => rfl
  | p :: r, at_, goal => by
    show (goalInto intN step place r _ _).length = _
    rw [goalInto_len, placeInto_len]
theorem goalInto_drop {step place : Nat} {pt : List Int} {i : Nat} {goal : List Int} (hi : i < pt.length) : goalInto intN step place (pt.drop i) i goal = goalInto intN step place (pt.drop (i + 1)) (i + 1) (placeInto intN step goal place i (-(pt.getD i 0))) := by
  rw [List.drop_eq_getElem_cons hi, List.getD_eq_getElem?_getD, List.getElem?_eq_getElem hi]
  show goalInto intN step place _ (i + 1) (placeInto intN step goal place i (neg intN pt[i])) = _
  rw [FR.neg_int]
  rfl
theorem capRow_len {wide : Nat} {q : Q4} : (capRow wide q).length = wide + 1 := by
  unfold capRow
  rw [List.length_set, List.length_set, zeros_len]
end FR
namespace Ew
open PySem PySem.Spec PyProof.Rows L2 Evl
section
variable {K : Fg} {σ : L2.St} {H H' : Hp} {ta tb te tx tv tk td ty to ti tc : TE} {t u : TT} {x y z v w : V} {r : R2} {D : Ends} {tu tw tz : TS}
/-- l[i], l[j] = x, y where only l changes -/
theorem q_set2 {B : Hp} {l : Addr} {xs : List V} {n1 n2 : Nat} {t1 t2 o1 o2 : TE} (hl : H l = some (.lst xs)) (eB : Ex B H) (hB : B l = none) (hx : Ev ta σ H x) (hy : Ev tb σ H y)
    (w1 : ∀ H', Ex B H' → Ev o1 σ H' (.ref l)) (w2 : ∀ H', Ex B H' → Ev o2 σ H' (.ref l)) (i1 : ∀ H', Ex B H' → Ev t1 σ H' (.int (n1 : Int))) (i2 : ∀ H', Ex B H' → Ev t2 σ H' (.int (n2 : Int)))
    (h1 : n1 < xs.length) (h2 : n2 < xs.length) (k : ∀ H', Ex B H' → H' l = some (.lst ((xs.set n1 x).set n2 y)) → tz D σ H') :
    tSeq (tAsg (tTup (tCons ta (tCons tb tNil))) (gTup K 2 (gCons (gSub o1 t1 rSetL) (gCons (gSub o2 t2 rSetL) gNil)))) tz D σ H :=
  hx H (Ex.refl H) _ fun Ha ea => hy Ha ea _ fun H1 eb => ⟨by show 2 ≤ sizeLine; decide, fun p hp => ⟨p, _, rfl, st_of upd_same, rfl, _, _, rfl, by
    have e1 := ea.trans eb
    have f1 : Ex B (upd H1 p (.tup [x, y])) := (eB.trans e1).trans (Ex.new hp)
    have npl : p ≠ l := fun z => by
      rw [z, e1 l _ hl] at hp
      cases hp
    have l1 : upd H1 p (.tup [x, y]) l = some (.lst xs) := by
      rw [upd_ne (Ne.symm npl)]
      exact e1 l _ hl
    generalize upd H1 p (.tup [x, y]) = H2 at f1 l1 ⊢
    refine w1 H2 f1 H2 (Ex.refl H2) _ fun H3 e3 => i1 H3 (f1.trans e3) H3 (Ex.refl H3) _ fun H4 e4 => ⟨l, xs, _, n1, rfl, rfl, (e3.trans e4) l _ l1, ixN_nat h1, _, _, rfl, ?_⟩
    have f4 : Ex B (upd H4 l (.lst (xs.set n1 x))) := Ex.mut ((f1.trans e3).trans e4) hB
    have l4 : upd H4 l (.lst (xs.set n1 x)) l = some (.lst (xs.set n1 x)) := upd_same
    generalize upd H4 l (.lst (xs.set n1 x)) = H5 at f4 l4 ⊢
    refine w2 H5 f4 H5 (Ex.refl H5) _ fun H6 e6 => i2 H6 (f4.trans e6) H6 (Ex.refl H6) _ fun H7 e7 => ⟨l, _, _, n2, rfl, rfl, (e6.trans e7) l _ l4, ixN_nat (by rw [List.length_set]; exact h2), rfl, ?_⟩
    exact k _ (Ex.mut ((f4.trans e6).trans e7) hB) upd_same⟩⟩
/-- for i, x in enumerate(a tuple just made) -/
theorem q_forEU {xs : List V} {tl : TE} {g : TG} {tb : TS} (h : EvU tl σ H xs) (Pv : Addr → Nat → L2.St → Hp → Prop) (h0 : ∀ p H1, H p = none → Ex H H1 → H1 p = some (.tup xs) → Pv p 0 σ H1) (hG : ∀ p i σ' H', Pv p i σ' H' → H' p = some (.tup xs))
    (hs : ∀ p i x σ' H1 H2, i < xs.length → Pv p i σ' H1 → YP2 (fun i => .int (i : Int)) (atV xs) i H1 x H2 → g x σ' H2 fun σ2 H3 => tb { nx := Pv p (i + 1), rt := D.rt, bk := tz D, ct := Pv p (i + 1) } σ2 H3) (hd : ∀ p σ' H', Pv p xs.length σ' H' → tz D σ' H') : tSeq (tFor (Gap.iEnumT K (tCons tl tNil)) g tb) tz D σ H :=
  h H (Ex.refl H) _ fun p H1 hp e1 h1 => s_for (wi := Gap.iEnumT K (tCons (tC (.ref p)) tNil)) (g := g) (tu := tb) (D := { D with nx := tz D }) (ew_enumT (K := K) (ea_cons ev_c ea_nil) h1) (Pv p) (fun H2 e2 _ => h0 p H2 hp (e1.trans e2) (e2 p _ h1)) (fun i σ' H' => hG p i σ' H') (fun i x σ' H1 H2 hi hP y => hs p i x σ' H1 H2 hi hP y) (fun σ' H' => hd p σ' H')
theorem q_parPL2 {i j : Nat} {Pr : V → Hp → Prop} {ys : List V} (h1 : EvP ta σ H Pr) (h2 : ∀ H1, Ex H H1 → EvL tb σ H1 ys) (k : ∀ v q H1 H2, Ex H H1 → Pr v H1 → H1 q = none → Ex H1 H2 → H2 q = some (.lst ys) → tz D ((σ.set i (some v)).set j (some (.ref q))) H2) : tSeq (tPar i j (tCons ta (tCons tb tNil))) tz D σ H :=
  h1 H (Ex.refl H) _ fun v H1 e1 hv => h2 H1 e1 H1 (Ex.refl H1) _ fun q H2 hq e2 hq2 => ⟨_, _, rfl, k v q H1 H2 e1 hv hq e2 hq2⟩
theorem s_retCC {sp1 sp2 : Sp} {E1 E2 : XK} {t2 : TA} {vs : List V} (h1 : Ev ta σ H x) (h2 : EvA t2 σ H vs) (k : ∀ H1, Ex H H1 → sp2 (vs ++ []) H1 (fun v H2 => sp1 ([x, v] ++ []) H2 D.rt E1) E2) : tRet (tCall sp1 [] E1 (tCons ta (tCons (tCall sp2 [] E2 t2) tNil))) D σ H :=
  h1 H (Ex.refl H) _ fun H1 e1 => h2 H1 e1 _ fun H2 e2 => k H2 (e1.trans e2)
theorem s_retIf {b : Bool} (h : EvT t σ H b) (h1 : b = true → ∀ H1, Ex H H1 → tRet ta D σ H1) (h2 : b = false → ∀ H1, Ex H H1 → tRet tb D σ H1) : tRet (tIf t ta tb) D σ H := h H (Ex.refl H) _ fun H1 e => by
  cases b with
  | true => exact h1 rfl H1 e
  | false => exact h2 rfl H1 e
end
theorem mat_del {H : Hp} {t gp : Addr} {ps : List Addr} {T : List (List Int)} {goal : List Int} (h : Mat H t ps T) (hg : IL H gp goal) (n : t ≠ gp) (hl : ∀ r ∈ T, r.length ≠ goal.length) : Mat (del H gp) t ps T := by
  refine ⟨by rw [del_ne n]; exact h.at_, h.rows.len, fun i hi => ?_⟩
  obtain ⟨a, a1, a2⟩ := h.rows.row i hi
  refine ⟨a, a1, ?_⟩
  have na : a ≠ gp := fun z => by
    have h5 := a2.at
    rw [z, hg.at] at h5
    have h6 := congrArg List.length (HO.lst.inj (Option.some.inj h5))
    rw [List.length_map, List.length_map] at h6
    refine hl (T.getD i []) ?_ h6.symm
    rw [List.getD_eq_getElem?_getD, List.getElem?_eq_getElem hi]
    exact List.getElem_mem hi
  show del H gp a = _
  rw [del_ne na]
  exact a2
end Ew
namespace Fd
open PySem PySem.Spec PyProof.Rows L2 Evl Ew Tx FR
section
variable {P : Program} {w : World} {K : PySem.W.Frag} {mg : Str → Option Value} {base : Heap}
/-- what a rank is told as: the value over the bottom, and the forms -/
def RankAt (g : Pg) (pi : Nat) (point : List Int) (num den : Int) (p : Addr) (H : Hp) : Prop := ∃ q tops d, 0 < den ∧ Fit den ∧ (∀ x ∈ tops, Fit x) ∧ wide0 (cpOf g) ≤ tops.length ∧ 0 < d ∧ d ∣ den ∧ (∀ f ∈ formsL g tops, ∀ x ∈ f, d ∣ x) ∧ num = valueAt intN (formOf intN (g.names.length + 1) tops pi) point ∧
  H p = some (.tup [.int (den.fdiv d), .ref q]) ∧ TupOf FormP (overD (formsL g tops) d) q H
def sp_lowest_rank (T : Txt K mg) : Sp := fun vs H Q _ => ∃ (a ip : Addr) (g : Pg) (idx : List Nat) (x : Str) (pi : Nat) (pp : Addr) (point : List Int) (o : Out Int), vs = [.ref a, .ref ip, .str x, .ref pp] ∧ PgAt T.pro.C g a H ∧ PgOk g ∧ NL H ip idx ∧ idx.Nodup ∧ idx.length ≤ 5 ∧ (∀ i ∈ idx, i < g.brs.length) ∧
  g.places[pi]? = some x ∧ TupI H pp point ∧ point.length = g.names.length ∧ lowG intN (cpOf g) idx pi point = some o ∧
  (o = .endless → ∀ H2, Ex H H2 → Q .non H2) ∧ ∀ num den, o = .val num den → ∀ p H2, H p = none → Ex H H2 → RankAt g pi point num den p H2 → Q (.ref p) H2
theorem ok_lowest_rank (T : Txt K mg) : FnOk P w K mg base CX0 6 T.lowest_rank.a T.lowest_rank.d p_lowest_rank (sp_lowest_rank T) := by
  have G0 := ok_Columns_init (P := P) (w := w) (base := base) T
  have G1 := ok_rank_rows (P := P) (w := w) (base := base) T
  have G2 := ok_most (P := P) (w := w) (base := base) T
  have G3 := ok_read_forms (P := P) (w := w) (base := base) T
  have G4 := ok_plain_rank (P := P) (w := w) (base := base) T
  have G5 := ok_place_into (P := P) (w := w) (base := base) T
  refine T.lowest_rank.F.ok sc_lowest_rank (fun vs H Q E h => ?_) (fun cdv A outer s H vs Q E hr h => ?_)
  · obtain ⟨a, ip, g, idx, x, pi, pp, point, o, rfl, _⟩ := h
    rfl
  · obtain ⟨a, ip, g, idx, x, pi, pp, point, o, rfl, hg, hok, hip, hnd, hil, hix, hpx, hpt, hptl, hlow, kE, kV⟩ := h
    have nd := sc_lowest_rank.nd
    have hu := hr.units
    have hu1 : (A.deeper (envOfC "lowest_rank" (defScope s_lowest_rank) s.heap.objs.size T.lowest_rank.a cdv)).units + 1 < cLine := by omega
    have hr4 := hr.mono (show 4 ≤ 5 by decide)
    have hr1 := hr.mono (show 1 ≤ 5 by decide)
    have n3 := T.col.n "wide" (by decide +kernel)
    have n4 := T.col.n "parts" (by decide +kernel)
    refine ⟨_, pss_cons (ps_set (i := 4) nd rfl (Or.inl rfl) (pe_make T.col.k G0 hr (by rfl) T.col.g T.col.init.b .nil pass0 (pa_cons (pv 0) (pa_cons (pv 1) pa_nil))))
      (pss_cons (ps_par (i := 5) (j := 6) rfl nd rfl rfl (by decide) rfl rfl (pa_cons (pe_call G1 hr4 (by rfl) T.rank_rows.g T.rank_rows.F.kp T.rank_rows.b .nil pass0 (pa_cons (pv 0) (pa_cons (pv 4) (pa_cons (pv 1) pa_nil)))) (pa_cons (pe_lc (own := [("column", 12)]) (by rfl) nd (pi_range1 (by rfl) T.z.range (pa_cons (pe_fld (pv 4) (by rfl)) pa_nil)) (blkOk_by (own := [("column", 12)]) (N := n_lowest_rank) (sc := defScope s_lowest_rank) (by decide +kernel))
            (fun _ _ _ _ _ => pg_name (i := 12) nd rfl (Or.inl rfl)) (fun _ _ _ _ _ => pts_nil) (fun _ _ _ _ _ => pe_int)) pa_nil)) (by rfl))
      (pss_cons (ps_for PassesOwn.never rfl (pi_list (pv 1)) (pg_name (i := 7) nd rfl (Or.inl rfl))
        (pss_cons (ps_setLc (i := 8) (own := [("column", 12)]) rfl nd rfl rfl (sw_true rfl rfl rfl (by decide +kernel)) (pi_range1 (by rfl) T.z.range (pa_cons (pe_op op_add (pe_fld (pv 4) (by rfl)) pe_int) pa_nil)) (blkOk_by (own := [("column", 12)]) (N := n_lowest_rank) (sc := defScope s_lowest_rank) (by decide +kernel))
            (fun _ _ _ _ _ => pg_name (i := 12) nd rfl (Or.inl rfl)) (fun _ _ _ _ _ => pts_nil) (fun _ _ _ _ _ => pe_int))
        (pss_cons (ps_asg (pe_tup (pa_cons pe_int (pa_cons pe_int pa_nil))) (pg_tup rfl (pgs_cons (pg_sub (pv 8) (pe_ix (r := rIxT K) ix_tup (pe_dget hu1 (pe_fld (pv 4) (by rfl)) (pv 7) (fun _ _ => rfl)) pe_int (fun _ _ => rfl)) set_list) (pgs_cons (pg_sub (pv 8) (pe_fld (pv 4) (by rfl)) set_list) pgs_nil))))
        (pss_one (ps_expr (pe_bm PySem.F.plainAttrs_list PySem.F.slot_list_append PySem.F.type_list_append mt_append (pv 5) (pa_cons (pv 8) pa_nil)))))))
      (pss_cons (ps_for PassesOwn.never rfl (Gap.pi_enumT (by rfl) T.z.enumerate (pa_cons (pe_tup (StX.pa_star (pv 3) (pa_cons pe_int pa_nil))) pa_nil)) (pg_tup rfl (pgs_cons (pg_name (i := 9) nd rfl (Or.inl rfl)) (pgs_cons (pg_name (i := 10) nd rfl (Or.inl rfl)) pgs_nil)))
        (pss_one (ps_expr (pe_meth (pv 4) T.col.c T.col.m G5 hr1 T.col.place_into.b .nil pass0 (pa_cons (pv 6) (pa_cons (pv 2) (pa_cons (pv 9) (pa_cons (pe_un un_neg (pv 10)) pa_nil))))))))
      (pss_cons (ps_set (i := 11) nd rfl (Or.inl rfl) (pe_call G2 hr4 (by rfl) T.most.g T.most.F.kp T.most.b .nil pass0 (pa_cons (pv 5) (pa_cons (pv 6) pa_nil))))
      (pss_one (ps_ret (pe_ifExp (pt_cmpR op_eq (pe_callB (r := rLenS K) call_len_seq (by rfl) T.z.len PySem.boot_len (pa_cons (pv 11) pa_nil)) pe_int (nomark _)) pe_non
          (pe_call G4 (hr.mono (by decide)) (by rfl) T.plain_rank.g T.plain_rank.F.kp T.plain_rank.b .nil pass0 (pa_cons (pe_ix (r := rIxT K) ix_tup (pv 11) pe_int (fun _ _ => rfl)) (pa_cons (pe_call G3 hr4 (by rfl) T.read_forms.g T.read_forms.F.kp T.read_forms.b .nil pass0 (pa_cons (pv 0) (pa_cons (pv 4) (pa_cons (pe_ix (r := rIxT K) ix_tup (pv 11) pe_int (fun _ _ => rfl)) pa_nil)))) pa_nil)))))))))), ?_⟩
    obtain ⟨r, hmo, halt⟩ := low_some hlow
    have hwl : wideL g idx ≤ 110 := wide_le hok hil (size_le hok)
    have hw0 : wide0 (cpOf g) ≤ wideL g idx := wide_ge
    have hnv := hok.n3
    have hnv2 : (cpOf g).nv = g.names.length := rfl
    have hpi : pi < g.places.length := (List.getElem?_eq_some_iff.mp hpx).1
    refine q_asgP (ev_Columns T (ea_cons (ev_var rfl) (ea_cons (ev_var rfl) ea_nil)) hg hok hip hnd hil hix) fun v H1 e1 hv => ?_
    obtain ⟨c, rfl, hC⟩ := hv
    have hg1 := lasts_pg _ _ _ _ e1 hg
    have hip1 := hip.ex e1
    refine q_parPL2 (Pr := fun v H' => ∃ p ps, v = .ref p ∧ H1 p = none ∧ Mat H' p ps (rankRows intN (cpOf g) (wideL g idx) (colsOf g idx))) (ys := (zeros intN (wideL g idx)).map V.int)
      (fun H2 e2 Q2 q2 => ⟨.ref a, rfl, .ref c, rfl, .ref ip, rfl, ⟨a, c, ip, g, idx, rfl, lasts_pg _ _ _ _ e2 hg1, hok, lasts_col _ _ _ _ e2 hC, hip1.ex e2, hil, hix, fun p ps H3 hp e3 h3 => q2 _ H3 e3 ⟨p, ps, rfl, fresh_back e2 hp, h3⟩⟩⟩) (fun H2 e2 => ?_) fun v gp H2 H3 e2 hv hgp e3 h3 => ?_
    · rw [zeros_map]
      exact el_map (fun _ => .int 0) (ei_range (wideL g idx) (ea_cons (ev_wide (lasts_col _ _ _ _ e2 hC) T.col.c n3 (ev_var rfl)) ea_nil) rfl (by omega)) (by omega) tg_name (fun _ => rfl) fun _ _ _ _ => ev_c
    obtain ⟨rp, rps, rfl, hrp, hM⟩ := hv
    have hgp1 : H1 gp = none := fresh_back e2 hgp
    have nrg : rp ≠ gp := ne_of_none hM.at_ hgp
    have hI := ew_list (K := K) (tl := tVar 1) (σ := [some (.ref a), some (.ref ip), some (.str x), some (.ref pp), some (.ref c), some (.ref rp), some (.ref gp), none, none, none, none, none, none]) (ev_var rfl) ((e2.trans e3) ip _ hip1.at)
    rw [List.length_map] at hI
    have hrl := rankRows_len (cp := cpOf g) (wide := wideL g idx) (l := colsOf g idx)
    rw [hnv2, cols_len] at hrl
    have hrl2 : (2 * g.names.length + 3) * idx.length ≤ 9 * 5 := Nat.mul_le_mul (by omega) (by omega)
    refine q_for hI (fun i σ' H' => ∃ a7 a8 ps, σ' = [some (.ref a), some (.ref ip), some (.str x), some (.ref pp), some (.ref c), some (.ref rp), some (.ref gp), a7, a8, none, none, none, none] ∧ Ex H1 H' ∧ Mat H' rp ps (rankRows intN (cpOf g) (wideL g idx) (colsOf g idx) ++ ((colsOf g idx).take i).map (capRow (wideL g idx))) ∧ IL H' gp (zeros intN (wideL g idx)))
      (fun H4 e4 _ => ⟨_, _, rps, rfl, (e2.trans e3).trans e4, by rw [List.take_zero, List.map_nil, List.append_nil]; exact hM.ex (e3.trans e4), e4 gp _ h3⟩) (fun _ _ _ ⟨_, _, _, _, e, _⟩ => e ip _ hip1.at) (fun i y σ' H4 H5 hi hP yy => ?_) (fun σ' H4 hP => ?_)
    · obtain ⟨a7, a8, ps, rfl, e4, hM4, hG4⟩ := hP
      refine y_name yy ?_
      rw [idx_at (g := g) hi]
      obtain ⟨m1, m2⟩ := cols_get (g := g) hi
      have hci : i < (colsOf g idx).length := by rw [cols_len]; exact hi
      have htk : (colsOf g idx).take (i + 1) = (colsOf g idx).take i ++ [(colsOf g idx).getD i q0] := by
        rw [List.take_succ, List.getD_eq_getElem?_getD, List.getElem?_eq_getElem hci]
        rfl
      have hlt : ((colsOf g idx).getD i q0).2.2.2 < wideL g idx := by
        have := (FR.lay_at m1).2.2.2
        have h9 : wideOf (cpOf g).brs idx (wide0 (cpOf g)) = wideL g idx := rfl
        omega
      have hC4 := lasts_col _ _ _ _ e4 hC
      generalize (colsOf g idx).getD i q0 = q at m1 htk hlt ⊢
      refine q_asgL (xs := (zeros intN (wideL g idx + 1)).map V.int) ?_ fun ro H6 hro e6 h6 => ?_
      · rw [zeros_map]
        exact el_map (fun _ => .int 0) (ei_range (wideL g idx + 1) (ea_cons (ev_add (ev_wide hC4 T.col.c n3 (ev_var rfl)) ev_c) ea_nil) (by omega) (by omega)) (by omega) tg_name (fun _ => rfl) fun _ _ _ _ => ev_c
      have hzl : ((zeros intN (wideL g idx + 1)).map V.int).length = wideL g idx + 1 := by rw [List.length_map, zeros_len]
      refine q_set2 (n1 := q.2.2.2) (n2 := wideL g idx) h6 e6 hro ev_c ev_c (fun _ _ => ev_var rfl) (fun _ _ => ev_var rfl) (fun H' e' => ev_part (k := 2) (lasts_col _ _ _ _ e' hC4) T.col.c n4 (ev_var rfl) (ev_var rfl) m1 ev_c rfl) (fun H' e' => ev_wide (lasts_col _ _ _ _ e' hC4) T.col.c n3 (ev_var rfl)) (by omega) (by omega) fun H7 e7 h7 => ?_
      have hM7 := hM4.ex e7
      have hcr : IL H7 ro (capRow (wideL g idx) q) := by
        show H7 ro = _
        rw [h7]
        unfold capRow
        rw [List.map_set, List.map_set]
      refine s_app hM7.at_ (ev_var rfl) (ev_var rfl) (by rw [List.length_map, hM4.rows.len, List.length_append, List.length_map, List.length_take, cols_len]; omega) fun H8 e8 => ⟨_, _, ps ++ [ro], rfl, Ex.mut ((e4.trans e7).trans e8) hrp, ?_, ?_⟩
      · rw [htk, List.map_append, ← List.append_assoc]
        exact Mat.snoc hM4 (e7.trans e8) hro (hcr.ex e8)
      · show upd H8 rp _ gp = _
        rw [upd_ne (Ne.symm nrg)]
        exact (e7.trans e8) gp _ hG4.at
    · obtain ⟨a7, a8, ps, rfl, e4, hM4, hG4⟩ := hP
      rw [← cols_len (g := g), List.take_length] at hM4
      have hM4 : Mat H4 rp ps (lowRows intN (cpOf g) idx) := hM4
      have hlr : (lowRows intN (cpOf g) idx).length ≤ 50 ∧ ∀ r ∈ lowRows intN (cpOf g) idx, r.length = wideL g idx + 1 := by
        rw [lowRows_int]
        refine ⟨?_, fun r hr2 => ?_⟩
        · rw [List.length_append, List.length_map]
          have h9 : (lay (cpOf g).brs idx (wide0 (cpOf g))).length = idx.length := cols_len (g := g)
          have h10 : (rankRows intN (cpOf g) (wideOf (cpOf g).brs idx (wide0 (cpOf g))) (lay (cpOf g).brs idx (wide0 (cpOf g)))).length ≤ (2 * g.names.length + 3) * idx.length := hrl.1
          omega
        · rcases List.mem_append.mp hr2 with z | z
          · exact hrl.2 r z
          · obtain ⟨q, _, rfl⟩ := List.mem_map.mp z
            exact capRow_len
      -- the goal
      refine q_forEU (xs := (point ++ [1]).map V.int) (eu_tup (ea_is (ea_star (K := K) (ev_var rfl) ((e1.trans e4) pp _ hpt) (ea_cons ev_c ea_nil)) (by rw [List.map_append]; rfl)) (by rw [List.length_map, List.length_append, hptl]; show _ + 1 ≤ 100000; omega))
        (fun pl i σ' H' => ∃ a9 a10 goali, σ' = [some (.ref a), some (.ref ip), some (.str x), some (.ref pp), some (.ref c), some (.ref rp), some (.ref gp), a7, a8, a9, a10, none, none] ∧ Ex H1 H' ∧ Mat H' rp ps (lowRows intN (cpOf g) idx) ∧ IL H' gp goali ∧ goali.length = wideL g idx ∧ H' pl = some (.tup ((point ++ [1]).map V.int)) ∧
          goalInto intN (g.names.length + 1) pi ((point ++ [1]).drop i) i goali = goalInto intN (g.names.length + 1) pi (point ++ [1]) 0 (zeros intN (wideL g idx)))
        (fun pl H5 hpl e5 h5 => ⟨_, _, zeros intN (wideL g idx), rfl, e4.trans e5, hM4.ex e5, hG4.ex e5, zeros_len, h5, rfl⟩) (fun _ _ _ _ ⟨_, _, _, _, _, _, _, _, h, _⟩ => h) (fun pl i y σ' H5 H6 hi hP yy => ?_) (fun pl σ' H5 hP => ?_)
      · obtain ⟨a9, a10, goali, rfl, e5, hM5, hG5, hgl5, hp5, ht5⟩ := hP
        refine y_pair yy fun H7 e7 _ => ?_
        rw [List.length_map] at hi
        have hi2 := hi
        rw [List.length_append, hptl] at hi2
        have hi3 : i < g.names.length + 1 := hi2
        rw [atV_int hi]
        have hM7 := hM5.ex e7
        have hG7 := hG5.ex e7
        have hdel : Ex H1 (del H7 gp) := ex_to_del (e5.trans e7) hgp1
        have hMd := mat_del hM7 hG7 nrg fun r hr2 z => by
          have := hlr.2 r hr2
          omega
        have npg : pl ≠ gp := fun z => by
          rw [z, hG5.at] at hp5
          cases hp5
        refine s_place (B := del H7 gp) (ev_var rfl) (lasts_col _ _ _ _ (e5.trans e7) hC) hG7 ex_del del_at hpx (by rw [hgl5]; have h9 := spot_lt hpi hi3; have h10 : wide0 (cpOf g) = 2 * (g.names.length + 1) * g.places.length := rfl; omega)
          (ea_cons (ev_var rfl) (ea_cons (ev_var rfl) (ea_cons (ev_var rfl) (ea_cons (ev_un (ev_var rfl) ru_neg) ea_nil)))) fun H8 e8 h8 => ?_
        exact ⟨_, _, _, rfl, hdel.trans e8, hMd.ex e8, h8, by rw [placeInto_len, hgl5], e8 pl _ (by rw [del_ne npg]; exact e7 pl _ hp5), (goalInto_drop hi).symm.trans ht5⟩
      · obtain ⟨a9, a10, goalF, rfl, e5, hM5, hG5, hgl5, hp5, ht5⟩ := hP
        rw [List.length_map, List.drop_length] at ht5
        have ht5 : goalF = goalInto intN (g.names.length + 1) pi (point ++ [1]) 0 (zeros intN (wideL g idx)) := ht5
        have e05 := e1.trans e5
        rw [show goalInto intN ((cpOf g).nv + 1) pi (point ++ [1]) 0 (zeros intN (wideOf (cpOf g).brs idx (wide0 (cpOf g)))) = goalF from ht5.symm] at hmo
        refine q_call (ea_cons (ev_var rfl) (ea_cons (ev_var rfl) ea_nil)) fun H6 e6 => ?_
        refine ⟨rp, gp, ps, _, goalF, _, rfl, hM5.ex e6, hG5.ex e6, fun r hr2 => by rw [hgl5]; exact hlr.2 r hr2, by omega, by rw [hgl5]; omega, hmo, (fun z => by cases z), fun z p H7 hp e7 h7 => ?_, fun tops b z htl htf hb0 hbf p a2 H7 hp ha e7 ha7 hp7 => ?_⟩
        · have z1 : r = none := Option.some.inj z
          have hoE : o = .endless := by
            rcases halt with ⟨_, h9⟩ | ⟨tops, b, h9, _⟩
            · exact h9
            · rw [z1] at h9
              cases h9
          refine s_retIf (b := true) (et_is (ev_eqI (ev_lenT (ev_var rfl) h7) ev_c) rfl) (fun _ H8 e8 => ?_) (fun z => by cases z)
          exact s_ret ev_c fun H9 e9 => kE hoE H9 ((((e05.trans e6).trans e7).trans e8).trans e9)
        · have z1 : r = some (tops, b) := Option.some.inj z
          have hoV : o = .val (valueAt intN (formOf intN (g.names.length + 1) tops pi) point) b := by
            rcases halt with ⟨h9, _⟩ | ⟨tops', b', h9, h10⟩
            · rw [z1] at h9
              cases h9
            · rw [z1] at h9
              have h11 := Option.some.inj h9
              rw [h10, ← show tops = tops' from congrArg (fun z => z.1) h11, ← show b = b' from congrArg (fun z => z.2) h11]
              rfl
          rw [hgl5] at htl
          refine s_retIf (b := false) (et_is (ev_eqI (ev_lenT (ev_var rfl) hp7) ev_c) rfl) (fun z => by cases z) (fun _ H8 e8 => ?_)
          have e08 := ((e05.trans e6).trans e7).trans e8
          refine s_retCC (ev_ixT (i := 1) (ev_var rfl) ev_c (e8 p _ hp7) rfl) (ea_cons (ev_var rfl) (ea_cons (ev_var rfl) (ea_cons (ev_ixT (i := 0) (ev_var rfl) ev_c (e8 p _ hp7) rfl) ea_nil))) fun H9 e9 => ?_
          refine ⟨a, c, a2, g, idx, tops, rfl, lasts_pg _ _ _ _ (e08.trans e9) hg, hok, lasts_col _ _ _ _ ((((e5.trans e6).trans e7).trans e8).trans e9) hC, (e8.trans e9) a2 _ ha7, by omega, fun fp H10 hfp e10 h10 => ?_⟩
          refine ⟨b, fp, formsL g tops, rfl, hb0, hbf, h10, ?_, fun f hf => ?_, fun o2 rq d H11 hd0 hdb hdf ho2 e11 h11 h12 => ?_⟩
          · unfold formsL
            rw [List.length_map, List.length_range]
            have := places_le hok
            omega
          · unfold formsL at hf
            obtain ⟨i, _, rfl⟩ := List.mem_map.mp hf
            unfold formOf
            rw [List.length_map, List.length_range]
            omega
          · exact kV _ _ hoV o2 H11 (fresh_back ((e08.trans e9).trans e10) ho2) (((e08.trans e9).trans e10).trans e11) ⟨rq, tops, d, hb0, hbf, htf, by omega, hd0, hdb, hdf, rfl, h11, h12⟩
end
end Fd
end

section
set_option Elab.async false
set_option linter.all false
set_option maxRecDepth 100000
set_option maxHeartbeats 4000000
/-! WP: best_for, bound_of, bound. -/
namespace Fd
open PySem PySem.Spec PyProof.Rows L2 Evl Ew Tx FR
section
variable {P : Program} {w : World} {K : PySem.W.Frag} {mg : Str → Option Value} {base : Heap}
/-- what bound answers, told by the mirror -/
def BoundIs (g : Pg) (pi : Nat) (point : List Int) (res : Option (Option (Int × Int))) : Prop := ∃ (dd : Nat → Bool) (fuel : Nat) (fnd : List (List Nat)) (rest : List Nat), (∀ i b, g.brs[i]? = some b → isDead intN (testsL g b) g.names.length = some (dd i)) ∧ fuel ≤ 1000 ∧
  stepsI (cpOf g) fuel ((List.range g.brs.length).filter fun i => !dd i) [] = some (fnd, rest) ∧ (((fnd.length ≠ 1 ∨ rest ≠ []) ∧ res = none) ∨ ∃ idx, fnd = [idx] ∧ rest = [] ∧ idx.Nodup ∧ idx.length ≤ 5 ∧ (∀ i ∈ idx, i < g.brs.length) ∧
    ((lowG intN (cpOf g) idx pi point = some .endless ∧ res = some none) ∨ ∃ n d, lowG intN (cpOf g) idx pi point = some (.val n d) ∧ res = some (some (n, d))))
def sp_best_for (T : Txt K mg) : Sp := fun vs H Q _ => ∃ (a : Addr) (g : Pg) (x : Str) (pi : Nat) (pp : Addr) (point : List Int) (res : Option (Option (Int × Int))), vs = [.ref a, .str x, .ref pp] ∧ PgAt T.pro.C g a H ∧ PgOk g ∧ g.places[pi]? = some x ∧ TupI H pp point ∧ point.length = g.names.length ∧ BoundIs g pi point res ∧
  (res = none → ∀ H2, Ex H H2 → Q .non H2) ∧ (res = some none → ∀ p H2, H p = none → Ex H H2 → H2 p = some (.tup []) → Q (.ref p) H2) ∧ ∀ n d, res = some (some (n, d)) → ∀ p H2, Ex H H2 → RankAt g pi point n d p H2 → Q (.ref p) H2
theorem ok_best_for (T : Txt K mg) : FnOk P w K mg base CX0 9 T.best_for.a T.best_for.d p_best_for (sp_best_for T) := by
  have G1 := ok_steps_of (P := P) (w := w) (base := base) T
  have G2 := ok_lowest_rank (P := P) (w := w) (base := base) T
  refine T.best_for.F.ok sc_best_for (fun vs H Q E h => ?_) (fun cdv A outer s H vs Q E hr h => ?_)
  · obtain ⟨a, g, x, pi, pp, point, res, rfl, _⟩ := h
    rfl
  · obtain ⟨a, g, x, pi, pp, point, res, rfl, hg, hok, hpx, hpt, hptl, ⟨dd, fuel, fnd, rest, hdd, hfu, hst, halt⟩, kN, kE, kV⟩ := h
    have nd := sc_best_for.nd
    refine ⟨_, pss_cons (ps_asg (pe_call G1 hr (by rfl) T.steps_of.g T.steps_of.F.kp T.steps_of.b .nil pass0 (pa_cons (pv 0) pa_nil)) (pg_tup rfl (pgs_cons (pg_name (i := 3) nd rfl (Or.inl rfl)) (pgs_cons (pg_name (i := 4) nd rfl (Or.inl rfl)) pgs_nil))))
      (pss_cons (ps_if (PW.pt (pw_or (pt_cmpR op_ne (pe_callB (r := rLenS K) call_len_seq (by rfl) T.z.len PySem.boot_len (pa_cons (pv 3) pa_nil)) pe_int (nomark _)) (pw_or1 (pt_cmpR op_gt (pe_callB (r := rLenS K) call_len_seq (by rfl) T.z.len PySem.boot_len (pa_cons (pv 4) pa_nil)) pe_int (nomark _))))) (pss_one (ps_ret pe_non)) pss_nil)
      (pss_cons (ps_set (i := 5) nd rfl (Or.inl rfl) (pe_call G2 (hr.mono (by decide)) (by rfl) T.lowest_rank.g T.lowest_rank.F.kp T.lowest_rank.b .nil pass0 (pa_cons (pv 0) (pa_cons (pe_ix (r := rIxT K) ix_tup (pe_ix (r := rIxL K) ix_list (pv 3) pe_int (fun _ _ => rfl)) pe_int (fun _ _ => rfl)) (pa_cons (pv 1) (pa_cons (pv 2) pa_nil))))))
      (pss_one (ps_ret (pe_ifExp (pt_cmpR op_isN (pv 5) pe_non (nomark _)) (pe_tup pa_nil) (pv 5)))))), ?_⟩
    refine ⟨.ref a, rfl, ⟨a, g, dd, fuel, fnd, rest, rfl, hg, hok, hdd, hst, hfu, fun p fl rl qs H1 hp e1 hp1 hf1 hE1 hr1 => ?_⟩⟩
    refine ⟨p, _, rfl, st_of hp1, rfl, _, _, rfl, _, _, rfl, rfl, ?_⟩
    dsimp only
    have htest := et_or (t := tTest (tOp rNe (tCB (rLenS K) (tCons (tVar 3) tNil)) (tC (.int 1)))) (u := tTest (tOp (rI0 fun i j => .bl (decide (j < i))) (tCB (rLenS K) (tCons (tVar 4) tNil)) (tC (.int 0)))) (σ := [some (.ref a), some (.str x), some (.ref pp), some (.ref fl), some (.ref rl), none]) (H := H1)
      (ev_neI (ev_len (K := K) (ev_var rfl) (sq_of hf1)) ev_c) (fun _ => ev_gt (ev_len (K := K) (ev_var rfl) (sq_of hr1.at)) ev_c)
    rw [List.length_map, hE1.len, List.length_map] at htest
    rcases halt with ⟨hno, hres⟩ | ⟨idx, hfi, hri, hnd, hil, hix, hlow⟩
    · refine q_yes htest ?_ fun H2 e2 => s_ret ev_c fun H3 e3 => kN hres H3 ((e1.trans e2).trans e3)
      rcases hno with z | z
      · rw [decide_eq_false (show ¬ ((fnd.length : Int) = 1) by omega)]
        rfl
      · have : 0 < rest.length := List.length_pos_iff.mpr z
        rw [decide_eq_true (show (0 : Int) < (rest.length : Int) by omega), Bool.or_true]
    · refine q_skip htest (by rw [hfi, hri]; rfl) fun H2 e2 => ?_
      rw [hfi] at hE1
      obtain ⟨q, hq, hne, r, t, hq2, hq3⟩ := hE1.at_ 0 idx rfl
      have e12 := e1.trans e2
      have fin : ∀ H3, Ex H2 H3 → ∀ (v : V), ((res = some none ∧ v = .non) ∨ ∃ n d o, res = some (some (n, d)) ∧ v = .ref o ∧ RankAt g pi point n d o H3) → tRet (tIf (tTest (tOp (fun x y H Q => y = .non ∧ Q (.bl (decide (x = .non))) H) (tVar 5) (tC .non))) (tTup tNil) (tVar 5)) { nx := fun _ H' => Q .non H', rt := Q } [some (.ref a), some (.str x), some (.ref pp), some (.ref fl), some (.ref rl), some v] H3 := fun H3 e3 v hv => by
        rcases hv with ⟨h1, h2⟩ | ⟨n, d, o, h1, h2, h3⟩
        · rw [h2]
          refine s_retIf (b := true) (et_is (ev_isN (v := .non) (ev_var rfl)) rfl) (fun _ H4 e4 => ?_) (fun z => by cases z)
          exact s_retU (eu_tup ea_nil (by decide)) fun o H5 ho e5 h5 => kE h1 o H5 (fresh_back ((e12.trans e3).trans e4) ho) (((e12.trans e3).trans e4).trans e5) h5
        · rw [h2]
          refine s_retIf (b := false) (et_is (ev_isN (v := .ref o) (ev_var rfl)) rfl) (fun z => by cases z) (fun _ H4 e4 => ?_)
          refine s_ret (ev_var rfl) fun H5 e5 => kV n d h1 o H5 (((e12.trans e3).trans e4).trans e5) ?_
          obtain ⟨rq, tops, d', a1, a2, a3, a4, a5, a6, a7, a8, a9, a10⟩ := h3
          exact ⟨rq, tops, d', a1, a2, a3, a4, a5, a6, a7, a8, (e4.trans e5) _ _ a9, lasts_tup lasts_form _ _ _ _ (e4.trans e5) a10⟩
      have mk : ∀ o, lowG intN (cpOf g) idx pi point = some o → (∀ v H3, Ex H2 H3 → ((o = .endless ∧ v = .non) ∨ ∃ n d p, o = .val n d ∧ v = .ref p ∧ RankAt g pi point n d p H3) → tRet (tIf (tTest (tOp (fun x y H Q => y = .non ∧ Q (.bl (decide (x = .non))) H) (tVar 5) (tC .non))) (tTup tNil) (tVar 5)) { nx := fun _ H' => Q .non H', rt := Q } [some (.ref a), some (.str x), some (.ref pp), some (.ref fl), some (.ref rl), some v] H3) →
          tSeq (tAsg (tCall (sp_lowest_rank T) [] E0 (tCons (tVar 0) (tCons (tOp (rIxT K) (tOp (rIxL K) (tVar 3) (tC (.int 0))) (tC (.int 1))) (tCons (tVar 1) (tCons (tVar 2) tNil))))) (gName 5)) (tRet (tIf (tTest (tOp (fun x y H Q => y = .non ∧ Q (.bl (decide (x = .non))) H) (tVar 5) (tC .non))) (tTup tNil) (tVar 5))) { nx := fun _ H' => Q .non H', rt := Q } [some (.ref a), some (.str x), some (.ref pp), some (.ref fl), some (.ref rl), none] H2 := fun o ho hk => by
        refine q_call (ea_cons (ev_var rfl) (ea_cons (ev_ixT (i := 1) (ev_ixL (i := 0) (ev_var rfl) ev_c (e2 fl _ hf1) (ref_at hq)) ev_c (e2 q _ hq2) rfl) (ea_cons (ev_var rfl) (ea_cons (ev_var rfl) ea_nil)))) fun H3 e3 => ?_
        exact ⟨a, t, g, idx, x, pi, pp, point, o, rfl, lasts_pg _ _ _ _ (e12.trans e3) hg, hok, hq3.ex (e2.trans e3), hnd, hil, hix, hpx, (e12.trans e3) pp _ hpt, hptl, ho, fun hoE H4 e4 => hk _ H4 (e3.trans e4) (.inl ⟨hoE, rfl⟩), fun n d hoV p H4 hp e4 h4 => hk _ H4 (e3.trans e4) (.inr ⟨n, d, p, hoV, rfl, h4⟩)⟩
      rcases hlow with ⟨ho, hres⟩ | ⟨n, d, ho, hres⟩
      · refine mk _ ho fun v H3 e3 hv => fin H3 e3 v ?_
        rcases hv with ⟨_, h2⟩ | ⟨n, d, p, h1, _⟩
        · exact .inl ⟨hres, h2⟩
        · cases h1
      · refine mk _ ho fun v H3 e3 hv => fin H3 e3 v ?_
        rcases hv with ⟨h1, _⟩ | ⟨n', d', p, h1, h2, h3⟩
        · cases h1
        · injection h1 with h4 h5
          exact .inr ⟨n', d', p, by rw [hres, h4, h5], h2, h3⟩
end
end Fd
end

section
set_option Elab.async false
set_option linter.all false
set_option maxRecDepth 100000
set_option maxHeartbeats 4000000
/-! WQ: the places as a tuple whose object is known (so that .index may be called), bound_of, bound. -/
namespace Gap
open PySem PySem.Spec PyProof.Rows L2
section
variable {X : Cx}
/-- tuple(list), the new object known -/
def rTupF (K : PySem.W.Frag) : List V → Hp → VK → Prop := fun xs H Q => ∃ p ys, xs = [.ref p] ∧ SqL K H p ys ∧ ∀ l ob, H l = none → ob.dict = none → Q (.ref l) (upd H l (.frz ob (.tup ys)))
theorem call_tuple_ofF : CallR X (.type "tuple") (rTupF X.K) := by
  intro pins s σ H xs us Q I r h
  obtain ⟨p, ys, rfl, hq, q⟩ := h
  obtain ⟨u, rfl, rx⟩ := vals1 r
  cases rx
  obtain ⟨its, r', pl, hz⟩ := I.list hq
  have hlen := r'.length
  refine call_tuple_list pl.isList (fun h' kp => ?_) (by simp only [List.size_toArray] <;> omega)
  have I1 : Inv X pins σ H { s with heap := h' } := I.kept (t' := s.toks) kp
  have I2 : Inv X pins σ (upd H h'.objs.size (.frz { cls := .type "tuple", data := .seq its.toArray } (.tup ys))) { s with heap := h'.push { cls := .type "tuple", data := .seq its.toArray } } :=
    I1.laid (t' := s.toks) (fun b o e => Heap.get?_push_of_some _ e) (Nat.le_refl _) (show ObjOk X.prog X.w _ _ _ (.frz _ (.tup ys)) from ⟨Heap.get?_push_size _ rfl, hz, its, r', IsTup.new _ _⟩)
  exact ⟨.ref h'.objs.size, _, I2, rfl, q _ _ (I1.hok.fresh (Nat.le_refl _)) rfl⟩
/-- o.m(e, ..), o a tuple whose object is known -/
def tBMF (r : V → List V → Hp → VK → Prop) (to : TE) (t : TA) : TE := fun σ H Q => to σ H fun x H1 => (∃ p ob xs, x = .ref p ∧ H1 p = some (.frz ob (.tup xs)) ∧ ob.dict = none) ∧ t σ H1 fun xs H2 => r x xs H2 Q
theorem pe_bmF {o e : Expr} {es : List Expr} {to : TE} {t : TA} {name : Str} {apos cpos : Pos} {id : String} {r : V → List V → Hp → VK → Prop} (pa : PlainAttrs "tuple") (slot : Slot "tuple" name id) (hty : typeOf (.builtin id) = pure (.type "method_descriptor")) (hm : MtR X id r) (ho : PE X o to) (ha : PA X (e :: es) t)
    (hbase : attributeBase o name X.env (eval o X.env) = eval o X.env := by rfl)
    (hfew : ((backTo cpos (starEach (e :: es) X.env)).all (fun x => !x.1) && (backToKw cpos (keywordEach [] X.env)).all (fun x => x.1.isSome)
      && decide ((e :: es).length + ([] : List Keyword).length + (if ([] : List Keyword).isEmpty then 0 else 1) < 30)) = true := by rfl)
    (hline : (apos.endLine == cpos.line) = true := by rfl) (hs : starEach (e :: es) X.env = (false, eval e X.env) :: starEach es X.env := by rfl) (hplain : (backTo cpos (starEach es X.env)).any (·.1) = false := by rfl) :
    PE X (.Call (.Attribute o name apos) (e :: es) [] cpos) (tBMF r to t) := by
  refine ⟨fun pins s σ H Q I h => ?_⟩
  refine wpAny_Call_method_late hbase hfew hline rfl (thn (ho.run pins s σ H _ I h) fun v s1 ⟨x, H1, I1, r1, ty, q1⟩ => ?_)
  obtain ⟨p, ob, xs, rfl, hp, hd⟩ := ty
  cases r1
  have hob : ObjOk X.prog X.w H1 s1.heap p (.frz ob (.tup xs)) := I1.hok p _ hp
  obtain ⟨h1, hz, its, rv, o2, h2, hc, hd2⟩ := hob
  refine ⟨"tuple", id, pa, slot, hty, ⟨o2, h2, hc⟩, fun a ea => by cases ea; exact ⟨ob, h1, hd⟩, ?_⟩
  have hA := ha.run cpos pins s1 σ H1 _ I1 q1
  rw [hs] at hA ⊢
  refine Calls.callWith_builtin (by show (false || (backTo cpos (starEach es X.env)).any (·.1)) = false; rw [hplain] <;> rfl) (Calls.evalArgs_plain ?_)
  exact thn hA fun us s2 ⟨vs, H2, I2, r2, q2⟩ => hm pins s2 σ H2 (.ref p) vs (.ref p) us Q I2 rfl r2 q2
end
end Gap
namespace Ew
open PySem PySem.Spec PyProof.Rows L2 Evl
section
variable {K : Fg} {σ : L2.St} {H H' : Hp} {ta tb te tx tv tk td ty to ti tc : TE} {t u : TT} {x y z v w : V} {r : R2} {D : Ends} {tu tw tz : TS}
theorem s_retF {xs : List V} (h : EvL te σ H xs) (k : ∀ p ob H1, H p = none → Ex H H1 → ob.dict = none → H1 p = some (.frz ob (.tup xs)) → D.rt (.ref p) H1) : tRet (tCB (Gap.rTupF K) (tCons te tNil)) D σ H :=
  h H (Ex.refl H) _ fun l H1 hl e1 h1 => ⟨l, xs, rfl, sq_of h1, fun p ob hp hd => k p ob _ (fresh_back e1 hp) (e1.trans (Ex.new hp)) hd upd_same⟩
end
end Ew
namespace Fd
open PySem PySem.Spec PyProof.Rows L2 Evl Ew Tx FR
section
variable {P : Program} {w : World} {K : PySem.W.Frag} {mg : Str → Option Value} {base : Heap}
def RetF (xs : List V) (H : Hp) (Q : VK) : Prop := ∀ p ob H2, H p = none → Ex H H2 → ob.dict = none → H2 p = some (.frz ob (.tup xs)) → Q (.ref p) H2
def sp_places_inF : Sp := fun vs H Q _ => ∃ (p q : Addr) (says : List (Str × List Int)) (brs : List Brh), vs = [.ref p, .ref q] ∧ TupOf SayP says p H ∧ TupOf BrP brs q H ∧ says.length ≤ 10 ∧ brs.length ≤ 10 ∧ RetF ((placesL says brs).map V.str) H Q
theorem ok_places_inF (T : Txt K mg) : FnOk P w K mg base CX0 1 T.places_in.a T.places_in.d p_places_in sp_places_inF := by
  refine T.places_in.F.ok sc_places_in (fun vs H Q E h => ?_) (fun cdv A outer s H vs Q E hr h => ?_)
  · obtain ⟨p, q, r, m, rfl, _⟩ := h
    rfl
  · obtain ⟨p, q, says, brs, rfl, ⟨ps, hp, hE⟩, ⟨qs, hq, hF⟩, hs, hb, k⟩ := h
    have nd := sc_places_in.nd
    refine ⟨_, pss_cons (ps_set (i := 2) nd rfl (Or.inr rfl) (pe_lst pa_nil))
      (pss_cons (ps_for PassesOwn.never rfl (pi_tup (pv 0)) (pg_tup rfl (pgs_cons (pg_name (i := 3) nd rfl (Or.inl rfl)) (pgs_cons (pg_name (i := 4) nd rfl (Or.inl rfl)) pgs_nil)))
        (pss_one (ps_expr (pe_bm PySem.F.plainAttrs_list PySem.F.slot_list_append PySem.F.type_list_append mt_append (pv 2) (pa_cons (pv 3) pa_nil)))))
      (pss_cons (ps_for PassesOwn.never rfl (pi_tup (pv 1)) (pg_tup rfl (pgs_cons (pg_name (i := 5) nd rfl (Or.inl rfl)) (pgs_cons (pg_name (i := 6) nd rfl (Or.inl rfl)) (pgs_cons (pg_name (i := 7) nd rfl (Or.inl rfl)) (pgs_cons (pg_name (i := 8) nd rfl (Or.inl rfl)) pgs_nil)))))
        (pss_one (ps_expr (pe_bm PySem.F.plainAttrs_list PySem.F.slot_list_extend PySem.F.type_list_extend mt_extend (pv 2) (pa_cons (pe_lst (pa_cons (pv 5) (pa_cons (pv 6) pa_nil))) pa_nil)))))
      (pss_one (ps_ret (pe_callTy (r := Gap.rTupF K) Gap.call_tuple_ofF (by rfl) T.z.tuple (by decide +kernel) (pa_cons (pe_lc (own := [("at", 9), ("place", 3)]) (wi := iEnum K (tCons (tVar 2) tNil)) (g := gTup K 2 (gCons (gName 9) (gCons (gName 3) gNil))) (by rfl) nd (pi_enum (by rfl) T.z.enumerate (pa_cons (pv 2) pa_nil)) (blkOk_by (own := [("at", 9), ("place", 3)]) (N := n_places_in) (sc := defScope s_places_in) (by decide +kernel))
          (fun _ _ _ _ _ => pg_tup rfl (pgs_cons (pg_name (i := 9) nd rfl (Or.inl rfl) (Or.inr rfl)) (pgs_cons (pg_name (i := 3) nd rfl (Or.inl rfl) (Or.inr rfl)) pgs_nil))) (fun _ _ _ _ _ => pts_one (pt_cmpR (r := rIn K true) op_notIn_seq (pv 3) (pe_slice (r := rSlL K) sl_list (pv 2) po_none (po_some (pv 9))) (by rfl))) (fun _ _ _ _ _ => pv 3)) pa_nil)))))), ?_⟩
    refine q_asgL (el_lst ea_nil (by decide)) fun f H1 hf e1 h1 => ?_
    have hp1 := e1 p _ hp
    have hI := ew_tup (K := K) (tl := tVar 0) (σ := (start n_places_in [.ref p, .ref q]).set 2 (some (.ref f))) (ev_var rfl) hp1
    rw [List.length_map, hE.len] at hI
    refine q_for hI (fun i σ' H' => ∃ a3 a4, σ' = [some (.ref p), some (.ref q), some (.ref f), a3, a4, none, none, none, none, none] ∧ Ex H H' ∧ H' f = some (.lst (((says.take i).map (·.1)).map V.str))) (fun H2 e2 _ => ⟨_, _, rfl, e1.trans e2, e2 f _ h1⟩) (fun _ _ _ ⟨_, _, _, e, _⟩ => e p _ hp) (fun i x σ' H2 H3 hi hP y => ?_) (fun σ' H2 hP => ?_)
    · obtain ⟨a3, a4, rfl, e2, h2⟩ := hP
      obtain ⟨a, ha, fo, ho, _⟩ := (hE.ex lasts_say e2).get hi
      refine y_unp2 y (atV_ref ha) ho ?_
      refine s_app h2 (ev_var rfl) (ev_var rfl) (by rw [List.length_map, List.length_map, List.length_take]; omega) fun H4 e4 => ⟨_, _, rfl, Ex.mut (e2.trans e4) hf, ?_⟩
      rw [upd_same, List.take_succ, List.getElem?_eq_getElem hi, List.map_append, List.map_append]
      rfl
    · obtain ⟨a3, a4, rfl, e2, h2⟩ := hP
      rw [List.take_length] at h2
      have hq2 := e2 q _ hq
      have hI := ew_tup (K := K) (tl := tVar 1) (σ := [some (.ref p), some (.ref q), some (.ref f), a3, a4, none, none, none, none, none]) (ev_var rfl) hq2
      rw [List.length_map, hF.len] at hI
      refine q_for hI (fun i σ' H' => ∃ a3 a4 a5 a6 a7 a8, σ' = [some (.ref p), some (.ref q), some (.ref f), a3, a4, a5, a6, a7, a8, none] ∧ Ex H H' ∧ H' f = some (.lst ((foundIn says (brs.take i)).map V.str))) (fun H3 e3 _ => ⟨_, _, _, _, _, _, rfl, e2.trans e3, ?_⟩) (fun _ _ _ ⟨_, _, _, _, _, _, _, e, _⟩ => e q _ hq) (fun i x σ' H3 H4 hi hP y => ?_) (fun σ' H3 hP => ?_)
      · have h3 := e3 f _ h2
        unfold foundIn
        rw [List.take_zero, List.flatMap_nil, List.append_nil]
        exact h3
      · obtain ⟨a3, a4, a5, a6, a7, a8, rfl, e3, h3⟩ := hP
        obtain ⟨a, ha, tp, cp, ho, _⟩ := (hF.ex lasts_br e3).get hi
        refine y_unp4 y (atV_ref ha) ho ?_
        have hfl : (foundIn says (brs.take i)).length ≤ 30 := by
          rw [found_len, List.length_take]
          omega
        refine s_ext h3 (ev_var rfl) (el_lst (ea_cons (ev_var rfl) (ea_cons (ev_var rfl) ea_nil)) (show 2 ≤ 100000 by decide)) (by rw [List.length_map]; show _ + 2 ≤ 100000; omega) fun H5 e5 => ⟨_, _, _, _, _, _, rfl, Ex.mut (e3.trans e5) hf, ?_⟩
        have h6 : foundIn says (brs.take (i + 1)) = foundIn says (brs.take i) ++ [brs[i].src, brs[i].tgt] := by
          unfold foundIn
          rw [List.take_succ, List.getElem?_eq_getElem hi, List.flatMap_append, List.append_assoc]
          rfl
        rw [upd_same, h6, List.map_append]
        rfl
      · obtain ⟨a3, a4, a5, a6, a7, a8, rfl, e3, h3⟩ := hP
        rw [List.take_length] at h3
        have hI := ei_enum (K := K) (ta := tCons (tVar 2) tNil) (σ := [some (.ref p), some (.ref q), some (.ref f), a3, a4, a5, a6, a7, a8, none]) (ea_cons (ev_var rfl) ea_nil) h3
        rw [List.length_map] at hI
        have hfl : (foundIn says brs).length ≤ 40000 := by
          rw [found_len]
          omega
        have ed : (placesL says brs).map V.str = given (foundIn says brs).length (fun i => !decide ((foundIn says brs).getD i "" ∈ (foundIn says brs).take i)) (fun i => .str ((foundIn says brs).getD i "")) := by
          unfold placesL dedup given
          rw [List.map_map]
          rfl
        refine s_retF (xs := (placesL says brs).map V.str) ?_ fun a ob H4 ha e4 hd h4 => k a ob H4 (fresh_back e3 ha) (e3.trans e4) hd h4
        rw [ed]
        have hg : ∀ i, i < (foundIn says brs).length → atV ((foundIn says brs).map V.str) i = .str ((foundIn says brs).getD i "") := fun i hi => by
          rw [atV_str hi, List.getD_eq_getElem?_getD, List.getElem?_eq_getElem hi]
          rfl
        refine el_lcV _ _ hI hfl tg_pair (fun _ => rfl) (fun i H4 e4 hi => ?_) (fun i H4 e4 hi _ => ?_)
        · exact ev_niSl (ev_var (by rw [hg i hi]; rfl)) (ev_var rfl) (ev_var rfl) (e4 f _ h3)
        · exact ev_var (by rw [hg i hi]; rfl)
def sp_placesF (C : Addr) : Sp := fun vs H Q _ => ∃ a g, vs = [.ref a] ∧ PgAt C g a H ∧ PgOk g ∧ RetF (g.places.map V.str) H Q
theorem ok_placesF (T : Txt K mg) : FnOk P w K mg base CX0 2 T.pro.places.a T.pro.places.d p_Program_places (sp_placesF T.pro.C) := by
  have G1 := ok_places_inF (P := P) (w := w) (base := base) T
  refine T.pro.places.F.ok sc_Program_places (fun vs H Q E h => ?_) (fun cdv A outer s H vs Q E hr h => ?_)
  · obtain ⟨a, g, rfl, _⟩ := h
    rfl
  · obtain ⟨a, g, rfl, ⟨dx, np, sp, bp, hs, hN, hS, hB⟩, hg, k⟩ := h
    refine ⟨_, pss_one (ps_ret (pe_call G1 hr (by rfl) T.places_in.g T.places_in.F.kp T.places_in.b .nil pass0 (pa_cons (SlX.pe_sl (pv 0)) (pa_cons (SlX.pe_sl (pv 0)) pa_nil)))), ?_⟩
    exact s_retC (ea_cons (ev_sl (ev_var rfl) hs T.pro.c T.pro.ls rfl) (ea_cons (ev_sl (ev_var rfl) hs T.pro.c T.pro.lb rfl) ea_nil)) fun H1 e1 => ⟨sp, bp, g.says, g.brs, rfl, lasts_tup lasts_say _ _ _ _ e1 hS, lasts_tup lasts_br _ _ _ _ e1 hB, by have := hg.s3; omega, by have := hg.b5; omega,
      fun p ob H2 hp e2 hd h2 => k p ob H2 (fresh_back e1 hp) (e1.trans e2) hd h2⟩
end
end Fd
end

section
set_option Elab.async false
set_option linter.all false
set_option maxRecDepth 100000
set_option maxHeartbeats 4000000
/-! WR: bound_of, bound. -/
namespace Fd
open PySem PySem.Spec PyProof.Rows L2 Evl Ew Tx FR
theorem sum_mulD (d : Int) (f : Nat → Int) : ∀ l : List Nat, (l.map fun k => f k * d).sum = (l.map f).sum * d
  | [] => (Int.zero_mul d).symm
  | k :: l => by
    rw [List.map_cons, List.sum_cons, List.map_cons, List.sum_cons, sum_mulD d f l, Int.add_mul]
theorem over_at {form : List Int} {d : Int} (hd : 0 < d) (h : ∀ x ∈ form, d ∣ x) (k : Nat) : form.getD k 0 = (form.map fun x => x.fdiv d).getD k 0 * d := by
  by_cases hk : k < form.length
  · rw [List.getD_eq_getElem?_getD, List.getD_eq_getElem?_getD, List.getElem?_map, List.getElem?_eq_getElem hk]
    show form[k] = form[k].fdiv d * d
    have h1 := h _ (List.getElem_mem hk)
    rw [Int.fdiv_eq_ediv_of_dvd h1, Int.ediv_mul_cancel h1]
  · have h1 : form[k]? = none := List.getElem?_eq_none (by omega)
    rw [List.getD_eq_getElem?_getD, List.getD_eq_getElem?_getD, List.getElem?_map, h1]
    exact (Int.zero_mul d).symm
theorem valueAt_over {form point : List Int} {d : Int} (hd : 0 < d) (h : ∀ x ∈ form, d ∣ x) : valueAt intN form point = valueAt intN (form.map fun x => x.fdiv d) point * d := by
  rw [valueAt_int, valueAt_int, Int.add_mul, ← sum_mulD, over_at hd h point.length]
  congr 1
  congr 1
  refine List.map_congr_left fun k _ => ?_
  rw [over_at hd h k, Int.mul_assoc, Int.mul_comm d, ← Int.mul_assoc]
theorem lowI_over {a b d : Int} (hd : 0 < d) : lowI (a * d) (b * d) = lowI a b := by
  unfold lowI
  rw [Int.gcd_mul_right]
  have h1 : ((Int.gcd a b * d.natAbs : Nat) : Int) = (Int.gcd a b : Int) * d := by
    rw [Int.natCast_mul]
    congr 1
    omega
  rw [h1, Int.mul_fdiv_mul_of_pos_left _ _ hd, Int.mul_fdiv_mul_of_pos_left _ _ hd]
theorem fdiv_le {x d : Int} (hd : 0 < d) (h : d ∣ x) : (x.fdiv d).natAbs ≤ x.natAbs := by
  obtain ⟨k, rfl⟩ := h
  have h1 : (d * k).fdiv d = k := by
    rw [Int.fdiv_eq_ediv_of_dvd ⟨k, rfl⟩]
    exact Int.mul_ediv_cancel_left k (by omega)
  rw [h1, Int.natAbs_mul]
  exact Nat.le_mul_of_pos_left _ (by omega)
section
variable {P : Program} {w : World} {K : PySem.W.Frag} {mg : Str → Option Value} {base : Heap}
def RetB (res : Option (Option (Int × Int))) (H : Hp) (Q : VK) : Prop := (res = none → RetV .non H Q) ∧ (res = some none → RetV (.str "endless") H Q) ∧ ∀ n d, res = some (some (n, d)) → RetN (.tup [.int (lowI n d).1, .int (lowI n d).2]) H Q
def sp_bound (T : Txt K mg) : Sp := fun vs H Q _ => ∃ (a : Addr) (g : Pg) (x : Str) (pi : Nat) (pp : Addr) (point : List Int) (res : Option (Option (Int × Int))), vs = [.ref a, .str x, .ref pp] ∧ PgAt T.pro.C g a H ∧ PgOk g ∧ g.places[pi]? = some x ∧ TupI H pp point ∧ point.length = g.names.length ∧ (∀ x ∈ point, Fw x) ∧ BoundIs g pi point res ∧ RetB res H Q
theorem ok_bound_of (T : Txt K mg) : FnOk P w K mg base CX0 10 T.bound_of.a T.bound_of.d p_bound_of (sp_bound T) := by
  have R2 := raw0 (ok_placesF (P := P) (w := w) (base := base) T) T.pro.places.b
  have G1 := ok_best_for (P := P) (w := w) (base := base) T
  have G2 := ok_value_at (P := P) (w := w) (base := base) T
  have G3 := ok_lowest (P := P) (w := w) (base := base) T
  refine T.bound_of.F.ok sc_bound_of (fun vs H Q E h => ?_) (fun cdv A outer s H vs Q E hr h => ?_)
  · obtain ⟨a, g, x, pi, pp, point, res, rfl, _⟩ := h
    rfl
  · obtain ⟨a, g, x, pi, pp, point, res, rfl, hg, hok, hpx, hpt, hptl, hpf, hB, kN, kE, kV⟩ := h
    have nd := sc_bound_of.nd
    obtain ⟨tE, hE⟩ := T.i.ENDLESS
    refine ⟨_, pss_cons (ps_set (i := 3) nd rfl (Or.inl rfl) (pe_call G1 hr (by rfl) T.best_for.g T.best_for.F.kp T.best_for.b .nil pass0 (pa_cons (pv 0) (pa_cons (pv 1) (pa_cons (pv 2) pa_nil)))))
      (pss_cons (ps_if (pt_cmpR op_isN (pv 3) pe_non (nomark _)) (pss_one (ps_ret pe_non)) pss_nil)
      (pss_cons (ps_if (pt_cmpR op_eq (pe_callB (r := rLenS K) call_len_seq (by rfl) T.z.len PySem.boot_len (pa_cons (pv 3) pa_nil)) pe_int (nomark _)) (pss_one (ps_ret (C8.pe_gc (v := .str "endless") (by rfl) ⟨_, hE, ⟨_, rfl⟩⟩))) pss_nil)
      (pss_one (ps_ret (pe_call G3 (hr.mono (by decide)) (by rfl) T.lowest.g T.lowest.F.kp T.lowest.b .nil pass0 (pa_cons (pe_call G2 (hr.mono (by decide)) (by rfl) T.value_at.g T.value_at.F.kp T.value_at.b .nil pass0 (pa_cons (pe_ix (r := rIxT K) ix_tup (pe_ix (r := rIxT K) ix_tup (pv 3) pe_int (fun _ _ => rfl))
            (Gap.pe_bmF PySem.F.plainAttrs_tuple PySem.F.slot_tuple_index PySem.F.type_tuple_index mt_tup_index (SlX.pe_propSl (E := E0) (pv 0) T.pro.c T.pro.qp.at_ T.pro.qp.get T.pro.qp.tk T.pro.qp.rc R2 (hr.mono (by decide)) (fun _ _ _ _ h => h.elim)) (pa_cons (pv 1) pa_nil)) (fun _ _ => rfl)) (pa_cons (pv 2) pa_nil)))
          (pa_cons (pe_ix (r := rIxT K) ix_tup (pv 3) pe_int (fun _ _ => rfl)) pa_nil))))))), ?_⟩
    have hpi : pi < g.places.length := (List.getElem?_eq_some_iff.mp hpx).1
    obtain ⟨dx, vs0, hs⟩ := Slt_of hg
    have hfirst : ∀ m, m < pi → g.places[m]? ≠ some x := fun m hm z => by
      obtain ⟨h1, h2⟩ := List.getElem?_eq_some_iff.mp z
      obtain ⟨h3, h4⟩ := List.getElem?_eq_some_iff.mp hpx
      exact (List.pairwise_iff_getElem.mp hok.pd) m pi h1 h3 hm (h2.trans h4.symm)
    refine q_call (ea_cons (ev_var rfl) (ea_cons (ev_var rfl) (ea_cons (ev_var rfl) ea_nil))) fun H1 e1 => ⟨a, g, x, pi, pp, point, res, rfl, lasts_pg _ _ _ _ e1 hg, hok, hpx, e1 pp _ hpt, hptl, hB, fun hz H2 e2 => ?_, fun hz p H2 hp e2 h2 => ?_, fun n d hz p H2 e2 h2 => ?_⟩
    · exact q_yes (ev_isN (ev_var rfl)) rfl fun H3 e3 => s_ret ev_c fun H4 e4 => kN hz H4 (((e1.trans e2).trans e3).trans e4)
    · refine q_skip (ev_isN (ev_var rfl)) rfl fun H3 e3 => ?_
      exact q_yes (ev_eqI (ev_lenT (ev_var rfl) (e3 p _ h2)) ev_c) rfl fun H4 e4 => s_ret ev_c fun H5 e5 => kE hz H5 ((((e1.trans e2).trans e3).trans e4).trans e5)
    · obtain ⟨q, tops, dd, hd0, hdf, htf, htl, hdd0, hddb, hddf, hnum, hp, hF⟩ := h2
      refine q_skip (ev_isN (ev_var rfl)) rfl fun H3 e3 => ?_
      refine q_skip (ev_eqI (ev_lenT (ev_var rfl) (e3 p _ hp)) ev_c) rfl fun H4 e4 => ?_
      have e14 := ((e1.trans e2).trans e3).trans e4
      have hp4 := (e3.trans e4) p _ hp
      obtain ⟨qs, hq4, hE4⟩ := lasts_tup lasts_form _ _ _ _ (e3.trans e4) hF
      have hfm : formOf intN (g.names.length + 1) tops pi ∈ formsL g tops := List.mem_map.mpr ⟨pi, List.mem_range.mpr hpi, rfl⟩
      have hfe : (overD (formsL g tops) dd)[pi]? = some ((formOf intN (g.names.length + 1) tops pi).map fun x => x.fdiv dd) := by
        unfold overD formsL
        rw [List.getElem?_map, List.getElem?_map, List.getElem?_range hpi]
        rfl
      obtain ⟨fa, hfa, hfa2⟩ := hE4.at_ pi _ hfe
      have hfl : (formOf intN (g.names.length + 1) tops pi).length = g.names.length + 1 := by
        unfold formOf
        rw [List.length_map, List.length_range]
      have hfw : ∀ y ∈ formOf intN (g.names.length + 1) tops pi, Fw y := fun y hy => by
        unfold formOf at hy
        obtain ⟨part, hpart, rfl⟩ := List.mem_map.mp hy
        have hsl := spot_lt hpi (List.mem_range.mp hpart)
        have hw0 : wide0 (cpOf g) = 2 * (g.names.length + 1) * g.places.length := rfl
        exact fw_sub (htf _ (mem_getD (by omega))) (htf _ (mem_getD (by omega)))
      have hd' : (0 : Int) < d.fdiv dd := by
        have h1 := Int.fdiv_eq_ediv_of_dvd hddb
        rw [h1]
        exact Int.ediv_pos_of_pos_of_dvd hd0 (by omega) hddb
      refine s_retC (ea_cons (ev_call (z := .int (valueAt intN ((formOf intN (g.names.length + 1) tops pi).map fun x => x.fdiv dd) point)) (ea_cons (ev_ixT (i := pi) (ev_ixT (i := 1) (ev_var rfl) ev_c hp4 rfl) ?_ hq4 (ref_at hfa)) (ea_cons (ev_var rfl) ea_nil)) fun H5 e5 Q2 q2 E2 => ?_) (ea_cons (ev_ixT (i := 0) (ev_var rfl) ev_c hp4 rfl) ea_nil)) fun H5 e5 => ⟨_, _, rfl, hd', fit_le (fdiv_le hdd0 hddb) hdf, ?_⟩
      · intro H5 e5 Q2 q2
        exact ⟨.ref a, rfl, a, dx, vs0, rfl, slt_ex (e14.trans e5) hs, ⟨a, g, rfl, lasts_pg _ _ _ _ (e14.trans e5) hg, hok, fun o ob H6 ho e6 hod h6 => ⟨⟨o, ob, _, rfl, h6, hod⟩, ⟨.str x, rfl, ⟨o, g.places, x, pi, rfl, rfl, .inl (.inr ⟨ob, h6⟩), hpx, hfirst, q2 H6 e6⟩⟩⟩⟩⟩
      · refine ⟨fa, pp, _, point, rfl, e5 fa _ hfa2, (e14.trans e5) pp _ hpt, by rw [List.length_map, hfl, hptl], by have := hok.n3; omega, fun y hy => ?_, hpf, q2⟩
        obtain ⟨z, hz2, rfl⟩ := List.mem_map.mp hy
        have h1 := fdiv_le hdd0 (hddf _ hfm z hz2)
        have h2 := hfw z hz2
        exact Nat.lt_of_le_of_lt h1 h2
      · have hlow : lowI (valueAt intN ((formOf intN (g.names.length + 1) tops pi).map fun x => x.fdiv dd) point) (d.fdiv dd) = lowI n d := by
          rw [hnum, valueAt_over hdd0 (hddf _ hfm)]
          have h1 : d = d.fdiv dd * dd := by
            rw [Int.fdiv_eq_ediv_of_dvd hddb, Int.ediv_mul_cancel hddb]
          conv => rhs; arg 2; rw [h1]
          exact (lowI_over hdd0).symm
        rw [hlow]
        exact fun o H6 ho e6 h6 => kV n d hz o H6 (fresh_back (e14.trans e5) ho) ((e14.trans e5).trans e6) h6
theorem ok_bound (T : Txt K mg) : FnOk P w K mg base CX0 11 T.bound.a T.bound.d p_bound (sp_bound T) := by
  have G1 := ok_check_program (P := P) (w := w) (base := base) T
  have G2 := ok_check_place (P := P) (w := w) (base := base) T
  have G3 := ok_check_point (P := P) (w := w) (base := base) T
  have G4 := ok_bound_of (P := P) (w := w) (base := base) T
  refine T.bound.F.ok sc_bound (fun vs H Q E h => ?_) (fun cdv A outer s H vs Q E hr h => ?_)
  · obtain ⟨a, g, x, pi, pp, point, res, rfl, _⟩ := h
    rfl
  · obtain ⟨a, g, x, pi, pp, point, res, rfl, hg, hok, hpx, hpt, hptl, hpf, hB, kN, kE, kV⟩ := h
    have nd := sc_bound.nd
    have hnv := hok.n3
    refine ⟨_, pss_cons (ps_expr (pe_call G1 (hr.mono (by decide)) (by rfl) T.check_program.g T.check_program.F.kp T.check_program.b .nil pass0 (pa_cons (pv 0) pa_nil)))
      (pss_cons (ps_expr (pe_call G2 (hr.mono (by decide)) (by rfl) T.check_place.g T.check_place.F.kp T.check_place.b .nil pass0 (pa_cons (pv 0) (pa_cons (pv 1) pa_nil))))
      (pss_cons (ps_expr (pe_call G3 (hr.mono (by decide)) (by rfl) T.check_point.g T.check_point.F.kp T.check_point.b .nil pass0 (pa_cons (pv 0) (pa_cons (pv 2) pa_nil))))
      (pss_one (ps_ret (pe_call G4 hr (by rfl) T.bound_of.g T.bound_of.F.kp T.bound_of.b .nil pass0 (pa_cons (pv 0) (pa_cons (pv 1) (pa_cons (pv 2) pa_nil)))))))), ?_⟩
    refine q_do (ea_cons (ev_var rfl) ea_nil) fun H1 e1 => ⟨a, g, rfl, lasts_pg _ _ _ _ e1 hg, fun H2 e2 => ?_⟩
    refine q_do (ea_cons (ev_var rfl) (ea_cons (ev_var rfl) ea_nil)) fun H3 e3 => ⟨a, g, x, rfl, lasts_pg _ _ _ _ ((e1.trans e2).trans e3) hg, hok, List.mem_of_getElem? hpx, fun H4 e4 => ?_⟩
    have e04 := ((e1.trans e2).trans e3).trans e4
    refine q_do (ea_cons (ev_var rfl) (ea_cons (ev_var rfl) ea_nil)) fun H5 e5 => ⟨a, g, pp, point, rfl, lasts_pg _ _ _ _ (e04.trans e5) hg, (e04.trans e5) pp _ hpt, hptl, by omega, fun H6 e6 => ?_⟩
    have e06 := (e04.trans e5).trans e6
    refine s_retC (ea_cons (ev_var rfl) (ea_cons (ev_var rfl) (ea_cons (ev_var rfl) ea_nil))) fun H7 e7 => ?_
    have e07 := e06.trans e7
    exact ⟨a, g, x, pi, pp, point, res, rfl, lasts_pg _ _ _ _ e07 hg, hok, hpx, e07 pp _ hpt, hptl, hpf, hB, fun hz H8 e8 => kN hz H8 (e07.trans e8), fun hz H8 e8 => kE hz H8 (e07.trans e8), fun n d hz p H8 hp e8 h8 => kV n d hz p H8 (fresh_back e07 hp) (e07.trans e8) h8⟩
end
end Fd
end

section
set_option Elab.async false
set_option linter.all false
set_option maxRecDepth 100000
set_option maxHeartbeats 4000000
/-! WS: the law's well and its draws. -/
namespace Ew
open PySem PySem.Spec PyProof.Rows L2 Evl
section
variable {K : Fg} {σ : L2.St} {H H' : Hp} {ta tb te tx tv tk td ty to ti tc : TE} {t u : TT} {x y z v w : V} {r : R2} {D : Ends} {tu tw tz : TS}
theorem s_forLN {xs : List V} {tl : TE} {g : TG} {tb : TS} (h : EvL tl σ H xs) (Pv : Addr → Nat → L2.St → Hp → Prop) (h0 : ∀ p H1, H p = none → Ex H H1 → H1 p = some (.lst xs) → Pv p 0 σ H1) (hG : ∀ p i σ' H', Pv p i σ' H' → H' p = some (.lst xs))
    (hs : ∀ p i x σ' H1 H2, i < xs.length → Pv p i σ' H1 → YFn (atV xs) i H1 x H2 → g x σ' H2 fun σ2 H3 => tb { nx := Pv p (i + 1), rt := D.rt, bk := D.nx, ct := Pv p (i + 1) } σ2 H3) (hd : ∀ p σ' H', Pv p xs.length σ' H' → D.nx σ' H') : tFor (iList K tl) g tb D σ H :=
  h H (Ex.refl H) _ fun p H1 hp e1 h1 => s_for (wi := iList K (tC (.ref p))) (g := g) (tu := tb) (ew_list (K := K) ev_c h1) (Pv p) (fun H2 e2 _ => h0 p H2 hp (e1.trans e2) (e2 p _ h1)) (fun i σ' H' => hG p i σ' H') (fun i x σ' H1 H2 hi hP y => hs p i x σ' H1 H2 hi hP y) (fun σ' H' => hd p σ' H')
theorem q_forLN {xs : List V} {tl : TE} {g : TG} {tb : TS} (h : EvL tl σ H xs) (Pv : Addr → Nat → L2.St → Hp → Prop) (h0 : ∀ p H1, H p = none → Ex H H1 → H1 p = some (.lst xs) → Pv p 0 σ H1) (hG : ∀ p i σ' H', Pv p i σ' H' → H' p = some (.lst xs))
    (hs : ∀ p i x σ' H1 H2, i < xs.length → Pv p i σ' H1 → YFn (atV xs) i H1 x H2 → g x σ' H2 fun σ2 H3 => tb { nx := Pv p (i + 1), rt := D.rt, bk := tz D, ct := Pv p (i + 1) } σ2 H3) (hd : ∀ p σ' H', Pv p xs.length σ' H' → tz D σ' H') : tSeq (tFor (iList K tl) g tb) tz D σ H :=
  s_forLN (D := { D with nx := tz D }) h Pv h0 hG hs hd
theorem cut_ints {s : List Int} {lo hi : Option Int} : ∃ L : List Int, cutV (s.map V.int) lo hi = L.map V.int ∧ L.length ≤ s.length := by
  refine ⟨(s.drop (HT.sIx s.length 0 lo)).take (HT.sIx s.length s.length hi - HT.sIx s.length 0 lo), ?_, ?_⟩
  · unfold cutV
    rw [List.length_map, ← List.map_drop, ← List.map_take]
  · rw [List.length_take, List.length_drop]
    omega
def rInt1 : List V → Hp → VK → Prop := fun xs H Q => (∃ i, xs = [.int i] ∧ Q (.int i) H) ∨ ∃ k, xs = [.bl k] ∧ Q (.int (if k then 1 else 0)) H
theorem ev_int1 {i : Int} (h : Ev te σ H (.int i)) : Ev (tCB rInt1 (tCons te tNil)) σ H (.int i) := fun H1 e Q q => h H1 e _ fun H2 e2 => .inl ⟨i, rfl, q H2 e2⟩
theorem ev_pow {i j : Int} (h : Ev ta σ H (.int i)) (h2 : Ev tb σ H (.int j)) (hc : CPow i j) : Ev (tOp (rI CPow fun i j => .int (i ^ j.toNat)) ta tb) σ H (.int (i ^ j.toNat)) := ev_op h h2 (rv_I hc)
end
end Ew
namespace Fd
open PySem PySem.Spec PyProof.Rows L2 Evl Ew Tx FR
section
variable {P : Program} {w : World} {K : PySem.W.Frag} {mg : Str → Option Value} {base : Heap}
def Trip (H : Hp) (p : Addr) (s k n : Int) : Prop := H p = some (.lst [.int s, .int k, .int n])
theorem mul_small {x y : Int} (hx : x.natAbs < 2 ^ 5000) (hy : y.natAbs < 2 ^ 5000) : CMulW x y := mul_fw hx hy
theorem pw_5 : (2 : Nat) ^ 200 ≤ 2 ^ 5000 := by decide +kernel
theorem fw_small {x : Int} (h : x.natAbs < 2 ^ 200) : Fw x := Nat.lt_of_lt_of_le h pw_5
def sp_law_well (K : Fg) : Sp := fun vs H Q _ => ∃ (sp : Addr) (script : List Int) (spot : Nat), vs = [.ref sp, .int (spot : Int)] ∧ SqL K H sp (script.map V.int) ∧ script.length ≤ 1000 ∧ spot ≤ 10 ∧ ∀ p s n H2, H p = none → Ex H H2 → 0 ≤ s → s < 2147483648 → 0 ≤ n → Trip H2 p s 0 n → Q (.ref p) H2
theorem ok_law_well (T : Txt K mg) : FnOk P w K mg base CX0 1 T.law_well.a T.law_well.d p_law_well (sp_law_well K) := by
  refine T.law_well.F.ok sc_law_well (fun vs H Q E h => ?_) (fun cdv A outer s H vs Q E hr h => ?_)
  · obtain ⟨sp, script, spot, rfl, _⟩ := h
    rfl
  · obtain ⟨sp, script, spot, rfl, hs, hl, hsp, k⟩ := h
    have nd := sc_law_well.nd
    refine ⟨_, pss_cons (ps_set (i := 2) nd rfl (Or.inl rfl) (pe_op op_add pe_int (pe_op op_mulW pe_int (pv 1))))
      (pss_cons (ps_for PassesOwn.never rfl (pi_list (pe_op op_cat (pe_slice (r := rSlL K) sl_list (pv 0) po_none (po_some pe_int)) (pe_slice (r := rSlL K) sl_list (pv 0) (po_some (pv 1)) (po_some (pe_op op_add (pv 1) pe_int))))) (pg_name (i := 3) nd rfl (Or.inl rfl))
        (pss_one (ps_set (i := 2) nd rfl (Or.inl rfl) (pe_op op_mod (pe_callTy (r := rInt1) call_int1 (by rfl) T.z.int (by decide +kernel) (pa_cons (pe_op op_add (pe_op op_add (pe_op op_mulW (pv 2) pe_int) (pv 3)) pe_int) pa_nil)) pe_int))))
      (pss_cons (ps_set (i := 4) nd rfl (Or.inl rfl) (pe_ifExp (pt_cmpR op_lt (pv 1) (pe_callB (r := rLenS K) call_len_seq (by rfl) T.z.len PySem.boot_len (pa_cons (pv 0) pa_nil)) (nomark _)) (pe_ix (r := rIxL K) ix_list (pv 0) (pv 1) (fun _ _ => rfl)) pe_int))
      (pss_one (ps_ret (pe_lst (pa_cons (pv 2) (pa_cons pe_int (pa_cons (pe_ifExp (pt_cmpR op_ge (pe_callB call_abs (by rfl) T.z.abs (by decide +kernel) (pa_cons (pv 4) pa_nil)) (pe_op op_pow pe_int pe_int) (nomark _)) (pe_callB call_abs (by rfl) T.z.abs (by decide +kernel) (pa_cons (pv 4) pa_nil)) pe_int) pa_nil)))))))), ?_⟩
    refine q_asg (v := .int (65027 + 811 * (spot : Int))) (ev_add ev_c (ev_mulW ev_c (ev_var rfl) (mul_fw (fw_fit (fit_lit 811 (by decide))) (fw_fit (fit_nat (by omega)))))) fun H1 e1 => ?_
    have hs1 := ex_l e1 hs
    obtain ⟨L1, hL1, hl1⟩ := cut_ints (s := script) (lo := none) (hi := some 4)
    obtain ⟨L2, hL2, hl2⟩ := cut_ints (s := script) (lo := some (spot : Int)) (hi := some ((spot : Int) + 1))
    have hcat := el_cat (ta := tSl (rSlL K) (tVar 0) tNoPart (tPart (tC (.int 4)))) (tb := tSl (rSlL K) (tVar 0) (tPart (tVar 1)) (tPart (tOp (rI0 fun i j => .int (i + j)) (tVar 1) (tC (.int 1))))) (σ := (start n_law_well [.ref sp, .int (spot : Int)]).set 2 (some (.int (65027 + 811 * (spot : Int))))) (H := H1)
      (el_sl (ev_var rfl) eo_none (eo_some ev_c) (hs1)) (el_sl (ev_var rfl) (eo_some (ev_var rfl)) (eo_some (ev_add (ev_var rfl) ev_c)) (hs1)) (by rw [hL1, hL2, List.length_map, List.length_map]; omega)
    rw [hL1, hL2, ← List.map_append] at hcat
    refine q_forLN hcat (fun p i σ' H' => ∃ a3 st, σ' = [some (.ref sp), some (.int (spot : Int)), some (.int st), a3, none] ∧ Ex H1 H' ∧ H' p = some (.lst ((L1 ++ L2).map V.int)) ∧ 0 ≤ st ∧ st < 2147483648)
      (fun p H2 hp e2 h2 => ⟨_, _, rfl, e2, h2, by omega, by omega⟩) (fun _ _ _ _ ⟨_, _, _, _, h, _⟩ => h) (fun p i x σ' H2 H3 hi hP y => ?_) (fun p σ' H2 hP => ?_)
    · obtain ⟨a3, st, rfl, e2, h2, b1, b2⟩ := hP
      refine y_name y ?_
      rw [List.length_map] at hi
      rw [atV_int hi]
      have m1 := Int.emod_nonneg (st * 36007 + (L1 ++ L2).getD i 0 + 29) (show (2147483579 : Int) ≠ 0 by decide)
      have m2 := Int.emod_lt_of_pos (st * 36007 + (L1 ++ L2).getD i 0 + 29) (show (0 : Int) < 2147483579 by decide)
      exact s_asg (ev_mod (ev_int1 (ev_add (ev_add (ev_mulW (ev_var rfl) ev_c (mul_fw (fw_small (by omega)) (fw_small (by decide)))) (ev_var rfl)) ev_c)) ev_c (by decide)) fun H4 e4 => ⟨_, _, rfl, e2.trans e4, e4 p _ h2, m1, by omega⟩
    · obtain ⟨a3, st, rfl, e2, h2, b1, b2⟩ := hP
      have hs2 := ex_l e2 hs1
      refine q_asg (v := .int (if (spot : Int) < (script.length : Int) then script.getD spot 0 else 0)) (ev_if (b := decide ((spot : Int) < (script.length : Int))) (et_is (ev_lt (ev_var rfl) (ev_len (ev_var rfl) (hs2))) (by rw [List.length_map])) (fun hb => ?_) (fun hb => ?_)) fun H3 e3 => ?_
      · have h5 := of_decide_eq_true hb
        rw [if_pos h5]
        exact ev_op (ev_var rfl) (ev_var rfl) (rv_ixL hs2 (atI_nat (int_at (by omega))))
      · rw [if_neg (of_decide_eq_false hb)]
        exact ev_c
      · generalize (if (spot : Int) < (script.length : Int) then script.getD spot 0 else 0) = own
        refine s_retL (xs := [.int st, .int 0, .int (if (10 : Int) ^ (18 : Int).toNat ≤ (own.natAbs : Int) then (own.natAbs : Int) else 0)]) (el_lst (ea_cons (ev_var rfl) (ea_cons ev_c (ea_cons (ev_if (ev_ge (ev_abs (ev_var rfl)) (ev_pow ev_c ev_c ⟨by decide, by decide, by decide⟩)) (fun hb => ?_) (fun hb => ?_)) ea_nil))) (show 3 ≤ 100000 by decide)) fun p H4 hp e4 h4 => ?_
        · rw [if_pos (of_decide_eq_true hb)]
          exact ev_abs (ev_var rfl)
        · rw [if_neg (of_decide_eq_false hb)]
          exact ev_c
        · refine k p st _ H4 (fresh_back ((e1.trans e2).trans e3) hp) (((e1.trans e2).trans e3).trans e4) b1 b2 ?_ h4
          split <;> omega
def sp_law_draw : Sp := fun vs H Q _ => ∃ (wp : Addr) (s k n : Int) (m : Nat), vs = [.ref wp, .int (m : Int)] ∧ Trip H wp s k n ∧ 0 ≤ s ∧ s < 2147483648 ∧ 0 ≤ k ∧ k < 1000000 ∧ 0 ≤ n ∧ 1 ≤ m ∧ m ≤ 1000000 ∧
  ∀ (d : Nat) s' k' n' H2, d < m → 0 ≤ s' → s' < 2147483648 → 0 ≤ k' → k' ≤ k + 1 → 0 ≤ n' → Ex (del H wp) H2 → Trip H2 wp s' k' n' → Q (.int (d : Int)) H2
theorem ok_law_draw (T : Txt K mg) : FnOk P w K mg base CX0 1 T.law_draw.a T.law_draw.d p_law_draw sp_law_draw := by
  refine T.law_draw.F.ok sc_law_draw (fun vs H Q E h => ?_) (fun cdv A outer s H vs Q E hr h => ?_)
  · obtain ⟨wp, s, k, n, m, rfl, _⟩ := h
    rfl
  · obtain ⟨wp, s0, k0, n0, m, rfl, hw, hs0, hs1, hk0, hk1, hn0, hm0, hm1, kk⟩ := h
    have nd := sc_law_draw.nd
    refine ⟨_, pss_cons (ps_if (pt_cmpR op_gt (pe_ix (r := rIxL K) ix_list (pv 0) pe_int (fun _ _ => rfl)) pe_int (nomark _))
        (pss_cons (ps_asg (pe_callB call_divmodW (by rfl) T.z.divmod (by decide +kernel) (pa_cons (pe_ix (r := rIxL K) ix_list (pv 0) pe_int (fun _ _ => rfl)) (pa_cons (pv 1) pa_nil))) (pg_tup rfl (pgs_cons (pg_sub (pv 0) pe_int set_list) (pgs_cons (pg_name (i := 2) nd rfl (Or.inl rfl)) pgs_nil))))
        (pss_one (ps_ret (pv 2)))) pss_nil)
      (pss_cons (ps_asg (pe_op op_add (pe_ix (r := rIxL K) ix_list (pv 0) pe_int (fun _ _ => rfl)) pe_int) (pg_sub (pv 0) pe_int set_list))
      (pss_cons (ps_set (i := 3) nd rfl (Or.inl rfl) (pe_callTy (r := rInt1) call_int1 (by rfl) T.z.int (by decide +kernel) (pa_cons (pe_ix (r := rIxL K) ix_list (pv 0) pe_int (fun _ _ => rfl)) pa_nil)))
      (pss_cons (ps_asg (pe_op op_mod (pe_callTy (r := rInt1) call_int1 (by rfl) T.z.int (by decide +kernel) (pa_cons (pe_op op_add (pe_op op_add (pe_op op_mulW (pv 3) pe_int) (pe_op op_mulW (pe_ix (r := rIxL K) ix_list (pv 0) pe_int (fun _ _ => rfl)) pe_int)) pe_int) pa_nil)) pe_int) (pg_sub (pv 0) pe_int set_list))
      (pss_one (ps_ret (pe_op op_mod (pe_callTy (r := rInt1) call_int1 (by rfl) T.z.int (by decide +kernel) (pa_cons (pe_op op_fdivW (pe_ix (r := rIxL K) ix_list (pv 0) pe_int (fun _ _ => rfl)) pe_int) pa_nil)) (pv 1))))))), ?_⟩
    have hmp : (0 : Int) < (m : Int) := by omega
    refine q_when (ev_gt (ev_ixL (i := 2) (ev_var rfl) ev_c hw rfl) ev_c) (fun hb H1 e1 => ?_) (fun hb H1 e1 => ?_)
    · have hw1 : H1 wp = _ := e1 wp _ hw
      refine (ev_ixL (K := K) (i := 2) (ta := tVar 0) (tb := tC (.int 2)) (σ := start n_law_draw [.ref wp, .int (m : Int)]) (ev_var rfl) ev_c hw1 rfl) H1 (Ex.refl H1) _ fun H2 e2 => ⟨.int (m : Int), rfl, n0, (m : Int), rfl, ⟨hmp, PyProof.noPylong_small (by omega)⟩, fun p hp => ?_⟩
      have hw2 : H2 wp = _ := e2 wp _ hw1
      have npw : p ≠ wp := fun z => by
        rw [z, hw2] at hp
        cases hp
      refine ⟨p, _, rfl, st_of upd_same, rfl, _, _, rfl, .ref wp, rfl, ⟨wp, _, _, 2, rfl, rfl, by rw [upd_ne (Ne.symm npw)]; exact hw2, rfl, _, _, rfl, rfl, ?_⟩⟩
      have f2 : Ex (del H wp) (upd (upd H2 p (.tup [.int (n0 / (m : Int)), .int (n0 % (m : Int))])) wp (.lst [.int s0, .int k0, .int (n0 / (m : Int))])) := Ex.mut (((ex_del.trans e1).trans e2).trans (Ex.new hp)) del_at
      have g1 := Int.emod_nonneg n0 (show (m : Int) ≠ 0 by omega)
      have g2 := Int.emod_lt_of_pos n0 hmp
      have g3 := Int.ediv_nonneg hn0 (show (0 : Int) ≤ (m : Int) by omega)
      dsimp only
      refine s_ret (v := .int (((n0 % (m : Int)).toNat : Nat) : Int)) (ev_is (ev_var rfl) (congrArg V.int (by omega))) fun H3 e3 => kk (n0 % (m : Int)).toNat s0 k0 (n0 / (m : Int)) H3 (by omega) hs0 hs1 hk0 (by omega) g3 (f2.trans e3) (e3 wp _ upd_same)
    · have hw1 : H1 wp = _ := e1 wp _ hw
      refine q_setL hw1 (ev_add (ev_ixL (i := 1) (ev_var rfl) ev_c hw1 rfl) ev_c) (ev_var rfl) (j := 1) ev_c (show 1 < 3 by decide) fun H2 e2 => ?_
      have f2 : Ex (del H wp) (upd H2 wp (.lst [.int s0, .int (k0 + 1), .int n0])) := Ex.mut ((ex_del.trans e1).trans e2) del_at
      have w2 : upd H2 wp (.lst [.int s0, .int (k0 + 1), .int n0]) wp = some (.lst [.int s0, .int (k0 + 1), .int n0]) := upd_same
      show tSeq (tAsg _ (gName 3)) _ _ _ (upd H2 wp (.lst [.int s0, .int (k0 + 1), .int n0]))
      generalize upd H2 wp (.lst [.int s0, .int (k0 + 1), .int n0]) = H3 at f2 w2 ⊢
      refine q_asg (ev_int1 (ev_ixL (i := 0) (ev_var rfl) ev_c w2 rfl)) fun H4 e4 => ?_
      have w4 := e4 wp _ w2
      have m1 := Int.emod_nonneg (s0 * 40009 + (k0 + 1) * 48017 + 61) (show (2147483629 : Int) ≠ 0 by decide)
      have m2 := Int.emod_lt_of_pos (s0 * 40009 + (k0 + 1) * 48017 + 61) (show (0 : Int) < 2147483629 by decide)
      refine q_setL w4 (ev_mod (ev_int1 (ev_add (ev_add (ev_mulW (ev_var rfl) ev_c (mul_fw (fw_small (by omega)) (fw_small (by decide)))) (ev_mulW (ev_ixL (i := 1) (ev_var rfl) ev_c w4 rfl) ev_c (mul_fw (fw_small (by omega)) (fw_small (by decide))))) ev_c)) ev_c (by decide)) (ev_var rfl) (j := 0) ev_c (show 0 < 3 by decide) fun H5 e5 => ?_
      generalize (s0 * 40009 + (k0 + 1) * 48017 + 61) % 2147483629 = s1 at m1 m2
      have f5 : Ex (del H wp) (upd H5 wp (.lst [.int s1, .int (k0 + 1), .int n0])) := Ex.mut ((f2.trans e4).trans e5) del_at
      have w5 : upd H5 wp (.lst [.int s1, .int (k0 + 1), .int n0]) wp = some (.lst [.int s1, .int (k0 + 1), .int n0]) := upd_same
      show tRet _ _ _ (upd H5 wp (.lst [.int s1, .int (k0 + 1), .int n0]))
      generalize upd H5 wp (.lst [.int s1, .int (k0 + 1), .int n0]) = H6 at f5 w5 ⊢
      have g1 := Int.emod_nonneg (s1.fdiv 2048) (show (m : Int) ≠ 0 by omega)
      have g2 := Int.emod_lt_of_pos (s1.fdiv 2048) hmp
      refine s_ret (v := .int (((s1.fdiv 2048 % (m : Int)).toNat : Nat) : Int)) (ev_is (ev_mod (ev_int1 (ev_fdivW (ev_ixL (i := 0) (ev_var rfl) ev_c w5 rfl) ev_c (div_fit (by decide) (fit_lit 2048 (by decide))))) (ev_var rfl) hmp) (congrArg V.int (by omega))) fun H7 e7 => kk _ s1 (k0 + 1) n0 H7 (by omega) m1 (by omega) (by omega) (Int.le_refl _) hn0 (f5.trans e7) (e7 wp _ w5)
end
end Fd
end

section
set_option Elab.async false
set_option linter.all false
set_option maxRecDepth 100000
set_option maxHeartbeats 4000000
/-! WT: great starts, the law's own gcd. -/
namespace Fd
open PySem PySem.Spec PyProof.Rows L2 Evl Ew Tx FR
section
variable {P : Program} {w : World} {K : PySem.W.Frag} {mg : Str → Option Value} {base : Heap}
def sp_law_great : Sp := fun vs H Q _ => ∃ (wp : Addr) (s k n : Int), vs = [.ref wp] ∧ Trip H wp s k n ∧ 0 ≤ s ∧ s < 2147483648 ∧ 0 ≤ k ∧ k < 1000 ∧ 0 ≤ n ∧
  ∀ (d : Nat) s' k' n' H2, d < 10 ^ 27 → 0 ≤ s' → s' < 2147483648 → 0 ≤ k' → k' ≤ k + 10 → 0 ≤ n' → Ex (del H wp) H2 → Trip H2 wp s' k' n' → Q (.int (d : Int)) H2
theorem ok_law_great (T : Txt K mg) : FnOk P w K mg base CX0 2 T.law_great.a T.law_great.d p_law_great sp_law_great := by
  have G1 := ok_law_draw (P := P) (w := w) (base := base) T
  refine T.law_great.F.ok sc_law_great (fun vs H Q E h => ?_) (fun cdv A outer s H vs Q E hr h => ?_)
  · obtain ⟨wp, s, k, n, rfl, _⟩ := h
    rfl
  · obtain ⟨wp, s0, k0, n0, rfl, hw, hs0, hs1, hk0, hk1, hn0, kk⟩ := h
    have nd := sc_law_great.nd
    refine ⟨_, pss_cons (ps_set (i := 1) nd rfl (Or.inl rfl) pe_int)
      (pss_cons (ps_for PassesOwn.never rfl (pi_range1 (by rfl) T.z.range (pa_cons (pe_op op_add pe_int (pe_call G1 hr (by rfl) T.law_draw.g T.law_draw.F.kp T.law_draw.b .nil pass0 (pa_cons (pv 0) (pa_cons pe_int pa_nil)))) pa_nil)) (pg_name (i := 2) nd rfl (Or.inl rfl))
        (pss_one (ps_set (i := 1) nd rfl (Or.inl rfl) (pe_op op_add (pe_op op_mulW pe_int (pv 1)) (pe_call G1 hr (by rfl) T.law_draw.g T.law_draw.F.kp T.law_draw.b .nil pass0 (pa_cons (pv 0) (pa_cons pe_int pa_nil)))))))
      (pss_one (ps_ret (pv 1)))), ?_⟩
    refine q_asg ev_c fun H1 e1 => ?_
    have hw1 : Trip H1 wp s0 k0 n0 := e1 wp _ hw
    refine ⟨.ref wp, rfl, ⟨wp, s0, k0, n0, 9, rfl, hw1, hs0, hs1, hk0, by omega, hn0, by decide, by decide, fun d s1 k1 n1 H2 hd b1 b2 b3 b4 b5 e2 h2 => ?_⟩⟩
    refine ⟨1, (d : Int), rfl, rfl, ?_⟩
    have f2 : Ex (del H wp) H2 := (Ex.del e1).trans e2
    refine (s_for (wi := iRng1 (tCons (tC (.int (1 + (d : Int)))) tNil)) (g := gName 2) (ew_range (1 + d) (ea_cons ev_c ea_nil) (by omega) (by omega))
      (fun i σ' H' => ∃ a2 x s' k' n', σ' = [some (.ref wp), some (.int x), a2] ∧ Ex (del H wp) H' ∧ Trip H' wp s' k' n' ∧ 0 ≤ s' ∧ s' < 2147483648 ∧ 0 ≤ k' ∧ k' ≤ k0 + 1 + (i : Int) ∧ 0 ≤ n' ∧ 0 ≤ x ∧ x < 1000 ^ i)
      (fun H3 e3 _ => ⟨_, 0, s1, k1, n1, rfl, f2.trans e3, e3 wp _ h2, b1, b2, b3, by omega, b5, Int.le_refl _, by decide⟩) (fun _ _ _ _ => trivial) (fun i x σ' H3 H4 hi hP y => ?_) (fun σ' H3 hP => ?_))
    · obtain ⟨a2, x, s2, k2, n2, rfl, e3, h3, c1, c2, c3, c4, c5, c6, c7⟩ := hP
      refine y_name y ?_
      have hpw : (1000 : Int) ^ i ≤ 1000 ^ 8 := by
        have hi8 : i ≤ 8 := by omega
        exact_mod_cast Nat.pow_le_pow_right (by decide) hi8
      have hp8 : (1000 : Int) ^ 8 = 1000000000000000000000000 := by decide
      refine ⟨.int x, rfl, 1000, x, rfl, rfl, mul_fw (fw_small (by decide)) (fw_small (by
        have : x.natAbs < 1000000000000000000000000 := by omega
        exact Nat.lt_trans this (by decide))), .ref wp, rfl, ⟨wp, s2, k2, n2, 1000, rfl, h3, c1, c2, c3, by omega, c5, by decide, by decide, fun d2 s3 k3 n3 H5 hd2 b1 b2 b3 b4 b5 e5 h5 => ?_⟩⟩
      refine ⟨1000 * x, (d2 : Int), rfl, rfl, ?_⟩
      refine ⟨_, _, s3, k3, n3, rfl, fun b o hb => e5 b o (by
        obtain ⟨nb, hb2⟩ := del_some hb
        rw [del_ne nb]
        exact e3 b o hb), h5, b1, b2, b3, by rw [Int.natCast_add]; omega, b5, by omega, ?_⟩
      rw [Int.pow_succ]
      omega
    · obtain ⟨a2, x, s2, k2, n2, rfl, e3, h3, c1, c2, c3, c4, c5, c6, c7⟩ := hP
      have hpw : (1000 : Int) ^ (1 + d) ≤ 1000 ^ 9 := by
        have hi8 : 1 + d ≤ 9 := by omega
        exact_mod_cast Nat.pow_le_pow_right (by decide) hi8
      have hp9 : (1000 : Int) ^ 9 = 10 ^ 27 := by decide
      have hx : x < 10 ^ 27 := by omega
      have hx2 : x.toNat < 10 ^ 27 := by
        have h9 : ((x.toNat : Nat) : Int) < ((10 ^ 27 : Nat) : Int) := by
          rw [Int.toNat_of_nonneg c6]
          exact_mod_cast hx
        exact_mod_cast h9
      exact s_ret (v := .int ((x.toNat : Nat) : Int)) (ev_is (ev_var rfl) (congrArg V.int (by omega))) fun H4 e4 => kk x.toNat s2 k2 n2 H4 hx2 c1 c2 c3 (by rw [Int.natCast_add] at c4; omega) c5 (e3.trans e4) (e4 wp _ h3)
end
/-! ### Euclid, round by round -/
def eStep (p : Int × Int) : Int × Int := if 0 < p.2 then (p.2, p.1 % p.2) else p
def eRun (p : Int × Int) : Nat → Int × Int
  | 0 => p
  | n + 1 => eStep (eRun p n)
theorem eStep_ok {p : Int × Int} (h1 : 0 ≤ p.1) (h2 : 0 ≤ p.2) : 0 ≤ (eStep p).1 ∧ 0 ≤ (eStep p).2 ∧ (eStep p).2 ≤ (eStep p).1 + (if 0 < p.2 then 0 else p.2) ∧ Int.gcd (eStep p).1 (eStep p).2 = Int.gcd p.1 p.2 := by
  unfold eStep
  by_cases h : 0 < p.2
  · rw [if_pos h, if_pos h]
    have g1 := Int.emod_nonneg p.1 (show p.2 ≠ 0 by omega)
    have g2 := Int.emod_lt_of_pos p.1 h
    exact ⟨h2, g1, by show p.1 % p.2 ≤ p.2 + 0; omega, gcd_turn h1 h⟩
  · rw [if_neg h, if_neg h]
    exact ⟨h1, h2, by omega, rfl⟩
theorem eRun_ok {p : Int × Int} {B : Int} (h1 : 0 ≤ p.1) (h2 : 0 ≤ p.2) (hB : p.1 * p.2 ≤ B) : ∀ n : Nat, 0 ≤ (eRun p n).1 ∧ 0 ≤ (eRun p n).2 ∧ Int.gcd (eRun p n).1 (eRun p n).2 = Int.gcd p.1 p.2 ∧ (n = 0 ∨ (eRun p n).2 ≤ (eRun p n).1) ∧ (eRun p n).1 * (eRun p n).2 * 2 ^ n ≤ 2 * B
  | 0 => by
    refine ⟨h1, h2, rfl, .inl rfl, ?_⟩
    show p.1 * p.2 * 2 ^ 0 ≤ 2 * B
    have := Int.mul_nonneg h1 h2
    rw [Int.pow_zero, Int.mul_one]
    omega
  | n + 1 => by
    obtain ⟨a1, a2, a3, a4, a5⟩ := eRun_ok h1 h2 hB n
    have h0 : (n = 0 → eRun p n = p) := fun z => by
      rw [z]
      rfl
    show 0 ≤ (eStep (eRun p n)).1 ∧ 0 ≤ (eStep (eRun p n)).2 ∧ Int.gcd (eStep (eRun p n)).1 (eStep (eRun p n)).2 = Int.gcd p.1 p.2 ∧ (n + 1 = 0 ∨ (eStep (eRun p n)).2 ≤ (eStep (eRun p n)).1) ∧ (eStep (eRun p n)).1 * (eStep (eRun p n)).2 * 2 ^ (n + 1) ≤ 2 * B
    generalize eRun p n = q at a1 a2 a3 a4 a5 h0 ⊢
    obtain ⟨c1, c2, c3, c4⟩ := eStep_ok a1 a2
    refine ⟨c1, c2, c4.trans a3, .inr ?_, ?_⟩
    · by_cases h : 0 < q.2
      · rw [if_pos h] at c3
        omega
      · rw [if_neg h] at c3
        omega
    · unfold eStep
      by_cases h : 0 < q.2
      · rw [if_pos h]
        show q.2 * (q.1 % q.2) * 2 ^ (n + 1) ≤ 2 * B
        have g1 := Int.emod_nonneg q.1 (show q.2 ≠ 0 by omega)
        have g2 := Int.emod_lt_of_pos q.1 h
        have hp : (0 : Int) ≤ 2 ^ n := Int.le_of_lt (Int.pow_pos (by decide))
        have e1 : q.2 * (q.1 % q.2) * 2 ^ (n + 1) = q.2 * (2 * (q.1 % q.2)) * 2 ^ n := by
          rw [Int.pow_succ, Int.mul_comm (2 ^ n) 2, ← Int.mul_assoc, Int.mul_assoc q.2, Int.mul_comm (q.1 % q.2) 2]
        rw [e1]
        rcases a4 with z | z
        · -- the first round
          have hq := h0 z
          have m1 : q.1 % q.2 ≤ q.1 := by
            have d1 := Int.emod_add_mul_ediv q.1 q.2
            have d2 := Int.mul_nonneg a2 (Int.ediv_nonneg a1 a2)
            omega
          have m2 : q.2 * (2 * (q.1 % q.2)) ≤ q.2 * (2 * q.1) := Int.mul_le_mul_of_nonneg_left (by omega) a2
          have m3 : q.2 * (2 * q.1) = 2 * (q.1 * q.2) := by
            rw [Int.mul_comm q.2, Int.mul_assoc]
          rw [z, Int.pow_zero, Int.mul_one]
          rw [hq] at m2 m3 ⊢
          omega
        · have m0 : q.1 % q.2 ≤ q.1 - q.2 := by
            have d1 := Int.emod_add_mul_ediv q.1 q.2
            have d2 : 1 ≤ q.1 / q.2 := by
              rw [Int.le_ediv_iff_mul_le h]
              omega
            have d3 : q.2 * 1 ≤ q.2 * (q.1 / q.2) := Int.mul_le_mul_of_nonneg_left d2 a2
            omega
          have m2 : q.2 * (2 * (q.1 % q.2)) ≤ q.2 * q.1 := Int.mul_le_mul_of_nonneg_left (by omega) a2
          rw [Int.mul_comm q.2 q.1] at m2
          exact Int.le_trans (Int.mul_le_mul_of_nonneg_right m2 hp) a5
      · rw [if_neg h]
        have hz : q.2 = 0 := by omega
        rw [hz, Int.mul_zero, Int.zero_mul]
        rw [hz, Int.mul_zero, Int.zero_mul] at a5
        exact a5
theorem eRun_end {a b : Int} (ha : 0 ≤ a) (hb : 0 ≤ b) (h : a * b < 2 ^ 250) : (eRun (a, b) 259).1 = (Int.gcd a b : Int) := by
  obtain ⟨a1, a2, a3, a4, a5⟩ := eRun_ok (p := (a, b)) (B := 2 ^ 250) ha hb (Int.le_of_lt h) 259
  generalize eRun (a, b) 259 = q at a1 a2 a3 a4 a5 ⊢
  have hle : q.2 ≤ q.1 := by
    rcases a4 with z | z
    · cases z
    · exact z
  have hP : q.1 * q.2 < 1 := by
    refine Int.lt_of_not_ge fun z => ?_
    have h5 : (1 : Int) * 2 ^ 259 ≤ q.1 * q.2 * 2 ^ 259 := Int.mul_le_mul_of_nonneg_right z (by decide +kernel)
    have h6 : (2 : Int) * 2 ^ 250 < 1 * 2 ^ 259 := by decide +kernel
    omega
  have hz : q.2 = 0 := by
    by_cases hq : q.2 = 0
    · exact hq
    · have h7 : (1 : Int) * 1 ≤ q.1 * q.2 := Int.mul_le_mul (by omega) (by omega) (by decide) a1
      omega
  have a3' : Int.gcd q.1 q.2 = Int.gcd a b := a3
  rw [← a3', hz, Int.gcd_zero_right]
  omega
section
variable {P : Program} {w : World} {K : PySem.W.Frag} {mg : Str → Option Value} {base : Heap}
def sp_law_shared : Sp := fun vs H Q _ => ∃ a b : Int, vs = [.int a, .int b] ∧ 0 < b ∧ b ≤ 2 ^ 40 ∧ a.natAbs < 10 ^ 50 ∧ RetV (.int (Int.gcd a b : Int)) H Q
theorem ok_law_shared (T : Txt K mg) : FnOk P w K mg base CX0 1 T.law_shared.a T.law_shared.d p_law_shared sp_law_shared := by
  refine T.law_shared.F.ok sc_law_shared (fun vs H Q E h => ?_) (fun cdv A outer s H vs Q E hr h => ?_)
  · obtain ⟨a, b, rfl, _⟩ := h
    rfl
  · obtain ⟨a, b, rfl, hb, hb2, ha, k⟩ := h
    have nd := sc_law_shared.nd
    refine ⟨_, pss_cons (ps_par (i := 2) (j := 3) rfl nd rfl rfl (by decide) rfl rfl (pa_cons (pe_callB (r := rMax2) (call_max2 rfl) (by rfl) T.z.max (by decide +kernel) (pa_cons (pe_callB call_abs (by rfl) T.z.abs (by decide +kernel) (pa_cons (pv 0) pa_nil)) (pa_cons (pe_callB call_abs (by rfl) T.z.abs (by decide +kernel) (pa_cons (pv 1) pa_nil)) pa_nil))) (pa_cons pe_int pa_nil)) (by rfl))
      (pss_cons (ps_for PassesOwn.never rfl (pi_range1 (by rfl) T.z.range (pa_cons pe_int pa_nil)) (pg_name (i := 4) nd rfl (Or.inl rfl))
        (pss_one (ps_if (pt_cmpR op_gt (pv 2) pe_int (nomark _)) (pss_one (ps_par (i := 3) (j := 2) rfl nd rfl rfl (by decide) rfl rfl (pa_cons (pe_op op_add (pv 3) pe_int) (pa_cons (pe_op op_fdivW (pv 2) (pe_op op_pow pe_int pe_int)) pa_nil)) (by rfl))) pss_nil)))
      (pss_cons (ps_par (i := 0) (j := 1) rfl nd rfl rfl (by decide) rfl rfl (pa_cons (pe_callB call_abs (by rfl) T.z.abs (by decide +kernel) (pa_cons (pv 0) pa_nil)) (pa_cons (pe_callB call_abs (by rfl) T.z.abs (by decide +kernel) (pa_cons (pv 1) pa_nil)) pa_nil)) (by rfl))
      (pss_cons (ps_for PassesOwn.never rfl (pi_range1 (by rfl) T.z.range (pa_cons (pv 3) pa_nil)) (pg_name (i := 5) nd rfl (Or.inl rfl))
        (pss_one (ps_if (pt_cmpR op_gt (pv 1) pe_int (nomark _)) (pss_one (ps_par (i := 0) (j := 1) rfl nd rfl rfl (by decide) rfl rfl (pa_cons (pv 1) (pa_cons (pe_op op_mod (pe_callTy (r := rInt1) call_int1 (by rfl) T.z.int (by decide +kernel) (pa_cons (pv 0) pa_nil)) (pv 1)) pa_nil)) (by rfl))) pss_nil)))
      (pss_one (ps_ret (pv 0)))))), ?_⟩
    refine q_par (ea_cons (ev_max2 (ev_abs (ev_var rfl)) (ev_abs (ev_var rfl))) (ea_cons ev_c ea_nil)) fun H1 e1 => ?_
    have hM0 : (0 : Int) < (if (b.natAbs : Int) > (a.natAbs : Int) then (b.natAbs : Int) else (a.natAbs : Int)) := by
      split <;> omega
    have hM1 : (if (b.natAbs : Int) > (a.natAbs : Int) then (b.natAbs : Int) else (a.natAbs : Int)) < 10 ^ 50 := by
      have h1 : (a.natAbs : Int) < 10 ^ 50 := by exact_mod_cast ha
      have h2 : (b.natAbs : Int) < 10 ^ 50 := by
        have h3 : (2 : Int) ^ 40 < 10 ^ 50 := by decide
        omega
      split
      · exact h2
      · exact h1
    generalize (if (b.natAbs : Int) > (a.natAbs : Int) then (b.natAbs : Int) else (a.natAbs : Int)) = M at hM0 hM1 ⊢
    refine q_for (ew_range 200 (ea_cons ev_c ea_nil) rfl (by decide))
      (fun i σ' H' => ∃ a4 rest laps, σ' = [some (.int a), some (.int b), some (.int rest), some (.int laps), a4, none] ∧ Ex H H' ∧ ((i = 0 ∧ rest = M ∧ laps = 9) ∨ (0 < i ∧ rest = 0 ∧ laps = 259)))
      (fun H2 e2 _ => ⟨_, M, 9, rfl, e1.trans e2, .inl ⟨rfl, rfl, rfl⟩⟩) (fun _ _ _ _ => trivial) (fun i x σ' H2 H3 hi hP y => ?_) (fun σ' H2 hP => ?_)
    · obtain ⟨a4, rest, laps, rfl, e2, hc⟩ := hP
      refine y_name y ?_
      rcases hc with ⟨h1, h2, h3⟩ | ⟨h1, h2, h3⟩
      · rw [h2, h3]
        have hz : M.fdiv (10 ^ (50 : Int).toNat) = 0 := by
          have h50 : (10 : Int) ^ (50 : Int).toNat = 10 ^ 50 := rfl
          rw [h50, Int.fdiv_eq_ediv_of_nonneg _ (by decide)]
          exact Int.ediv_eq_zero_of_lt (by omega) hM1
        refine s_yes (ev_gt (ev_var rfl) ev_c) (decide_eq_true hM0) fun H4 e4 => ?_
        refine s_par (ea_cons (ev_add (ev_var rfl) ev_c) (ea_cons (ev_fdivW (ev_var rfl) (ev_pow ev_c ev_c ⟨by decide, by decide, by decide⟩) ⟨by decide, by decide⟩) ea_nil)) fun H5 e5 => ?_
        exact ⟨_, _, _, rfl, (e2.trans e4).trans e5, .inr ⟨by omega, hz, rfl⟩⟩
      · rw [h2]
        refine s_skip (ev_gt (ev_var rfl) ev_c) rfl fun H4 e4 => ⟨_, _, _, rfl, e2.trans e4, .inr ⟨by omega, rfl, h3⟩⟩
    · obtain ⟨a4, rest, laps, rfl, e2, hc⟩ := hP
      have hlaps : laps = 259 := by
        rcases hc with ⟨h1, _⟩ | ⟨_, _, h3⟩
        · cases h1
        · exact h3
      rw [hlaps]
      refine q_par (ea_cons (ev_abs (ev_var rfl)) (ea_cons (ev_abs (ev_var rfl)) ea_nil)) fun H3 e3 => ?_
      refine q_for (ew_range 259 (ea_cons (ev_var rfl) ea_nil) rfl (by decide))
        (fun i σ' H' => ∃ a5, σ' = [some (.int (eRun ((a.natAbs : Int), (b.natAbs : Int)) i).1), some (.int (eRun ((a.natAbs : Int), (b.natAbs : Int)) i).2), some (.int rest), some (.int 259), a4, a5] ∧ Ex H H')
        (fun H4 e4 _ => ⟨_, rfl, (e2.trans e3).trans e4⟩) (fun _ _ _ _ => trivial) (fun i x σ' H4 H5 hi hP y => ?_) (fun σ' H4 hP => ?_)
      · obtain ⟨a5, rfl, e4⟩ := hP
        refine y_name y ?_
        have hs : eRun ((a.natAbs : Int), (b.natAbs : Int)) (i + 1) = eStep (eRun ((a.natAbs : Int), (b.natAbs : Int)) i) := rfl
        rw [hs]
        generalize eRun ((a.natAbs : Int), (b.natAbs : Int)) i = q
        refine s_when (ev_gt (ev_var rfl) ev_c) (fun hq H6 e6 => ?_) (fun hq H6 e6 => ?_)
        · have hq2 : 0 < q.2 := of_decide_eq_true hq
          refine s_par (ea_cons (ev_var rfl) (ea_cons (ev_mod (ev_int1 (ev_var rfl)) (ev_var rfl) hq2) ea_nil)) fun H7 e7 => ⟨some (.int (i : Int)), ?_, (e4.trans e6).trans e7⟩
          unfold eStep
          rw [if_pos hq2]
          rfl
        · refine ⟨some (.int (i : Int)), ?_, e4.trans e6⟩
          unfold eStep
          rw [if_neg (of_decide_eq_false hq)]
          rfl
      · obtain ⟨a5, rfl, e4⟩ := hP
        have hend := eRun_end (a := (a.natAbs : Int)) (b := (b.natAbs : Int)) (by omega) (by omega) (by
          have h1 : (a.natAbs : Int) ≤ 10 ^ 50 := by
            have : (a.natAbs : Int) < 10 ^ 50 := by exact_mod_cast ha
            omega
          have h2 : (b.natAbs : Int) ≤ 2 ^ 40 := by omega
          have h3 : (a.natAbs : Int) * (b.natAbs : Int) ≤ 10 ^ 50 * 2 ^ 40 := Int.mul_le_mul h1 h2 (by omega) (by decide)
          have h4 : (10 : Int) ^ 50 * 2 ^ 40 < 2 ^ 250 := by decide +kernel
          omega)
        rw [hend]
        have hg : Int.gcd (a.natAbs : Int) (b.natAbs : Int) = Int.gcd a b := by
          unfold Int.gcd
          rw [Int.natAbs_natCast, Int.natAbs_natCast]
        rw [hg]
        exact s_ret (ev_var rfl) fun H5 e5 => k H5 (e4.trans e5)
def sp_law_part : Sp := fun vs H Q _ => ∃ a b : Int, vs = [.int a, .int b] ∧ 0 < b ∧ b ≤ 2 ^ 40 ∧ a.natAbs < 10 ^ 50 ∧ RetN (.tup [.int (lowI a b).1, .int (lowI a b).2]) H Q
theorem ok_law_part (T : Txt K mg) : FnOk P w K mg base CX0 2 T.law_part.a T.law_part.d p_law_part sp_law_part := by
  have G := ok_law_shared (P := P) (w := w) (base := base) T
  refine T.law_part.F.ok sc_law_part (fun vs H Q E h => ?_) (fun cdv A outer s H vs Q E hr h => ?_)
  · obtain ⟨a, b, rfl, _⟩ := h
    rfl
  · obtain ⟨a, b, rfl, hb, hb2, ha, k⟩ := h
    refine ⟨_, pss_cons (ps_set (i := 2) sc_law_part.nd rfl (Or.inl rfl) (pe_call G hr (by rfl) T.law_shared.g T.law_shared.F.kp T.law_shared.b .nil pass0 (pa_cons (pv 0) (pa_cons (pv 1) pa_nil))))
      (pss_one (ps_ret (pe_tup (pa_cons (pe_op op_fdivW (pv 0) (pv 2)) (pa_cons (pe_op op_fdivW (pv 1) (pv 2)) pa_nil))))), ?_⟩
    refine q_asg (ev_call (z := .int (Int.gcd a b : Int)) (ea_cons (ev_var rfl) (ea_cons (ev_var rfl) ea_nil)) fun H1 e1 Q q E => ⟨a, b, rfl, hb, hb2, ha, q⟩) fun H1 e1 => ?_
    have hf : Fit b := by
      refine Nat.lt_trans (m := 2 ^ 41) ?_ (by decide +kernel)
      have h3 : (2 : Int) ^ 40 < 2 ^ 41 := by decide
      have h4 : ((b.natAbs : Nat) : Int) < ((2 ^ 41 : Nat) : Int) := by
        rw [Int.natAbs_of_nonneg (by omega)]
        exact Int.lt_of_le_of_lt hb2 (by decide)
      exact_mod_cast h4
    have hc : ∀ i : Int, CDivW i (Int.gcd a b : Int) := fun i => div_fit (gcd_pos hb) (gcd_fit hb hf)
    exact s_retU (eu_tup (ea_cons (ev_fdivW (ev_var rfl) (ev_var rfl) (hc a)) (ea_cons (ev_fdivW (ev_var rfl) (ev_var rfl) (hc b)) ea_nil)) (by show 2 ≤ 100000; decide)) fun p H2 hp e2 h2 => k p H2 (fresh_back e1 hp) (e1.trans e2) h2
end
end Fd
end

section
set_option Elab.async false
set_option linter.all false
set_option maxRecDepth 100000
set_option maxHeartbeats 4000000
/-! WU: the law's programs, and what bound answers on them. -/
namespace Fd
open PySem PySem.Spec PyProof.Rows L2 Evl Ew Tx FR
def SA : Str := "a"
def SB : Str := "b"
def SX : Str := "x"
def SY : Str := "y"
def oneP (s l : Int) : Pg := ⟨[SX], [], [⟨SA, SA, [[1, 0 - l]], [[1, 0 - s]]⟩]⟩
def bothP (s f l : Int) : Pg := ⟨[SX], [], [⟨SA, SA, [[1, 0 - l]], [[1, 0 - s]]⟩, ⟨SA, SA, [[1, 0 - l]], [[1, 0 - f]]⟩]⟩
def twoP (l : Int) : Pg := ⟨[SX], [], [⟨SA, SB, [[1, 0 - l]], [[1, -1]]⟩, ⟨SB, SA, [[1, 1 - l]], [[1, 0]]⟩]⟩
def floors : List (Str × List Int) := [(SA, [1, 0, 0]), (SA, [0, 1, 0])]
def besideP (s f : Int) : Pg := ⟨[SX, SY], floors, [⟨SA, SA, [[1, 0, 0 - s]], [[1, 0, 0 - s], [0, 1, 0]]⟩, ⟨SA, SA, [[0, 1, 0 - f]], [[1, 0, 0], [0, 1, 0 - f]]⟩]⟩
def nestP : Pg := ⟨[SX, SY], floors, [⟨SA, SA, [[0, 1, -1]], [[1, 0, 0], [0, 1, -1]]⟩, ⟨SA, SA, [[1, 0, -1]], [[1, 0, -1], [1, 1, 0]]⟩]⟩
def upP : Pg := ⟨[SX], [], [⟨SA, SA, [], [[1, 1]]⟩]⟩
def neverP : Pg := ⟨[SX], [], [⟨SA, SA, [[0, -1]], [[1, 1]]⟩]⟩
theorem pl_of {says : List (Str × List Int)} {brs : List Brh} {l : List Str} {r : List Str} (h : foundIn says brs = l) (h2 : dedup l = r) : placesL says brs = r := by
  unfold placesL
  rw [h, h2]
theorem pl_one (s l : Int) : (oneP s l).places = [SA] := pl_of (l := [SA, SA]) rfl (by decide +kernel)
theorem pl_both (s f l : Int) : (bothP s f l).places = [SA] := pl_of (l := [SA, SA, SA, SA]) rfl (by decide +kernel)
theorem pl_two (l : Int) : (twoP l).places = [SA, SB] := pl_of (l := [SA, SB, SB, SA]) rfl (by decide +kernel)
theorem pl_beside (s f : Int) : (besideP s f).places = [SA] := pl_of (l := [SA, SA, SA, SA, SA, SA]) rfl (by decide +kernel)
theorem let_a : LetterS SA := ⟨97, rfl, by decide +kernel⟩
theorem let_b : LetterS SB := ⟨98, rfl, by decide +kernel⟩
theorem let_x : LetterS SX := ⟨120, rfl, by decide +kernel⟩
theorem let_y : LetterS SY := ⟨121, rfl, by decide +kernel⟩
def Mill (x : Int) : Prop := x.natAbs ≤ 1000000
theorem form2 {a b : Int} (h1 : Mill a) (h2 : Mill b) : FormOk 1 [a, b] := ⟨rfl, fun x hx => by
  rcases List.mem_cons.mp hx with z | hx
  · rw [z]; exact h1
  · rw [List.mem_singleton.mp hx]; exact h2⟩
theorem form3 {a b c : Int} (h1 : Mill a) (h2 : Mill b) (h3 : Mill c) : FormOk 2 [a, b, c] := ⟨rfl, fun x hx => by
  rcases List.mem_cons.mp hx with z | hx
  · rw [z]; exact h1
  · rcases List.mem_cons.mp hx with z | hx
    · rw [z]; exact h2
    · rw [List.mem_singleton.mp hx]; exact h3⟩
theorem br1 {a b : Str} {t c : List Int} (ha : LetterS a) (hb : LetterS b) (ht : FormOk 1 t) (hc : FormOk 1 c) : BrOk 1 ⟨a, b, [t], [c]⟩ := ⟨ha, hb, (show 1 ≤ 3 by decide), fun r hr => by rw [List.mem_singleton.mp hr]; exact ht, rfl, fun r hr => by rw [List.mem_singleton.mp hr]; exact hc⟩
theorem br2 {a b : Str} {t c d : List Int} (ha : LetterS a) (hb : LetterS b) (ht : FormOk 2 t) (hc : FormOk 2 c) (hd : FormOk 2 d) : BrOk 2 ⟨a, b, [t], [c, d]⟩ := ⟨ha, hb, (show 1 ≤ 3 by decide), fun r hr => by rw [List.mem_singleton.mp hr]; exact ht, rfl, fun r hr => by
  rcases List.mem_cons.mp hr with z | hr
  · rw [z]; exact hc
  · rw [List.mem_singleton.mp hr]; exact hd⟩
theorem m1 : Mill 1 := show Int.natAbs 1 ≤ 1000000 by decide
theorem m0 : Mill 0 := show Int.natAbs 0 ≤ 1000000 by decide
theorem mem1 {α : Type} {P : α → Prop} {a : α} (h : P a) : ∀ x ∈ [a], P x := fun x hx => by
  rw [List.mem_singleton.mp hx]
  exact h
theorem mem2 {α : Type} {P : α → Prop} {a b : α} (h : P a) (h2 : P b) : ∀ x ∈ [a, b], P x := fun x hx => by
  rcases List.mem_cons.mp hx with z | z
  · rw [z]
    exact h
  · rw [List.mem_singleton.mp z]
    exact h2
theorem inA : SA ∈ [SA] ∧ SA ∈ [SA] := ⟨List.mem_singleton.mpr rfl, List.mem_singleton.mpr rfl⟩
theorem few1 {n : Nat} {P : Nat → Prop} (h : P 0) : ∀ i, i < 1 → P i := fun i hi => by
  have : i = 0 := by omega
  rw [this]
  exact h
theorem few2 {n : Nat} {P : Nat → Prop} (h : P 0) (h2 : P 1) : ∀ i, i < 2 → P i := fun i hi => by
  rcases Nat.lt_or_ge i 1 with z | z
  · have : i = 0 := by omega
    rw [this]
    exact h
  · have : i = 1 := by omega
    rw [this]
    exact h2
theorem ok_one {s l : Int} (hs : Mill (0 - s)) (hl : Mill (0 - l)) : PgOk (oneP s l) where
  ns := mem1 let_x
  n0 := Nat.succ_pos _
  n3 := show 1 ≤ 3 by decide
  nd := List.nodup_cons.mpr ⟨List.not_mem_nil, List.nodup_nil⟩
  ss := fun x hx => by cases hx
  s3 := Nat.zero_le _
  bs := mem1 (br1 let_a let_a (form2 m1 hl) (form2 m1 hs))
  b0 := Nat.succ_pos _
  b5 := show 1 ≤ 5 by decide
  few := few1 (n := 0) (P := fun i => (placesL (oneP s l).says ((oneP s l).brs.take (i + 1))).length ≤ 3) (by
    rw [pl_of (l := [SA, SA]) (r := [SA]) rfl (by decide +kernel)]
    decide)
  pd := by
    rw [pl_one]
    decide +kernel
  pin := mem1 (P := fun (b : Brh) => b.src ∈ (oneP s l).places ∧ b.tgt ∈ (oneP s l).places) (by
    rw [pl_one]
    exact inA)
theorem ok_both {s f l : Int} (hs : Mill (0 - s)) (hf : Mill (0 - f)) (hl : Mill (0 - l)) : PgOk (bothP s f l) where
  ns := mem1 let_x
  n0 := Nat.succ_pos _
  n3 := show 1 ≤ 3 by decide
  nd := List.nodup_cons.mpr ⟨List.not_mem_nil, List.nodup_nil⟩
  ss := fun x hx => by cases hx
  s3 := Nat.zero_le _
  bs := mem2 (br1 let_a let_a (form2 m1 hl) (form2 m1 hs)) (br1 let_a let_a (form2 m1 hl) (form2 m1 hf))
  b0 := Nat.succ_pos _
  b5 := show 2 ≤ 5 by decide
  few := few2 (n := 0) (P := fun i => (placesL (bothP s f l).says ((bothP s f l).brs.take (i + 1))).length ≤ 3) (by
    rw [pl_of (l := [SA, SA]) (r := [SA]) rfl (by decide +kernel)]
    decide) (by
    rw [pl_of (l := [SA, SA, SA, SA]) (r := [SA]) rfl (by decide +kernel)]
    decide)
  pd := by
    rw [pl_both]
    decide +kernel
  pin := mem2 (P := fun (b : Brh) => b.src ∈ (bothP s f l).places ∧ b.tgt ∈ (bothP s f l).places) (by
    rw [pl_both]
    exact inA) (by
    rw [pl_both]
    exact inA)
theorem ok_two {l : Int} (hl : Mill (0 - l)) (hl2 : Mill (1 - l)) : PgOk (twoP l) where
  ns := mem1 let_x
  n0 := Nat.succ_pos _
  n3 := show 1 ≤ 3 by decide
  nd := List.nodup_cons.mpr ⟨List.not_mem_nil, List.nodup_nil⟩
  ss := fun x hx => by cases hx
  s3 := Nat.zero_le _
  bs := mem2 (br1 let_a let_b (form2 m1 hl) (form2 m1 (show Int.natAbs (-1) ≤ 1000000 by decide))) (br1 let_b let_a (form2 m1 hl2) (form2 m1 m0))
  b0 := Nat.succ_pos _
  b5 := show 2 ≤ 5 by decide
  few := few2 (n := 0) (P := fun i => (placesL (twoP l).says ((twoP l).brs.take (i + 1))).length ≤ 3) (by
    rw [pl_of (l := [SA, SB]) (r := [SA, SB]) rfl (by decide +kernel)]
    decide) (by
    rw [pl_of (l := [SA, SB, SB, SA]) (r := [SA, SB]) rfl (by decide +kernel)]
    decide)
  pd := by
    rw [pl_two]
    decide +kernel
  pin := mem2 (P := fun (b : Brh) => b.src ∈ (twoP l).places ∧ b.tgt ∈ (twoP l).places) (by
    rw [pl_two]
    show SA ∈ [SA, SB] ∧ SB ∈ [SA, SB]
    decide +kernel) (by
    rw [pl_two]
    show SB ∈ [SA, SB] ∧ SA ∈ [SA, SB]
    decide +kernel)
theorem ok_beside {s f : Int} (hs : Mill (0 - s)) (hf : Mill (0 - f)) : PgOk (besideP s f) where
  ns := mem2 let_x let_y
  n0 := Nat.succ_pos _
  n3 := show 2 ≤ 3 by decide
  nd := by
    show [SX, SY].Nodup
    decide +kernel
  ss := mem2 ⟨let_a, form3 m1 m0 m0⟩ ⟨let_a, form3 m0 m1 m0⟩
  s3 := show 2 ≤ 3 by decide
  bs := mem2 (br2 let_a let_a (form3 m1 m0 hs) (form3 m1 m0 hs) (form3 m0 m1 m0)) (br2 let_a let_a (form3 m0 m1 hf) (form3 m1 m0 m0) (form3 m0 m1 hf))
  b0 := Nat.succ_pos _
  b5 := show 2 ≤ 5 by decide
  few := few2 (n := 0) (P := fun i => (placesL (besideP s f).says ((besideP s f).brs.take (i + 1))).length ≤ 3) (by
    rw [pl_of (l := [SA, SA, SA, SA]) (r := [SA]) rfl (by decide +kernel)]
    decide) (by
    rw [pl_of (l := [SA, SA, SA, SA, SA, SA]) (r := [SA]) rfl (by decide +kernel)]
    decide)
  pd := by
    rw [pl_beside]
    decide +kernel
  pin := mem2 (P := fun (b : Brh) => b.src ∈ (besideP s f).places ∧ b.tgt ∈ (besideP s f).places) (by
    rw [pl_beside]
    exact inA) (by
    rw [pl_beside]
    exact inA)
theorem mN1 : Mill (-1) := show Int.natAbs (-1) ≤ 1000000 by decide
theorem ok_nest : PgOk nestP where
  ns := mem2 let_x let_y
  n0 := Nat.succ_pos _
  n3 := show 2 ≤ 3 by decide
  nd := by
    show [SX, SY].Nodup
    decide +kernel
  ss := mem2 ⟨let_a, form3 m1 m0 m0⟩ ⟨let_a, form3 m0 m1 m0⟩
  s3 := show 2 ≤ 3 by decide
  bs := mem2 (br2 let_a let_a (form3 m0 m1 mN1) (form3 m1 m0 m0) (form3 m0 m1 mN1)) (br2 let_a let_a (form3 m1 m0 mN1) (form3 m1 m0 mN1) (form3 m1 m1 m0))
  b0 := Nat.succ_pos _
  b5 := show 2 ≤ 5 by decide
  few := by decide +kernel
  pd := by decide +kernel
  pin := by decide +kernel
theorem ok_up : PgOk upP where
  ns := mem1 let_x
  n0 := Nat.succ_pos _
  n3 := show 1 ≤ 3 by decide
  nd := List.nodup_cons.mpr ⟨List.not_mem_nil, List.nodup_nil⟩
  ss := fun x hx => by cases hx
  s3 := Nat.zero_le _
  bs := mem1 ⟨let_a, let_a, Nat.zero_le _, (fun r hr => by cases hr), rfl, mem1 (form2 m1 m1)⟩
  b0 := Nat.succ_pos _
  b5 := show 1 ≤ 5 by decide
  few := by decide +kernel
  pd := by decide +kernel
  pin := by decide +kernel
theorem ok_never : PgOk neverP where
  ns := mem1 let_x
  n0 := Nat.succ_pos _
  n3 := show 1 ≤ 3 by decide
  nd := List.nodup_cons.mpr ⟨List.not_mem_nil, List.nodup_nil⟩
  ss := fun x hx => by cases hx
  s3 := Nat.zero_le _
  bs := mem1 (br1 let_a let_a (form2 m0 mN1) (form2 m1 m1))
  b0 := Nat.succ_pos _
  b5 := show 1 ≤ 5 by decide
  few := by decide +kernel
  pd := by decide +kernel
  pin := by decide +kernel
theorem cp_one (s l : Int) : cpOf (oneP s l) = progOneI s l := by
  unfold cpOf brOf
  rw [pl_one]
  show (⟨1, 1, [⟨[SA].idxOf SA, [SA].idxOf SA, [[1, 0 - l]] ++ [], [[1, 0 - s]]⟩]⟩ : CProg Int) = _
  rw [Int.zero_sub, Int.zero_sub]
  rfl
theorem cp_both (s f l : Int) : cpOf (bothP s f l) = progBothI s f l := by
  unfold cpOf brOf
  rw [pl_both]
  show (⟨1, 1, [⟨[SA].idxOf SA, [SA].idxOf SA, [[1, 0 - l]] ++ [], [[1, 0 - s]]⟩, ⟨[SA].idxOf SA, [SA].idxOf SA, [[1, 0 - l]] ++ [], [[1, 0 - f]]⟩]⟩ : CProg Int) = _
  rw [Int.zero_sub, Int.zero_sub, Int.zero_sub]
  rfl
theorem cp_two (l : Int) : cpOf (twoP l) = progTwoI l := by
  unfold cpOf brOf
  rw [pl_two]
  show (⟨1, 2, [⟨[SA, SB].idxOf SA, [SA, SB].idxOf SB, [[1, 0 - l]] ++ [], [[1, -1]]⟩, ⟨[SA, SB].idxOf SB, [SA, SB].idxOf SA, [[1, 1 - l]] ++ [], [[1, 0]]⟩]⟩ : CProg Int) = _
  rw [Int.zero_sub]
  rfl
theorem cp_beside (s f : Int) : cpOf (besideP s f) = progBesideI s f := by
  unfold cpOf brOf
  rw [pl_beside]
  show (⟨2, 1, [⟨[SA].idxOf SA, [SA].idxOf SA, [[1, 0, 0 - s], [1, 0, 0], [0, 1, 0]], [[1, 0, 0 - s], [0, 1, 0]]⟩, ⟨[SA].idxOf SA, [SA].idxOf SA, [[0, 1, 0 - f], [1, 0, 0], [0, 1, 0]], [[1, 0, 0], [0, 1, 0 - f]]⟩]⟩ : CProg Int) = _
  rw [Int.zero_sub, Int.zero_sub]
  rfl
end Fd
end

section
set_option Elab.async false
set_option linter.all false
set_option maxRecDepth 100000
set_option maxHeartbeats 4000000
/-! WV: what bound answers on the law's programs. -/
namespace Fd
open PySem PySem.Spec PyProof.Rows L2 Evl Ew Tx FR
theorem low_pos {cp : CProg Int} {idx : List Nat} {pi : Nat} {point : List Int} {a b : Int} (h : lowG intN cp idx pi point = some (.val a b)) : 0 < b := by
  obtain ⟨r, h1, h2⟩ := low_some h
  rcases h2 with ⟨_, h3⟩ | ⟨tops, b', h3, h4⟩
  · cases h3
  · injection h4 with h5 h6
    rw [h3] at h1
    obtain ⟨_, h7⟩ := most_some h1
    rcases h7 with ⟨_, h8⟩ | ⟨T1, bs, b0, _, h8⟩
    · cases h8
    · obtain ⟨_, _, _, d, T2, bs2, _, h9⟩ := mostFrom_some h8
      rcases h9 with ⟨_, h10⟩ | ⟨d', _, hd, _, h10⟩
      · cases h10
      · have h11 : b' = d' := congrArg (fun z => z.2) (Option.some.inj (Option.some.inj h10))
        rw [h6, h11]
        exact hd
theorem steps1 {cp : CProg Int} (h : bestG intN cp [0] = some [0]) : stepsI cp 5 [0] [] = some ([[0]], []) := by
  show (bestG intN cp [0]).bind (fun tk => if tk = [] then some ([], [0]) else stepsI cp 4 ([0].filter fun i => !decide (i ∈ tk)) ([] ++ [tk])) = _
  rw [h]
  rfl
theorem steps2 {cp : CProg Int} (h : bestG intN cp [0, 1] = some [0, 1]) : stepsI cp 5 [0, 1] [] = some ([[0, 1]], []) := by
  show (bestG intN cp [0, 1]).bind (fun tk => if tk = [] then some ([], [0, 1]) else stepsI cp 4 ([0, 1].filter fun i => !decide (i ∈ tk)) ([] ++ [tk])) = _
  rw [h]
  rfl
theorem dead_at1 {g : Pg} {b0 : Brh} {d : Bool} (hg : g.brs = [b0]) (h : isDead intN (testsL g b0) g.names.length = some d) : ∀ (i : Nat) (b : Brh), g.brs[i]? = some b → isDead intN (testsL g b) g.names.length = some ((fun _ => d) i) := fun i b hb => by
  rw [hg] at hb
  cases i with
  | zero =>
    obtain rfl := Option.some.inj hb
    exact h
  | succ i => cases hb
theorem dead_at2 {g : Pg} {b0 b1 : Brh} (hg : g.brs = [b0, b1]) (h : isDead intN (testsL g b0) g.names.length = some false) (h1 : isDead intN (testsL g b1) g.names.length = some false) : ∀ (i : Nat) (b : Brh), g.brs[i]? = some b → isDead intN (testsL g b) g.names.length = some ((fun _ => false) i) := fun i b hb => by
  rw [hg] at hb
  match i with
  | 0 =>
    obtain rfl := Option.some.inj hb
    exact h
  | 1 =>
    obtain rfl := Option.some.inj hb
    exact h1
  | i + 2 => cases hb
theorem bi1 {g : Pg} {pi : Nat} {point : List Int} {o : Out Int} {res : Option (Option (Int × Int))} (h1 : g.brs.length = 1) (hd : ∀ (i : Nat) (b : Brh), g.brs[i]? = some b → isDead intN (testsL g b) g.names.length = some ((fun _ => false) i)) (hb : bestG intN (cpOf g) [0] = some [0])
    (ho : (lowG intN (cpOf g) [0] pi point = some .endless ∧ res = some none) ∨ ∃ n d, lowG intN (cpOf g) [0] pi point = some (.val n d) ∧ res = some (some (n, d))) : BoundIs g pi point res :=
  ⟨fun _ => false, 5, [[0]], [], hd, by decide, by rw [h1]; exact steps1 hb, .inr ⟨[0], rfl, rfl, by decide, by decide, fun i hi => by rw [h1, List.mem_singleton.mp hi]; decide, ho⟩⟩
theorem bi2 {g : Pg} {pi : Nat} {point : List Int} {res : Option (Option (Int × Int))} (h1 : g.brs.length = 2) (hd : ∀ (i : Nat) (b : Brh), g.brs[i]? = some b → isDead intN (testsL g b) g.names.length = some ((fun _ => false) i)) (hb : bestG intN (cpOf g) [0, 1] = some [0, 1])
    (ho : (lowG intN (cpOf g) [0, 1] pi point = some .endless ∧ res = some none) ∨ ∃ n d, lowG intN (cpOf g) [0, 1] pi point = some (.val n d) ∧ res = some (some (n, d))) : BoundIs g pi point res :=
  ⟨fun _ => false, 5, [[0, 1]], [], hd, by decide, by rw [h1]; exact steps2 hb, .inr ⟨[0, 1], rfl, rfl, by decide, by decide, mem2 (P := fun i => i < g.brs.length) (by rw [h1]; decide) (by rw [h1]; decide), ho⟩⟩
section
variable {s f l n : Int} (hL : Let s f n) (hl : Small l)
include hL hl
theorem one_dead : ∀ (i : Nat) (b : Brh), (oneP s l).brs[i]? = some b → isDead intN (testsL (oneP s l) b) (oneP s l).names.length = some ((fun _ => false) i) := dead_at1 rfl (by
  show isDead intN [[1, 0 - l]] 1 = _
  rw [Int.zero_sub]
  exact dead1I (s := s) (f := f) (n := n) hL hl)
theorem both_dead : ∀ (i : Nat) (b : Brh), (bothP s f l).brs[i]? = some b → isDead intN (testsL (bothP s f l) b) (bothP s f l).names.length = some ((fun _ => false) i) := dead_at2 rfl (by
  show isDead intN [[1, 0 - l]] 1 = _
  rw [Int.zero_sub]
  exact dead1I (s := s) (f := f) (n := n) hL hl) (by
  show isDead intN [[1, 0 - l]] 1 = _
  rw [Int.zero_sub]
  exact dead1I (s := s) (f := f) (n := n) hL hl)
theorem two_dead : ∀ (i : Nat) (b : Brh), (twoP l).brs[i]? = some b → isDead intN (testsL (twoP l) b) (twoP l).names.length = some ((fun _ => false) i) := dead_at2 rfl (by
  show isDead intN [[1, 0 - l]] 1 = _
  rw [Int.zero_sub]
  exact dead1I (s := s) (f := f) (n := n) hL hl) (by
  show isDead intN [[1, 1 - l]] 1 = _
  exact dead2I (s := s) (f := f) (n := n) hL hl)
theorem b_one : ∃ a b, BoundIs (oneP s l) 0 [l + n] (some (some (a, b))) ∧ a * s = n * b ∧ 0 < b := by
  obtain ⟨a, b, h1, h2⟩ := oneLowI (f := f) hL hl
  exact ⟨a, b, bi1 (o := .none) rfl (one_dead hL hl) (by rw [cp_one]; exact oneBestI (f := f) (n := n) hL hl) (.inr ⟨a, b, by rw [cp_one]; exact h1, rfl⟩), h2, low_pos h1⟩
theorem b_end : BoundIs (oneP s l) 0 [l - 1 - n] (some none) :=
  bi1 (o := .none) rfl (one_dead hL hl) (by rw [cp_one]; exact oneBestI (f := f) (n := n) hL hl) (.inl ⟨by rw [cp_one]; exact oneEndI (f := f) hL hl, rfl⟩)
theorem b_both : ∃ a b, BoundIs (bothP s f l) 0 [l + n] (some (some (a, b))) ∧ a * min s f = n * b ∧ 0 < b := by
  obtain ⟨a, b, h1, h2⟩ := bothLowI hL hl
  exact ⟨a, b, bi2 rfl (both_dead hL hl) (by rw [cp_both]; exact bothBestI (n := n) hL hl) (.inr ⟨a, b, by rw [cp_both]; exact h1, rfl⟩), h2, low_pos h1⟩
theorem b_two0 : ∃ a b, BoundIs (twoP l) 0 [l + 5] (some (some (a, b))) ∧ a * 1 = 11 * b ∧ 0 < b := by
  obtain ⟨a, b, h1, h2⟩ := twoLowI0 hL hl
  exact ⟨a, b, bi2 rfl (two_dead hL hl) (by rw [cp_two]; exact twoBestI hL hl) (.inr ⟨a, b, by rw [cp_two]; exact h1, rfl⟩), h2, low_pos h1⟩
theorem b_two1 : ∃ a b, BoundIs (twoP l) 1 [l + 5] (some (some (a, b))) ∧ a * 1 = 12 * b ∧ 0 < b := by
  obtain ⟨a, b, h1, h2⟩ := twoLowI1 hL hl
  exact ⟨a, b, bi2 rfl (two_dead hL hl) (by rw [cp_two]; exact twoBestI hL hl) (.inr ⟨a, b, by rw [cp_two]; exact h1, rfl⟩), h2, low_pos h1⟩
theorem b_two2 : ∃ a b, BoundIs (twoP l) 0 [l] (some (some (a, b))) ∧ a * 1 = 1 * b ∧ 0 < b := by
  obtain ⟨a, b, h1, h2⟩ := twoLowI2 hL hl
  exact ⟨a, b, bi2 rfl (two_dead hL hl) (by rw [cp_two]; exact twoBestI hL hl) (.inr ⟨a, b, by rw [cp_two]; exact h1, rfl⟩), h2, low_pos h1⟩
theorem b_two3 : ∃ a b, BoundIs (twoP l) 1 [l - 1] (some (some (a, b))) ∧ a * 1 = 0 * b ∧ 0 < b := by
  obtain ⟨a, b, h1, h2⟩ := twoLowI3 hL hl
  exact ⟨a, b, bi2 rfl (two_dead hL hl) (by rw [cp_two]; exact twoBestI hL hl) (.inr ⟨a, b, by rw [cp_two]; exact h1, rfl⟩), h2, low_pos h1⟩
end
section
variable {s f n : Int} (hL : Let s f n)
include hL
theorem beside_dead : ∀ (i : Nat) (b : Brh), (besideP s f).brs[i]? = some b → isDead intN (testsL (besideP s f) b) (besideP s f).names.length = some ((fun _ => false) i) := dead_at2 rfl (by
  show isDead intN [[1, 0, 0 - s], [1, 0, 0], [0, 1, 0]] 2 = _
  rw [Int.zero_sub]
  exact besideDead0I hL) (by
  show isDead intN [[0, 1, 0 - f], [1, 0, 0], [0, 1, 0]] 2 = _
  rw [Int.zero_sub]
  exact besideDead1I hL)
theorem b_beside : (0 ≤ n * f + 7 * n * s - s * f ∧ ∃ a b, BoundIs (besideP s f) 0 [n, 7 * n] (some (some (a, b))) ∧ a * (s * f) = (n * f + 7 * n * s - s * f) * b ∧ 0 < b) ∨ (n * f + 7 * n * s - s * f < 0 ∧ BoundIs (besideP s f) 0 [n, 7 * n] (some none)) := by
  rcases besideLowI hL with ⟨h0, a, b, h1, h2⟩ | ⟨h0, h1⟩
  · exact .inl ⟨h0, a, b, bi2 rfl (beside_dead hL) (by rw [cp_beside]; exact besideBestI hL) (.inr ⟨a, b, by rw [cp_beside]; exact h1, rfl⟩), h2, low_pos h1⟩
  · exact .inr ⟨h0, bi2 rfl (beside_dead hL) (by rw [cp_beside]; exact besideBestI hL) (.inl ⟨by rw [cp_beside]; exact h1, rfl⟩)⟩
end
theorem b_nest : BoundIs nestP 0 [1, 1] none := ⟨fun _ => false, 9, [[1], [0]], [], dead_at2 rfl (by decide +kernel) (by decide +kernel), by decide, by decide +kernel, .inl ⟨.inl (by decide), rfl⟩⟩
theorem b_up : BoundIs upP 0 [0] none := ⟨fun _ => false, 9, [], [0], dead_at1 rfl (by decide +kernel), by decide, by decide +kernel, .inl ⟨.inl (by decide), rfl⟩⟩
theorem b_never : BoundIs neverP 0 [0] none := ⟨fun _ => true, 9, [], [], dead_at1 rfl (by decide +kernel), by decide, by decide +kernel, .inl ⟨.inl (by decide), rfl⟩⟩
/-- equal fractions are told alike -/
theorem lowI_eq {a b c d : Int} (hb : 0 < b) (hd : 0 < d) (h : a * d = c * b) : lowI a b = lowI c d := by
  have h1 := lowI_over (a := a) (b := b) hd
  have h2 := lowI_over (a := c) (b := d) hb
  rw [← h1, ← h2, h, Int.mul_comm b d]
end Fd
end

section
set_option Elab.async false
set_option linter.all false
set_option maxRecDepth 100000
set_option maxHeartbeats 4000000
/-! WW: nested tuples, comparisons, calls of bound: what _law_right is made of. -/
namespace Ew
open PySem PySem.Spec PyProof.Rows L2 Evl
/-- evaluates to an object with a property -/
def EvR (te : TE) (σ : L2.St) (H : Hp) (Pr : Addr → Hp → Prop) : Prop := EvP te σ H (fun v H' => ∃ p, v = .ref p ∧ Pr p H')
/-- several -/
def EvRs {α : Type} (ta : TA) (σ : L2.St) (H : Hp) (P : α → Addr → Hp → Prop) (l : List α) : Prop := ∀ H1, Ex H H1 → ∀ Q : List V → Hp → Prop, (∀ ps H2, Ex H1 H2 → Each P H2 ps l → Q (ps.map V.ref) H2) → ta σ H1 Q
section
variable {K : Fg} {σ : L2.St} {H H' : Hp} {ta tb te tx tv tk td ty to ti tc : TE} {t u : TT} {x y z v w : V} {r : R2} {D : Ends} {tu tw tz : TS}
theorem ers_nil {α : Type} {P : α → Addr → Hp → Prop} : EvRs tNil σ H P ([] : List α) := fun H1 _ Q q => q [] H1 (Ex.refl H1) ⟨rfl, fun i x hx => by cases hx⟩
theorem ers_cons {α : Type} {P : α → Addr → Hp → Prop} {tr : TA} {a : α} {l : List α} (m : Lasts P) (h : EvR te σ H (P a)) (hr : EvRs tr σ H P l) : EvRs (tCons te tr) σ H P (a :: l) := fun H1 e Q q =>
  h H1 e _ fun v H2 e2 ⟨p, hv, hp⟩ => by
    subst hv
    exact hr H2 (e.trans e2) _ fun ps H3 e3 hE => q (p :: ps) H3 (e2.trans e3) ⟨by rw [List.length_cons, List.length_cons, hE.len], fun i b hb => by
      cases i with
      | zero => exact ⟨p, rfl, by rw [← Option.some.inj hb]; exact m a p H2 H3 e3 hp⟩
      | succ i => exact hE.at_ i b hb⟩
theorem er_tup {α : Type} {P : α → Addr → Hp → Prop} {tr : TA} {l : List α} (m : Lasts P) (hl : l.length ≤ 1000) (h : EvRs tr σ H P l) : EvR (tTup tr) σ H (TupOf P l) := fun H1 e Q q =>
  h H1 e _ fun ps H2 e2 hE => ⟨sz_of (by rw [List.length_map, hE.len]; omega), fun p hp => q _ _ (e2.trans (Ex.new hp)) ⟨p, rfl, ps, upd_same, hE.ex m (Ex.new hp)⟩⟩
theorem er_ints {tr : TA} {l : List Int} (hl : l.length ≤ 1000) (h : EvA tr σ H (l.map V.int)) : EvR (tTup tr) σ H (FormP l) := fun H1 e Q q =>
  h H1 e _ fun H2 e2 => ⟨sz_of (by rw [List.length_map]; omega), fun p hp => q _ _ (e2.trans (Ex.new hp)) ⟨p, rfl, upd_same⟩⟩
theorem er_strs {tr : TA} {l : List Str} (hl : l.length ≤ 1000) (h : EvA tr σ H (l.map V.str)) : EvR (tTup tr) σ H (fun p H' => TupS H' p l) := fun H1 e Q q =>
  h H1 e _ fun H2 e2 => ⟨sz_of (by rw [List.length_map]; omega), fun p hp => q _ _ (e2.trans (Ex.new hp)) ⟨p, rfl, upd_same⟩⟩
theorem er_var {i : Nat} {p : Addr} {Pr : Addr → Hp → Prop} (h : σ[i]? = some (some (.ref p))) (hp : ∀ H1, Ex H H1 → Pr p H1) : EvR (tVar i) σ H Pr := fun H1 e Q q => ⟨.ref p, h, q _ H1 (Ex.refl H1) ⟨p, rfl, hp H1 e⟩⟩
theorem er_say {t1 t2 : TE} {s : Str} {f : List Int} (h1 : Ev t1 σ H (.str s)) (h2 : EvR t2 σ H (FormP f)) : EvR (tTup (tCons t1 (tCons t2 tNil))) σ H (SayP (s, f)) := fun H1 e Q q =>
  h1 H1 e _ fun H2 e2 => h2 H2 (e.trans e2) _ fun v H3 e3 ⟨p, hv, hp⟩ => by
    subst hv
    exact ⟨by show 2 ≤ sizeLine; decide, fun o ho => q _ _ ((e2.trans e3).trans (Ex.new ho)) ⟨o, rfl, p, upd_same, lasts_form _ _ _ _ (Ex.new ho) hp⟩⟩
theorem er_br {t1 t2 t3 t4 : TE} {b : Brh} (h1 : Ev t1 σ H (.str b.src)) (h2 : Ev t2 σ H (.str b.tgt)) (h3 : EvR t3 σ H (TupOf FormP b.tests)) (h4 : EvR t4 σ H (TupOf FormP b.changes)) : EvR (tTup (tCons t1 (tCons t2 (tCons t3 (tCons t4 tNil))))) σ H (BrP b) := fun H1 e Q q =>
  h1 H1 e _ fun H2 e2 => h2 H2 (e.trans e2) _ fun H3 e3 => h3 H3 ((e.trans e2).trans e3) _ fun v H4 e4 ⟨p, hv, hp⟩ => by
    subst hv
    exact h4 H4 (((e.trans e2).trans e3).trans e4) _ fun v2 H5 e5 ⟨p2, hv2, hp2⟩ => by
      subst hv2
      exact ⟨by show 4 ≤ sizeLine; decide, fun o ho => q _ _ ((((e2.trans e3).trans e4).trans e5).trans (Ex.new ho)) ⟨o, rfl, p, p2, upd_same, lasts_tup lasts_form _ _ _ _ (e5.trans (Ex.new ho)) hp, lasts_tup lasts_form _ _ _ _ (Ex.new ho) hp2⟩⟩
theorem q_asgR {i : Nat} {Pr : Addr → Hp → Prop} (h : EvR te σ H Pr) (k : ∀ p H1, Ex H H1 → Pr p H1 → tz D (σ.set i (some (.ref p))) H1) : tSeq (tAsg te (gName i)) tz D σ H := h H (Ex.refl H) _ fun v H1 e ⟨p, hv, hp⟩ => by
  subst hv
  exact k p H1 e hp
end
/-! ### data -/
mutual
theorem dp_ex {K : Fg} {H H' : Hp} (e : Ex H H') : ∀ {v : V} {d : PyData}, Dp K H v d → Dp K H' v d
  | _, _, .non => .non
  | _, _, .bl b => .bl b
  | _, _, .int i => .int i
  | _, _, .str x => .str x
  | _, _, .lst h a => .lst (ex_l e h) (dpa_ex e a)
  | _, _, .tup h a => .tup (ex_t e h) (dpa_ex e a)
theorem dpa_ex {K : Fg} {H H' : Hp} (e : Ex H H') : ∀ {vs : List V} {ds : List PyData}, DpAll K H vs ds → DpAll K H' vs ds
  | _, _, .nil => .nil
  | _, _, .cons h a => .cons (dp_ex e h) (dpa_ex e a)
end
def EvD (K : Fg) (te : TE) (σ : L2.St) (H : Hp) (d : PyData) : Prop := EvP te σ H (fun v H' => Dp K H' v d)
def EvDs (K : Fg) (ta : TA) (σ : L2.St) (H : Hp) (ds : List PyData) : Prop := ∀ H1, Ex H H1 → ∀ Q : List V → Hp → Prop, (∀ vs H2, Ex H1 H2 → DpAll K H2 vs ds → vs.length = ds.length → Q vs H2) → ta σ H1 Q
section
variable {K : Fg} {σ : L2.St} {H H' : Hp} {ta tb te tx tv tk td ty to ti tc : TE} {t u : TT} {x y z v w : V} {r : R2} {D : Ends} {tu tw tz : TS} {d e : PyData}
theorem ed_int {i : Int} (h : Ev te σ H (.int i)) : EvD K te σ H (.int i) := fun H1 e Q q => h H1 e _ fun H2 e2 => q _ H2 e2 (.int i)
theorem ed_str {s : Str} (h : Ev te σ H (.str s)) : EvD K te σ H (.str s) := fun H1 e Q q => h H1 e _ fun H2 e2 => q _ H2 e2 (.str s)
theorem ed_non (h : Ev te σ H .non) : EvD K te σ H .none := fun H1 e Q q => h H1 e _ fun H2 e2 => q _ H2 e2 .non
theorem ed_var {i : Nat} {v : V} (h : σ[i]? = some (some v)) (hd : Dp K H v d) : EvD K (tVar i) σ H d := fun H1 e Q q => ⟨v, h, q _ H1 (Ex.refl H1) (dp_ex e hd)⟩
theorem eds_nil : EvDs K tNil σ H [] := fun H1 _ Q q => q [] H1 (Ex.refl H1) .nil rfl
theorem eds_cons {tr : TA} {ds : List PyData} (h : EvD K te σ H d) (hr : EvDs K tr σ H ds) : EvDs K (tCons te tr) σ H (d :: ds) := fun H1 e Q q =>
  h H1 e _ fun v H2 e2 hv => hr H2 (e.trans e2) _ fun vs H3 e3 hvs hl => q (v :: vs) H3 (e2.trans e3) (.cons (dp_ex e3 hv) hvs) (by rw [List.length_cons, List.length_cons, hl])
theorem ed_tup {tr : TA} {ds : List PyData} (hl : ds.length ≤ 1000) (h : EvDs K tr σ H ds) : EvD K (tTup tr) σ H (.tuple ds) := fun H1 e Q q =>
  h H1 e _ fun vs H2 e2 hvs hlen => ⟨sz_of (by omega), fun p hp => q _ _ (e2.trans (Ex.new hp)) (.tup (st_of upd_same) (dpa_ex (Ex.new hp) hvs))⟩
theorem ed_lst {tr : TA} {ds : List PyData} (hl : ds.length ≤ 1000) (h : EvDs K tr σ H ds) : EvD K (tLst tr) σ H (.list ds) := fun H1 e Q q =>
  h H1 e _ fun vs H2 e2 hvs hlen => ⟨sz_of (by omega), fun p hp => q _ _ (e2.trans (Ex.new hp)) (.lst (sq_of upd_same) (dpa_ex (Ex.new hp) hvs))⟩
theorem ev_neD (h : EvD K ta σ H d) (h2 : EvD K tb σ H e) (s1 : SeqAt.shaped d = true) (s2 : SeqAt.shaped e = true) : EvT (tTest (tOp (rNeD K) ta tb)) σ H (!PyData.eqv d e) := fun H1 e1 Q q =>
  h H1 e1 _ fun v H2 e2 hv => h2 H2 (e1.trans e2) _ fun v2 H3 e3 hv2 => ⟨d, e, dp_ex e3 hv, hv2, s1, s2, ⟨_, rfl, q H3 (e2.trans e3)⟩⟩
theorem ev_eqD (h : EvD K ta σ H d) (h2 : EvD K tb σ H e) (s1 : SeqAt.shaped d = true) (s2 : SeqAt.shaped e = true) : Ev (tOp (rEqD K) ta tb) σ H (.bl (PyData.eqv d e)) := fun H1 e1 Q q =>
  h H1 e1 _ fun v H2 e2 hv => h2 H2 (e1.trans e2) _ fun v2 H3 e3 hv2 => ⟨d, e, dp_ex e3 hv, hv2, s1, s2, q H3 (e2.trans e3)⟩
end
def pairD (p : Int × Int) : PyData := .tuple [.int p.1, .int p.2]
theorem shaped_pair (p : Int × Int) : SeqAt.shaped (pairD p) = true := rfl
theorem eqv_pair (p : Int × Int) : PyData.eqv (pairD p) (pairD p) = true := by
  show ((p.1 == p.1) && ((p.2 == p.2) && true)) = true
  rw [beq_self_eq_true, beq_self_eq_true]
  rfl
end Ew
end

section
set_option Elab.async false
set_option linter.all false
set_option maxRecDepth 100000
set_option maxHeartbeats 4000000
/-! WX: Program(..) and bound(..) as expressions. -/
namespace Fd
open PySem PySem.Spec PyProof.Rows L2 Evl Ew Tx FR
section
variable {P : Program} {w : World} {K : PySem.W.Frag} {mg : Str → Option Value} {base : Heap}
theorem lasts_strs {l : List Str} {p : Addr} {H H' : Hp} (e : Ex H H') (h : TupS H p l) : TupS H' p l := e p _ h
/-- Program(names, sayings, branches) -/
theorem er_Program (T : Txt K mg) {σ : L2.St} {H : Hp} {t1 t2 t3 : TE} {g : Pg} {E : XK} (h1 : EvR t1 σ H (fun p H' => TupS H' p g.names)) (h2 : EvR t2 σ H (TupOf SayP g.says)) (h3 : EvR t3 σ H (TupOf BrP g.brs)) (hg : PgOk g) :
    EvR (tMake T.pro.C (sp_Program_init T.pro.C) [] E (tCons t1 (tCons t2 (tCons t3 tNil)))) σ H (PgAt T.pro.C g) := fun H1 e1 Q q =>
  h1 H1 e1 _ fun v H2 e2 ⟨np, hv, hN⟩ => by
    subst hv
    exact h2 H2 (e1.trans e2) _ fun v H3 e3 ⟨sp, hv, hS⟩ => by
      subst hv
      exact h3 H3 ((e1.trans e2).trans e3) _ fun v H4 e4 ⟨bp, hv, hB⟩ => by
        subst hv
        exact (ev_Program T (t := tCons (tC (.ref np)) (tCons (tC (.ref sp)) (tCons (tC (.ref bp)) tNil))) (σ := σ) (H := H4) (ea_cons ev_c (ea_cons ev_c (ea_cons ev_c ea_nil))) (lasts_strs (e3.trans e4) hN) (lasts_tup lasts_say _ _ _ _ e4 hS) hB hg (E := E)) H4 (Ex.refl H4) Q fun v H5 e5 hp => q v H5 (((e2.trans e3).trans e4).trans e5) hp
/-- what bound gives, as data -/
def resD : Option (Option (Int × Int)) → PyData
  | none => .none
  | some none => .str "endless"
  | some (some (n, d)) => pairD (lowI n d)
theorem dp_pair {H : Hp} {p : Addr} {a b : Int} (h : H p = some (.tup [.int a, .int b])) : Dp K H (.ref p) (pairD (a, b)) := .tup (st_of h) (.cons (.int a) (.cons (.int b) .nil))
theorem retB_of {res : Option (Option (Int × Int))} {H : Hp} {Q : VK} (h : ∀ v H', Ex H H' → Dp K H' v (resD res) → Q v H') : RetB res H Q :=
  ⟨fun hz H' e => h _ H' e (by rw [hz]; exact .non), fun hz H' e => h _ H' e (by rw [hz]; exact .str _), fun n d hz p H' hp e h' => h _ H' e (by rw [hz]; exact dp_pair h')⟩
/-- bound(program, place, point) -/
theorem ed_bound (T : Txt K mg) {σ : L2.St} {H : Hp} {t1 t2 t3 : TE} {a : Addr} {g : Pg} {x : Str} {pi : Nat} {point : List Int} {res : Option (Option (Int × Int))} {E : XK} (h1 : Ev t1 σ H (.ref a)) (h2 : Ev t2 σ H (.str x)) (h3 : EvR t3 σ H (FormP point)) (hg : PgAt T.pro.C g a H) (hok : PgOk g) (hx : g.places[pi]? = some x) (hl : point.length = g.names.length) (hf : ∀ y ∈ point, Fw y) (hB : BoundIs g pi point res) :
    EvD K (tCall (sp_bound T) [] E (tCons t1 (tCons t2 (tCons t3 tNil)))) σ H (resD res) := fun H1 e1 Q q =>
  h1 H1 e1 _ fun H2 e2 => h2 H2 (e1.trans e2) _ fun H3 e3 => h3 H3 ((e1.trans e2).trans e3) _ fun v H4 e4 ⟨pp, hv, hp⟩ => by
    subst hv
    exact ⟨a, g, x, pi, pp, point, res, rfl, lasts_pg _ _ _ _ (((e1.trans e2).trans e3).trans e4) hg, hok, hx, hp, hl, hf, hB, retB_of (K := K) fun v H5 e5 hd => q v H5 ((((e2.trans e3).trans e4)).trans e5) hd⟩
/-- _law_part(top, bottom) -/
theorem ed_part {σ : L2.St} {H : Hp} {t1 t2 : TE} {a b : Int} {E : XK} (h1 : Ev t1 σ H (.int a)) (h2 : Ev t2 σ H (.int b)) (hb : 0 < b) (hb2 : b ≤ 2 ^ 40) (ha : a.natAbs < 10 ^ 50) : EvD K (tCall sp_law_part [] E (tCons t1 (tCons t2 tNil))) σ H (pairD (lowI a b)) := fun H1 e1 Q q =>
  h1 H1 e1 _ fun H2 e2 => h2 H2 (e1.trans e2) _ fun H3 e3 => ⟨a, b, rfl, hb, hb2, ha, fun p H4 hp e4 h4 => q _ H4 ((e2.trans e3).trans e4) (dp_pair h4)⟩
end
end Fd
end

section
set_option Elab.async false
set_option linter.all false
set_option maxRecDepth 100000
set_option maxHeartbeats 8000000
/-! WY: _law_right. Its derivation printed by genwy.py. -/
namespace Fd
open PySem PySem.Spec PyProof.Rows L2 Evl Ew Tx FR
section
variable {P : Program} {w : World} {K : PySem.W.Frag} {mg : Str → Option Value} {base : Heap}
theorem lek {n : Nat} (h : Nat.ble n 1000 = true := by rfl) : n ≤ 1000 := Nat.le_of_ble_eq_true h
def gKw : List Value → List Value → List Value
  | [], [a, b, c] => [c, b, a]
  | _, _ => []
def gKwV : List V → List V → List V
  | [], [a, b, c] => [c, b, a]
  | _, _ => []
def kPts : List Str := ["point", "place", "program"]
theorem kb_bound {f : Addr} {fd : FuncData} (F : Fun K "bound" "bound" s_bound f fd) : KBinds K fd p_bound kPts gKw gKwV := by
  obtain ⟨oc, od, kV, doc, pm, an, cdv, ct, osl, rfl, lk, hcd⟩ := F.ex
  refine ⟨fun s us ws _ hl => ?_, fun {vs us zs ws} r1 r2 => ?_⟩
  · match us, ws, hl with
    | [], [a, b, c], _ => exact .of_eq (by rfl)
  · cases r1 with
    | cons _ _ => exact .nil
    | nil =>
      cases r2 with
      | nil => exact .nil
      | cons a1 r2 =>
        cases r2 with
        | nil => exact .nil
        | cons a2 r2 =>
          cases r2 with
          | nil => exact .nil
          | cons a3 r2 =>
            cases r2 with
            | nil => exact .cons a3 (.cons a2 (.cons a1 .nil))
            | cons a4 r2 => exact .nil
def rMin2 : List V → Hp → VK → Prop := fun xs H Q => ∃ i j, xs = [.int i, .int j] ∧ Q (.int (if j < i then j else i)) H
theorem ev_min2 {σ : L2.St} {H : Hp} {ta tb : TE} {i j : Int} (ha : Ev ta σ H (.int i)) (hb : Ev tb σ H (.int j)) : Ev (tCB rMin2 (tCons ta (tCons tb tNil))) σ H (.int (if j < i then j else i)) := fun H1 e Q q =>
  ha H1 e _ fun H2 e2 => hb H2 (e.trans e2) _ fun H3 e3 => ⟨i, j, rfl, q H3 (e2.trans e3)⟩
theorem ed_boundKw (T : Txt K mg) {σ : L2.St} {H : Hp} {t1 t2 t3 : TE} {a : Addr} {g : Pg} {x : Str} {pi : Nat} {point : List Int} {res : Option (Option (Int × Int))} {E : XK} (h3 : EvR t3 σ H (FormP point)) (h2 : Ev t2 σ H (.str x)) (h1 : Ev t1 σ H (.ref a)) (hg : PgAt T.pro.C g a H) (hok : PgOk g) (hx : g.places[pi]? = some x) (hl : point.length = g.names.length) (hf : ∀ y ∈ point, Fw y) (hB : BoundIs g pi point res) :
    EvD K (Gap.tCallKw (sp_bound T) gKwV E (tCons t3 (tCons t2 (tCons t1 tNil)))) σ H (resD res) := fun H1 e1 Q q =>
  h3 H1 e1 _ fun v H2 e2 ⟨pp, hv, hp⟩ => by
    subst hv
    exact h2 H2 (e1.trans e2) _ fun H3 e3 => h1 H3 ((e1.trans e2).trans e3) _ fun H4 e4 =>
      ⟨a, g, x, pi, pp, point, res, rfl, lasts_pg _ _ _ _ (((e1.trans e2).trans e3).trans e4) hg, hok, hx, lasts_form _ _ _ _ (e3.trans e4) hp, hl, hf, hB, retB_of (K := K) fun v H5 e5 hd => q v H5 ((((e2.trans e3).trans e4)).trans e5) hd⟩
theorem same_pair {a b c d : Int} (hb : 0 < b) (hd : 0 < d) (h : a * d = c * b) : (!PyData.eqv (resD (some (some (a, b)))) (pairD (lowI c d))) = false := by
  show (!PyData.eqv (pairD (lowI a b)) (pairD (lowI c d))) = false
  rw [lowI_eq hb hd h, eqv_pair]
  rfl
theorem shaped_res (res : Option (Option (Int × Int))) : SeqAt.shaped (resD res) = true := by
  match res with
  | none => rfl
  | some none => exact (by decide +kernel : SeqAt.shaped (.str "endless") = true)
  | some (some (a, b)) => rfl
theorem same_res (res : Option (Option (Int × Int))) : (!PyData.eqv (resD res) (resD res)) = false := by
  match res with
  | none => decide +kernel
  | some none => decide +kernel
  | some (some (a, b)) =>
    show (!PyData.eqv (pairD (lowI a b)) (pairD (lowI a b))) = false
    rw [eqv_pair]
    rfl
theorem q_asgD {σ : L2.St} {H : Hp} {te : TE} {d : PyData} {D : Ends} {tz : TS} {i : Nat} (h : EvD K te σ H d) (k : ∀ v H1, Ex H H1 → Dp K H1 v d → tz D (σ.set i (some v)) H1) : tSeq (tAsg te (gName i)) tz D σ H := h H (Ex.refl H) _ fun v H1 e hv => k v H1 e hv
theorem res_pair {a b c : Int} {q : Int × Int} (hb : 0 < b) (h : a * 1 = c * b) (hq : lowI c 1 = q) : resD (some (some (a, b))) = pairD q := by
  show pairD (lowI a b) = pairD q
  rw [lowI_eq hb (by decide) h, hq]
theorem ed_if {σ : L2.St} {H : Hp} {t : TT} {ta tb : TE} {d : PyData} {b : Bool} (h : EvT t σ H b) (h1 : b = true → EvD K ta σ H d) (h2 : b = false → EvD K tb σ H d) : EvD K (tIf t ta tb) σ H d := fun H1 e Q q => h H1 e _ fun H2 e2 => by
  cases b with
  | true => exact h1 rfl H2 (e.trans e2) Q fun v H3 e3 hv => q v H3 (e2.trans e3) hv
  | false => exact h2 rfl H2 (e.trans e2) Q fun v H3 e3 hv => q v H3 (e2.trans e3) hv
def sp_law_right : Sp := fun vs H Q _ => ∃ (wp : Addr) (s k n : Int), vs = [.ref wp] ∧ Trip H wp s k n ∧ 0 ≤ s ∧ s < 2147483648 ∧ 0 ≤ k ∧ k < 100 ∧ 0 ≤ n ∧ ∀ H2, Ex (del H wp) H2 → Q (.bl true) H2
structure Nums (sl fa l n : Int) : Prop where
  s1 : 1 ≤ sl
  s2 : sl ≤ 999
  f1 : 1 ≤ fa
  f2 : fa ≤ 999
  l1 : -1000 ≤ l
  l2 : l ≤ 1000
  n1 : 0 ≤ n
  n2 : n < 10 ^ 27
end
end Fd
namespace Fd
open PySem PySem.Spec PyProof.Rows L2 Evl Ew Tx FR
section
variable {P : Program} {w : World} {K : PySem.W.Frag} {mg : Str → Option Value} {base : Heap} {cdv : Value} {A : Around} {outer : List Env} {s : Shared} {H0 : Hp} {E : XK}
theorem right_D (T : Txt K mg) (hr : Room 11 (A.deeper (envOfC "_law_right" (defScope s_law_right) s.heap.objs.size T.law_right.a cdv))) :
    ∃ t, PSs (cxOf CX0 P w K mg base n_law_right "_law_right" (defScope s_law_right) T.law_right.a cdv A outer s H0 E).nox ((defBody s_law_right).drop 18) t ∧ ∀ (D : Ends) (x0 x1 x2 x3 x4 x5 x6 x7 x8 x9 x10 x11 x12 x14 x15 x16 x17 x18 x19 : Option V) (fq : Addr) (H : Hp), TupOf SayP floors fq H → (∀ H2, Ex H H2 → D.rt (.bl true) H2) → t D [x0, x1, x2, x3, x4, x5, x6, x7, x8, x9, x10, x11, x12, some (.ref fq), x14, x15, x16, x17, x18, x19] H := by
  have G1 := ok_law_draw (P := P) (w := w) (base := base) T
  have G2 := ok_law_great (P := P) (w := w) (base := base) T
  have G3 := ok_law_part (P := P) (w := w) (base := base) T
  have G4 := ok_bound (P := P) (w := w) (base := base) T
  have G5 := ok_Program_init (P := P) (w := w) (base := base) T
  have nd := sc_law_right.nd
  have hu0 := hr.units
  have hu : (A.deeper (envOfC "_law_right" (defScope s_law_right) s.heap.objs.size T.law_right.a cdv)).units + 64 < cLine := hu0
  refine ⟨_,
    (pss_cons (ps_set (i := 17) nd rfl (Or.inl rfl) (pe_make T.pro.k G5 (hr.mono (by decide)) (by rfl) T.pro.g T.pro.init.b .nil pass0 (pa_cons (pe_tup (pa_cons pe_str (pa_cons pe_str pa_nil))) (pa_cons (pv 13) (pa_cons (pe_tup (pa_cons (pe_tup (pa_cons pe_str (pa_cons pe_str (pa_cons (pe_tup (pa_cons (pe_tup (pa_cons pe_int (pa_cons pe_int (pa_cons (pe_un un_neg pe_int) pa_nil)))) pa_nil)) (pa_cons (pe_tup (pa_cons (pe_tup (pa_cons pe_int (pa_cons pe_int (pa_cons pe_int pa_nil)))) (pa_cons (pe_tup (pa_cons pe_int (pa_cons pe_int (pa_cons (pe_un un_neg pe_int) pa_nil)))) pa_nil))) pa_nil))))) (pa_cons (pe_tup (pa_cons pe_str (pa_cons pe_str (pa_cons (pe_tup (pa_cons (pe_tup (pa_cons pe_int (pa_cons pe_int (pa_cons (pe_un un_neg pe_int) pa_nil)))) pa_nil)) (pa_cons (pe_tup (pa_cons (pe_tup (pa_cons pe_int (pa_cons pe_int (pa_cons (pe_un un_neg pe_int) pa_nil)))) (pa_cons (pe_tup (pa_cons pe_int (pa_cons pe_int (pa_cons pe_int pa_nil)))) pa_nil))) pa_nil))))) pa_nil))) pa_nil)))))
    (pss_cons (ps_set (i := 18) nd rfl (Or.inl rfl) (pe_make T.pro.k G5 (hr.mono (by decide)) (by rfl) T.pro.g T.pro.init.b .nil pass0 (pa_cons (pe_tup (pa_cons pe_str pa_nil)) (pa_cons (pe_tup pa_nil) (pa_cons (pe_tup (pa_cons (pe_tup (pa_cons pe_str (pa_cons pe_str (pa_cons (pe_tup pa_nil) (pa_cons (pe_tup (pa_cons (pe_tup (pa_cons pe_int (pa_cons pe_int pa_nil))) pa_nil)) pa_nil))))) pa_nil)) pa_nil)))))
    (pss_cons (ps_set (i := 19) nd rfl (Or.inl rfl) (pe_make T.pro.k G5 (hr.mono (by decide)) (by rfl) T.pro.g T.pro.init.b .nil pass0 (pa_cons (pe_tup (pa_cons pe_str pa_nil)) (pa_cons (pe_tup pa_nil) (pa_cons (pe_tup (pa_cons (pe_tup (pa_cons pe_str (pa_cons pe_str (pa_cons (pe_tup (pa_cons (pe_tup (pa_cons pe_int (pa_cons (pe_un un_neg pe_int) pa_nil))) pa_nil)) (pa_cons (pe_tup (pa_cons (pe_tup (pa_cons pe_int (pa_cons pe_int pa_nil))) pa_nil)) pa_nil))))) pa_nil)) pa_nil)))))
    (pss_one (ps_ret (pe_cmpR (r := rEqD K) (op_eqD hu) (pe_lst (pa_cons (pe_call G4 hr (by rfl) T.bound.g T.bound.F.kp T.bound.b .nil pass0 (pa_cons (pv 17) (pa_cons pe_str (pa_cons (pe_tup (pa_cons pe_int (pa_cons pe_int pa_nil))) pa_nil)))) (pa_cons (pe_call G4 hr (by rfl) T.bound.g T.bound.F.kp T.bound.b .nil pass0 (pa_cons (pv 18) (pa_cons pe_str (pa_cons (pe_tup (pa_cons pe_int pa_nil)) pa_nil)))) (pa_cons (pe_call G4 hr (by rfl) T.bound.g T.bound.F.kp T.bound.b .nil pass0 (pa_cons (pv 19) (pa_cons pe_str (pa_cons (pe_tup (pa_cons pe_int pa_nil)) pa_nil)))) pa_nil)))) (pe_lst (pa_cons pe_non (pa_cons pe_non (pa_cons pe_non pa_nil)))) (by rfl))))))), fun D x0 x1 x2 x3 x4 x5 x6 x7 x8 x9 x10 x11 x12 x14 x15 x16 x17 x18 x19 fq H hFQ kk => ?_⟩
  have f1of : ∀ {y : Int}, y.natAbs < 2 ^ 200 → ∀ z ∈ [y], Fw z := fun hy => mem1 (fw_small hy)
  have f3i : ∀ {σ : L2.St} {H6 : Hp} {t1 t2 t3 : TE} {i j k : Int}, Ev t1 σ H6 (.int i) → Ev t2 σ H6 (.int j) → Ev t3 σ H6 (.int k) → EvR (tTup (tCons t1 (tCons t2 (tCons t3 tNil)))) σ H6 (FormP [i, j, k]) := fun h1 h2 h3 => er_ints lek (ea_cons h1 (ea_cons h2 (ea_cons h3 ea_nil)))
  have one3 : ∀ {σ : L2.St} {H6 : Hp} {t1 : TE} {r : List Int}, EvR t1 σ H6 (FormP r) → EvR (tTup (tCons t1 tNil)) σ H6 (TupOf FormP [r]) := fun h1 => er_tup lasts_form lek (ers_cons lasts_form h1 ers_nil)
  have two3 : ∀ {σ : L2.St} {H6 : Hp} {t1 t2 : TE} {r q : List Int}, EvR t1 σ H6 (FormP r) → EvR t2 σ H6 (FormP q) → EvR (tTup (tCons t1 (tCons t2 tNil))) σ H6 (TupOf FormP [r, q]) := fun h1 h2 => er_tup lasts_form lek (ers_cons lasts_form h1 (ers_cons lasts_form h2 ers_nil))
  -- nest, up, never
  refine q_asgR (er_Program T (g := nestP) (er_strs (l := [SX, SY]) lek (ea_cons ev_c (ea_cons ev_c ea_nil))) (er_var rfl fun H6 e6 => lasts_tup lasts_say _ _ _ _ e6 hFQ) (er_tup lasts_br lek
    (ers_cons lasts_br (er_br (b := ⟨SA, SA, [[0, 1, -1]], [[1, 0, 0], [0, 1, -1]]⟩) ev_c ev_c (one3 (f3i ev_c ev_c ev_neg1)) (two3 (f3i ev_c ev_c ev_c) (f3i ev_c ev_c ev_neg1)))
    (ers_cons lasts_br (er_br (b := ⟨SA, SA, [[1, 0, -1]], [[1, 0, -1], [1, 1, 0]]⟩) ev_c ev_c (one3 (f3i ev_c ev_c ev_neg1)) (two3 (f3i ev_c ev_c ev_neg1) (f3i ev_c ev_c ev_c))) ers_nil))) ok_nest) fun ne H22 e22 hNE => ?_
  refine q_asgR (er_Program T (g := upP) (er_strs (l := [SX]) lek (ea_cons ev_c ea_nil)) (er_tup (l := ([] : List (Str × List Int))) lasts_say lek ers_nil) (er_tup lasts_br lek (ers_cons lasts_br (er_br (b := ⟨SA, SA, [], [[1, 1]]⟩) ev_c ev_c
    (er_tup (l := ([] : List (List Int))) lasts_form lek ers_nil) (er_tup lasts_form lek (ers_cons lasts_form (er_ints lek (ea_cons ev_c (ea_cons ev_c ea_nil))) ers_nil))) ers_nil)) ok_up) fun up H23 e23 hUP => ?_
  refine q_asgR (er_Program T (g := neverP) (er_strs (l := [SX]) lek (ea_cons ev_c ea_nil)) (er_tup (l := ([] : List (Str × List Int))) lasts_say lek ers_nil) (er_tup lasts_br lek (ers_cons lasts_br (er_br (b := ⟨SA, SA, [[0, -1]], [[1, 1]]⟩) ev_c ev_c
    (er_tup lasts_form lek (ers_cons lasts_form (er_ints lek (ea_cons ev_c (ea_cons ev_neg1 ea_nil))) ers_nil)) (er_tup lasts_form lek (ers_cons lasts_form (er_ints lek (ea_cons ev_c (ea_cons ev_c ea_nil))) ers_nil))) ers_nil)) ok_never) fun nv H24 e24 hNV => ?_
  have hplN : nestP.places[0]? = some SA := by decide +kernel
  have hplU : upP.places[0]? = some SA := by decide +kernel
  have hplV : neverP.places[0]? = some SA := by decide +kernel
  have fx : ∀ {y : Int}, y.natAbs < 2 ^ 200 → ∀ z ∈ [y], Fw z := fun hy => f1of hy
  have w1 : Fw 1 := fw_small (by decide)
  refine s_ret (ev_eqD (ed_lst lek (eds_cons (ed_bound T (x := SA) (pi := 0) (point := [1, 1]) (ev_var rfl) ev_c (er_ints lek (ea_cons ev_c (ea_cons ev_c ea_nil))) (lasts_pg _ _ _ _ (e23.trans e24) hNE) ok_nest hplN rfl (mem2 w1 w1) b_nest)
    (eds_cons (ed_bound T (x := SA) (pi := 0) (point := [0]) (ev_var rfl) ev_c (er_ints lek (ea_cons ev_c ea_nil)) (lasts_pg _ _ _ _ e24 hUP) ok_up hplU rfl (fx (by decide)) b_up)
    (eds_cons (ed_bound T (x := SA) (pi := 0) (point := [0]) (ev_var rfl) ev_c (er_ints lek (ea_cons ev_c ea_nil)) hNV ok_never hplV rfl (fx (by decide)) b_never) eds_nil))))
    (ed_lst lek (eds_cons (ed_non ev_c) (eds_cons (ed_non ev_c) (eds_cons (ed_non ev_c) eds_nil)))) (by decide +kernel) (by decide +kernel)) fun H25 e25 => ?_
  exact kk H25 (((e22.trans e23).trans e24).trans e25)
end
end Fd
end

section
set_option Elab.async false
set_option linter.all false
set_option maxRecDepth 100000
set_option maxHeartbeats 8000000
/-! WY2: _law_right, a part. Printed by genwy.py. -/
namespace Fd
open PySem PySem.Spec PyProof.Rows L2 Evl Ew Tx FR
section
variable {P : Program} {w : World} {K : PySem.W.Frag} {mg : Str → Option Value} {base : Heap} {cdv : Value} {A : Around} {outer : List Env} {s : Shared} {H0 : Hp} {E : XK}
theorem right_C (T : Txt K mg) (hr : Room 11 (A.deeper (envOfC "_law_right" (defScope s_law_right) s.heap.objs.size T.law_right.a cdv))) :
    ∃ t, PSs (cxOf CX0 P w K mg base n_law_right "_law_right" (defScope s_law_right) T.law_right.a cdv A outer s H0 E).nox ((defBody s_law_right).drop 13) t ∧ ∀ (D : Ends) (x0 x1 x2 x4 x5 x8 x9 x10 x11 x12 x13 x14 x15 x16 x17 x18 x19 : Option V) (sl fa l n : Int) (H : Hp), Nums sl fa l n → (∀ H2, Ex H H2 → D.rt (.bl true) H2) → t D [x0, x1, x2, some (.int n), x4, x5, some (.int sl), some (.int fa), x8, x9, x10, x11, x12, x13, x14, x15, x16, x17, x18, x19] H := by
  have G1 := ok_law_draw (P := P) (w := w) (base := base) T
  have G2 := ok_law_great (P := P) (w := w) (base := base) T
  have G3 := ok_law_part (P := P) (w := w) (base := base) T
  have G4 := ok_bound (P := P) (w := w) (base := base) T
  have G5 := ok_Program_init (P := P) (w := w) (base := base) T
  have nd := sc_law_right.nd
  have hu0 := hr.units
  have hu : (A.deeper (envOfC "_law_right" (defScope s_law_right) s.heap.objs.size T.law_right.a cdv)).units + 64 < cLine := hu0
  obtain ⟨tz, hz, sz⟩ := right_D (P := P) (w := w) (base := base) (outer := outer) (s := s) (H0 := H0) (E := E) T hr
  refine ⟨_,
    (pss_cons (ps_set (i := 13) nd rfl (Or.inl rfl) (pe_tup (pa_cons (pe_tup (pa_cons pe_str (pa_cons (pe_tup (pa_cons pe_int (pa_cons pe_int (pa_cons pe_int pa_nil)))) pa_nil))) (pa_cons (pe_tup (pa_cons pe_str (pa_cons (pe_tup (pa_cons pe_int (pa_cons pe_int (pa_cons pe_int pa_nil)))) pa_nil))) pa_nil))))
    (pss_cons (ps_set (i := 14) nd rfl (Or.inl rfl) (pe_make T.pro.k G5 (hr.mono (by decide)) (by rfl) T.pro.g T.pro.init.b .nil pass0 (pa_cons (pe_tup (pa_cons pe_str (pa_cons pe_str pa_nil))) (pa_cons (pv 13) (pa_cons (pe_tup (pa_cons (pe_tup (pa_cons pe_str (pa_cons pe_str (pa_cons (pe_tup (pa_cons (pe_tup (pa_cons pe_int (pa_cons pe_int (pa_cons (pe_op op_sub pe_int (pv 6)) pa_nil)))) pa_nil)) (pa_cons (pe_tup (pa_cons (pe_tup (pa_cons pe_int (pa_cons pe_int (pa_cons (pe_op op_sub pe_int (pv 6)) pa_nil)))) (pa_cons (pe_tup (pa_cons pe_int (pa_cons pe_int (pa_cons pe_int pa_nil)))) pa_nil))) pa_nil))))) (pa_cons (pe_tup (pa_cons pe_str (pa_cons pe_str (pa_cons (pe_tup (pa_cons (pe_tup (pa_cons pe_int (pa_cons pe_int (pa_cons (pe_op op_sub pe_int (pv 7)) pa_nil)))) pa_nil)) (pa_cons (pe_tup (pa_cons (pe_tup (pa_cons pe_int (pa_cons pe_int (pa_cons pe_int pa_nil)))) (pa_cons (pe_tup (pa_cons pe_int (pa_cons pe_int (pa_cons (pe_op op_sub pe_int (pv 7)) pa_nil)))) pa_nil))) pa_nil))))) pa_nil))) pa_nil)))))
    (pss_cons (ps_set (i := 15) nd rfl (Or.inl rfl) (pe_op op_sub (pe_op op_add (pe_op op_mulW (pv 3) (pv 7)) (pe_op op_mulW (pe_op op_mulW pe_int (pv 3)) (pv 6))) (pe_op op_mulW (pv 6) (pv 7))))
    (pss_cons (ps_set (i := 16) nd rfl (Or.inl rfl) (pe_ifExp (pt_cmpR op_ge (pv 15) pe_int (nomark _)) (pe_call G3 (hr.mono (by decide)) (by rfl) T.law_part.g T.law_part.F.kp T.law_part.b .nil pass0 (pa_cons (pv 15) (pa_cons (pe_op op_mulW (pv 6) (pv 7)) pa_nil))) pe_str))
    (pss_cons (ps_if (pt_cmpR (r := rNeD K) (op_neD hu) (pe_call G4 hr (by rfl) T.bound.g T.bound.F.kp T.bound.b .nil pass0 (pa_cons (pv 14) (pa_cons pe_str (pa_cons (pe_tup (pa_cons (pv 3) (pa_cons (pe_op op_mulW pe_int (pv 3)) pa_nil))) pa_nil)))) (pv 16) (by rfl)) (pss_one (ps_ret pe_bl)) pss_nil)
    hz))))), fun D x0 x1 x2 x4 x5 x8 x9 x10 x11 x12 x13 x14 x15 x16 x17 x18 x19 sl fa l n H hN kk => ?_⟩
  obtain ⟨hs1, hs2, hf1, hf2, hl1, hl2, hn1, hn2⟩ := hN
  have p27 : (10 : Int) ^ 27 < 2 ^ 100 := by decide
  have p200 : (10 : Int) ^ 27 * 100000 < 2 ^ 200 := by decide
  have hLet : Let sl fa n := ⟨hs1, by omega, hf1, by omega, hn1, by omega⟩
  have mSl : Mill (0 - sl) := show (0 - sl).natAbs ≤ 1000000 by omega
  have mFa : Mill (0 - fa) := show (0 - fa).natAbs ≤ 1000000 by omega
  have f1of : ∀ {y : Int}, y.natAbs < 2 ^ 200 → ∀ z ∈ [y], Fw z := fun hy => mem1 (fw_small hy)
  have f3i : ∀ {σ : L2.St} {H6 : Hp} {t1 t2 t3 : TE} {i j k : Int}, Ev t1 σ H6 (.int i) → Ev t2 σ H6 (.int j) → Ev t3 σ H6 (.int k) → EvR (tTup (tCons t1 (tCons t2 (tCons t3 tNil)))) σ H6 (FormP [i, j, k]) := fun h1 h2 h3 => er_ints lek (ea_cons h1 (ea_cons h2 (ea_cons h3 ea_nil)))
  have one3 : ∀ {σ : L2.St} {H6 : Hp} {t1 : TE} {r : List Int}, EvR t1 σ H6 (FormP r) → EvR (tTup (tCons t1 tNil)) σ H6 (TupOf FormP [r]) := fun h1 => er_tup lasts_form lek (ers_cons lasts_form h1 ers_nil)
  have two3 : ∀ {σ : L2.St} {H6 : Hp} {t1 t2 : TE} {r q : List Int}, EvR t1 σ H6 (FormP r) → EvR t2 σ H6 (FormP q) → EvR (tTup (tCons t1 (tCons t2 tNil))) σ H6 (TupOf FormP [r, q]) := fun h1 h2 => er_tup lasts_form lek (ers_cons lasts_form h1 (ers_cons lasts_form h2 ers_nil))
  -- floors, beside
  refine q_asgR (er_tup (l := floors) lasts_say lek (ers_cons lasts_say (er_say ev_c (er_ints lek (ea_cons ev_c (ea_cons ev_c (ea_cons ev_c ea_nil))))) (ers_cons lasts_say (er_say ev_c (er_ints lek (ea_cons ev_c (ea_cons ev_c (ea_cons ev_c ea_nil))))) ers_nil))) fun fq H17 e17 hFQ => ?_
  refine q_asgR (er_Program T (g := besideP sl fa) (er_strs (l := [SX, SY]) lek (ea_cons ev_c (ea_cons ev_c ea_nil))) (er_var rfl fun H6 e6 => lasts_tup lasts_say _ _ _ _ e6 hFQ) (er_tup lasts_br lek
    (ers_cons lasts_br (er_br (b := ⟨SA, SA, [[1, 0, 0 - sl]], [[1, 0, 0 - sl], [0, 1, 0]]⟩) ev_c ev_c (one3 (f3i ev_c ev_c (ev_sub ev_c (ev_var rfl)))) (two3 (f3i ev_c ev_c (ev_sub ev_c (ev_var rfl))) (f3i ev_c ev_c ev_c)))
    (ers_cons lasts_br (er_br (b := ⟨SA, SA, [[0, 1, 0 - fa]], [[1, 0, 0], [0, 1, 0 - fa]]⟩) ev_c ev_c (one3 (f3i ev_c ev_c (ev_sub ev_c (ev_var rfl)))) (two3 (f3i ev_c ev_c ev_c) (f3i ev_c ev_c (ev_sub ev_c (ev_var rfl))))) ers_nil))) (ok_beside mSl mFa)) fun be H18 e18 hBE => ?_
  have hFS : ∀ {y : Int}, y.natAbs < 2 ^ 200 → Fw y := fun hy => fw_small hy
  have wn : Fw n := hFS (by omega)
  have wsl : Fw sl := hFS (by omega)
  have wfa : Fw fa := hFS (by omega)
  have w7 : Fw 7 := hFS (by decide)
  have w7n : Fw (7 * n) := hFS (by omega)
  have e_1 : n * fa ≤ 10 ^ 27 * 1000 := Int.mul_le_mul (by omega) (by omega) (by omega) (by decide)
  have e_2 : 7 * n * sl ≤ 7 * 10 ^ 27 * 1000 := Int.mul_le_mul (by omega) (by omega) (by omega) (by decide)
  have e_3 : sl * fa ≤ 1000 * 1000 := Int.mul_le_mul (by omega) (by omega) (by omega) (by decide)
  have e_4 : 0 ≤ n * fa := Int.mul_nonneg (by omega) (by omega)
  have e_5 : 0 ≤ 7 * n * sl := Int.mul_nonneg (by omega) (by omega)
  have e_6 : 0 < sl * fa := Int.mul_pos (by omega) (by omega)
  refine q_asg (ev_sub (ev_add (ev_mulW (ev_var rfl) (ev_var rfl) (mul_fw wn wfa)) (ev_mulW (ev_mulW ev_c (ev_var rfl) (mul_fw w7 wn)) (ev_var rfl) (mul_fw w7n wsl))) (ev_mulW (ev_var rfl) (ev_var rfl) (mul_fw wsl wfa))) fun H19 e19 => ?_
  have hplE : (besideP sl fa).places[0]? = some SA := by rw [pl_beside]; rfl
  have hpt2 : ∀ z ∈ [n, 7 * n], Fw z := mem2 wn w7n
  have hdue : ∃ res, BoundIs (besideP sl fa) 0 [n, 7 * n] res ∧ ((0 ≤ n * fa + 7 * n * sl - sl * fa ∧ resD res = pairD (lowI (n * fa + 7 * n * sl - sl * fa) (sl * fa))) ∨ (n * fa + 7 * n * sl - sl * fa < 0 ∧ resD res = .str "endless")) := by
    rcases b_beside hLet with ⟨h1, ua, ub, h2, h3, h4⟩ | ⟨h1, h2⟩
    · refine ⟨_, h2, .inl ⟨h1, ?_⟩⟩
      show pairD (lowI ua ub) = _
      rw [lowI_eq h4 e_6 h3]
    · exact ⟨_, h2, .inr ⟨h1, rfl⟩⟩
  obtain ⟨res, hB4, hdr⟩ := hdue
  have e_7 : (n * fa + 7 * n * sl - sl * fa).natAbs < 10 ^ 50 := by omega
  generalize n * fa + 7 * n * sl - sl * fa = top at hdr e_7 ⊢
  refine q_asgD (K := K) (d := resD res) (ed_if (K := K) (ev_ge (ev_var rfl) ev_c) (fun hb => ?_) (fun hb => ?_)) fun due H20 e20 hDue => ?_
  · rcases hdr with ⟨h1, h2⟩ | ⟨h1, h2⟩
    · rw [h2]
      exact ed_part (ev_var rfl) (ev_mulW (ev_var rfl) (ev_var rfl) (mul_fw wsl wfa)) e_6 (by omega) e_7
    · exact absurd (of_decide_eq_true hb) (by omega)
  · rcases hdr with ⟨h1, h2⟩ | ⟨h1, h2⟩
    · exact absurd h1 (of_decide_eq_false hb)
    · rw [h2]
      exact ed_str ev_c
  refine q_skip (ev_neD (ed_bound T (x := SA) (pi := 0) (ev_var rfl) ev_c (er_ints (l := [n, 7 * n]) lek (ea_cons (ev_var rfl) (ea_cons (ev_mulW ev_c (ev_var rfl) (mul_fw w7 wn)) ea_nil))) (lasts_pg _ _ _ _ (e19.trans e20) hBE) (ok_beside mSl mFa) hplE rfl hpt2 hB4) (ed_var rfl hDue) (shaped_res _) (shaped_res _)) (same_res res) fun H21 e21 => ?_
  exact sz D _ _ _ _ _ _ _ _ _ _ _ _ _ _ _ _ _ _ _ fq H21 (lasts_tup lasts_say _ _ _ _ (((e18.trans e19).trans e20).trans e21) hFQ) fun H22 e22 => kk H22 (((((e17.trans e18).trans e19).trans e20).trans e21).trans e22)
end
end Fd
end

section
set_option Elab.async false
set_option linter.all false
set_option maxRecDepth 100000
set_option maxHeartbeats 8000000
/-! WY3: _law_right, a part. Printed by genwy.py. -/
namespace Fd
open PySem PySem.Spec PyProof.Rows L2 Evl Ew Tx FR
section
variable {P : Program} {w : World} {K : PySem.W.Frag} {mg : Str → Option Value} {base : Heap} {cdv : Value} {A : Around} {outer : List Env} {s : Shared} {H0 : Hp} {E : XK}
theorem right_B (T : Txt K mg) (hr : Room 11 (A.deeper (envOfC "_law_right" (defScope s_law_right) s.heap.objs.size T.law_right.a cdv))) :
    ∃ t, PSs (cxOf CX0 P w K mg base n_law_right "_law_right" (defScope s_law_right) T.law_right.a cdv A outer s H0 E).nox ((defBody s_law_right).drop 6) t ∧ ∀ (D : Ends) (x0 x1 x4 x8 x9 x10 x11 x12 x13 x14 x15 x16 x17 x18 x19 : Option V) (sl fa l n : Int) (pp : Addr) (H : Hp), Nums sl fa l n → FormP [l + n] pp H → (∀ H2, Ex H H2 → D.rt (.bl true) H2) → t D [x0, x1, some (.int l), some (.int n), x4, some (.ref pp), some (.int sl), some (.int fa), x8, x9, x10, x11, x12, x13, x14, x15, x16, x17, x18, x19] H := by
  have G1 := ok_law_draw (P := P) (w := w) (base := base) T
  have G2 := ok_law_great (P := P) (w := w) (base := base) T
  have G3 := ok_law_part (P := P) (w := w) (base := base) T
  have G4 := ok_bound (P := P) (w := w) (base := base) T
  have G5 := ok_Program_init (P := P) (w := w) (base := base) T
  have nd := sc_law_right.nd
  have hu0 := hr.units
  have hu : (A.deeper (envOfC "_law_right" (defScope s_law_right) s.heap.objs.size T.law_right.a cdv)).units + 64 < cLine := hu0
  obtain ⟨tz, hz, sz⟩ := right_C (P := P) (w := w) (base := base) (outer := outer) (s := s) (H0 := H0) (E := E) T hr
  refine ⟨_,
    (pss_cons (ps_set (i := 8) nd rfl (Or.inl rfl) (pe_tup (pa_cons (pe_tup (pa_cons pe_int (pa_cons (pe_op op_sub pe_int (pv 2)) pa_nil))) pa_nil)))
    (pss_cons (ps_set (i := 9) nd rfl (Or.inl rfl) (pe_make T.pro.k G5 (hr.mono (by decide)) (by rfl) T.pro.g T.pro.init.b .nil pass0 (pa_cons (pe_tup (pa_cons pe_str pa_nil)) (pa_cons (pe_tup pa_nil) (pa_cons (pe_tup (pa_cons (pe_tup (pa_cons pe_str (pa_cons pe_str (pa_cons (pv 8) (pa_cons (pe_tup (pa_cons (pe_tup (pa_cons pe_int (pa_cons (pe_op op_sub pe_int (pv 6)) pa_nil))) pa_nil)) pa_nil))))) (pa_cons (pe_tup (pa_cons pe_str (pa_cons pe_str (pa_cons (pv 8) (pa_cons (pe_tup (pa_cons (pe_tup (pa_cons pe_int (pa_cons (pe_op op_sub pe_int (pv 7)) pa_nil))) pa_nil)) pa_nil))))) pa_nil))) pa_nil)))))
    (pss_cons (ps_if (pt_cmpR (r := rNeD K) (op_neD hu) (pe_call G4 hr (by rfl) T.bound.g T.bound.F.kp T.bound.b .nil pass0 (pa_cons (pv 9) (pa_cons pe_str (pa_cons (pv 5) pa_nil)))) (pe_call G3 (hr.mono (by decide)) (by rfl) T.law_part.g T.law_part.F.kp T.law_part.b .nil pass0 (pa_cons (pv 3) (pa_cons (pe_callB (r := rMin2) (call_min2 rfl) (by rfl) T.z.min (by decide +kernel) (pa_cons (pv 6) (pa_cons (pv 7) pa_nil))) pa_nil))) (by rfl)) (pss_one (ps_ret pe_bl)) pss_nil)
    (pss_cons (ps_set (i := 10) nd rfl (Or.inl rfl) (pe_tup (pa_cons pe_str (pa_cons pe_str (pa_cons (pe_tup (pa_cons (pe_tup (pa_cons pe_int (pa_cons (pe_op op_sub pe_int (pv 2)) pa_nil))) pa_nil)) (pa_cons (pe_tup (pa_cons (pe_tup (pa_cons pe_int (pa_cons pe_int pa_nil))) pa_nil)) pa_nil))))))
    (pss_cons (ps_set (i := 11) nd rfl (Or.inl rfl) (pe_make T.pro.k G5 (hr.mono (by decide)) (by rfl) T.pro.g T.pro.init.b .nil pass0 (pa_cons (pe_tup (pa_cons pe_str pa_nil)) (pa_cons (pe_tup pa_nil) (pa_cons (pe_tup (pa_cons (pe_tup (pa_cons pe_str (pa_cons pe_str (pa_cons (pv 8) (pa_cons (pe_tup (pa_cons (pe_tup (pa_cons pe_int (pa_cons (pe_un un_neg pe_int) pa_nil))) pa_nil)) pa_nil))))) (pa_cons (pv 10) pa_nil))) pa_nil)))))
    (pss_cons (ps_set (i := 12) nd rfl (Or.inl rfl) (pe_lst (pa_cons (pe_call G4 hr (by rfl) T.bound.g T.bound.F.kp T.bound.b .nil pass0 (pa_cons (pv 11) (pa_cons pe_str (pa_cons (pe_tup (pa_cons (pe_op op_add (pv 2) pe_int) pa_nil)) pa_nil)))) (pa_cons (pe_call G4 hr (by rfl) T.bound.g T.bound.F.kp T.bound.b .nil pass0 (pa_cons (pv 11) (pa_cons pe_str (pa_cons (pe_tup (pa_cons (pe_op op_add (pv 2) pe_int) pa_nil)) pa_nil)))) (pa_cons (pe_call G4 hr (by rfl) T.bound.g T.bound.F.kp T.bound.b .nil pass0 (pa_cons (pv 11) (pa_cons pe_str (pa_cons (pe_tup (pa_cons (pv 2) pa_nil)) pa_nil)))) (pa_cons (pe_call G4 hr (by rfl) T.bound.g T.bound.F.kp T.bound.b .nil pass0 (pa_cons (pv 11) (pa_cons pe_str (pa_cons (pe_tup (pa_cons (pe_op op_sub (pv 2) pe_int) pa_nil)) pa_nil)))) pa_nil))))))
    (pss_cons (ps_if (pt_cmpR (r := rNeD K) (op_neD hu) (pv 12) (pe_lst (pa_cons (pe_tup (pa_cons pe_int (pa_cons pe_int pa_nil))) (pa_cons (pe_tup (pa_cons pe_int (pa_cons pe_int pa_nil))) (pa_cons (pe_tup (pa_cons pe_int (pa_cons pe_int pa_nil))) (pa_cons (pe_tup (pa_cons pe_int (pa_cons pe_int pa_nil))) pa_nil))))) (by rfl)) (pss_one (ps_ret pe_bl)) pss_nil)
    hz))))))), fun D x0 x1 x4 x8 x9 x10 x11 x12 x13 x14 x15 x16 x17 x18 x19 sl fa l n pp H hN hP kk => ?_⟩
  obtain ⟨hs1, hs2, hf1, hf2, hl1, hl2, hn1, hn2⟩ := hN
  have p27 : (10 : Int) ^ 27 < 2 ^ 100 := by decide
  have p200 : (10 : Int) ^ 27 * 100000 < 2 ^ 200 := by decide
  have hLet : Let sl fa n := ⟨hs1, by omega, hf1, by omega, hn1, by omega⟩
  have mSl : Mill (0 - sl) := show (0 - sl).natAbs ≤ 1000000 by omega
  have mFa : Mill (0 - fa) := show (0 - fa).natAbs ≤ 1000000 by omega
  have hSm : Small l := ⟨by omega, by omega⟩
  have mL : Mill (0 - l) := show (0 - l).natAbs ≤ 1000000 by omega
  have mL1 : Mill (1 - l) := show (1 - l).natAbs ≤ 1000000 by omega
  have f1of : ∀ {y : Int}, y.natAbs < 2 ^ 200 → ∀ z ∈ [y], Fw z := fun hy => mem1 (fw_small hy)
  -- tests, both
  refine q_asgR (er_tup (l := [[1, 0 - l]]) lasts_form lek (ers_cons lasts_form (er_ints lek (ea_cons ev_c (ea_cons (ev_sub ev_c (ev_var rfl)) ea_nil))) ers_nil)) fun tq H10 e10 hTQ => ?_
  refine q_asgR (er_Program T (g := bothP sl fa l) (er_strs (l := [SX]) lek (ea_cons ev_c ea_nil)) (er_tup (l := ([] : List (Str × List Int))) lasts_say lek ers_nil) (er_tup lasts_br lek
    (ers_cons lasts_br (er_br (b := ⟨SA, SA, [[1, 0 - l]], [[1, 0 - sl]]⟩) ev_c ev_c (er_var rfl fun H6 e6 => lasts_tup lasts_form _ _ _ _ e6 hTQ) (er_tup lasts_form lek (ers_cons lasts_form (er_ints lek (ea_cons ev_c (ea_cons (ev_sub ev_c (ev_var rfl)) ea_nil))) ers_nil)))
    (ers_cons lasts_br (er_br (b := ⟨SA, SA, [[1, 0 - l]], [[1, 0 - fa]]⟩) ev_c ev_c (er_var rfl fun H6 e6 => lasts_tup lasts_form _ _ _ _ e6 hTQ) (er_tup lasts_form lek (ers_cons lasts_form (er_ints lek (ea_cons ev_c (ea_cons (ev_sub ev_c (ev_var rfl)) ea_nil))) ers_nil))) ers_nil))) (ok_both mSl mFa mL)) fun bo H11 e11 hBO => ?_
  obtain ⟨qa, qb, hB2, he2, hp2⟩ := b_both hLet hSm
  have hmin : (if fa < sl then fa else sl) = min sl fa := by
    split <;> omega
  have hmin2 : 0 < min sl fa ∧ min sl fa ≤ 999 := by omega
  have hpl2 : (bothP sl fa l).places[0]? = some SA := by rw [pl_both]; rfl
  refine q_skip (ev_neD (ed_bound T (x := SA) (pi := 0) (ev_var rfl) ev_c (er_var rfl fun H6 e6 => lasts_form _ _ _ _ ((e10.trans e11).trans e6) hP) hBO (ok_both mSl mFa mL) hpl2 rfl (f1of (by omega)) hB2) (ed_part (b := min sl fa) (ev_var rfl) (ev_is (ev_min2 (ev_var rfl) (ev_var rfl)) (congrArg V.int hmin)) (by omega) (by omega) (by omega)) (shaped_res _) (shaped_pair _)) (same_pair hp2 (by omega) he2) fun H12 e12 => ?_
  refine q_asgR (er_br (b := ⟨SB, SA, [[1, 1 - l]], [[1, 0]]⟩) ev_c ev_c (er_tup lasts_form lek (ers_cons lasts_form (er_ints lek (ea_cons ev_c (ea_cons (ev_sub ev_c (ev_var rfl)) ea_nil))) ers_nil)) (er_tup lasts_form lek (ers_cons lasts_form (er_ints lek (ea_cons ev_c (ea_cons ev_c ea_nil))) ers_nil))) fun bk H13 e13 hBK => ?_
  have hTQ13 := lasts_tup lasts_form _ _ _ _ ((e11.trans e12).trans e13) hTQ
  refine q_asgR (er_Program T (g := twoP l) (er_strs (l := [SX]) lek (ea_cons ev_c ea_nil)) (er_tup (l := ([] : List (Str × List Int))) lasts_say lek ers_nil) (er_tup lasts_br lek
    (ers_cons lasts_br (er_br (b := ⟨SA, SB, [[1, 0 - l]], [[1, -1]]⟩) ev_c ev_c (er_var rfl fun H6 e6 => lasts_tup lasts_form _ _ _ _ e6 hTQ13) (er_tup lasts_form lek (ers_cons lasts_form (er_ints lek (ea_cons ev_c (ea_cons ev_neg1 ea_nil))) ers_nil)))
    (ers_cons lasts_br (er_var rfl fun H6 e6 => lasts_br _ _ _ _ e6 hBK) ers_nil))) (ok_two mL mL1)) fun tw H14 e14 hTW => ?_
  obtain ⟨u0, v0, hC0, hq0, hr0⟩ := b_two0 hLet hSm
  obtain ⟨u1, v1, hC1, hq1, hr1⟩ := b_two1 hLet hSm
  obtain ⟨u2, v2, hC2, hq2, hr2⟩ := b_two2 hLet hSm
  obtain ⟨u3, v3, hC3, hq3, hr3⟩ := b_two3 hLet hSm
  have hplA : (twoP l).places[0]? = some SA := by rw [pl_two]; rfl
  have hplB : (twoP l).places[1]? = some SB := by rw [pl_two]; rfl
  have okT := ok_two mL mL1
  have told := ed_lst (K := K) lek (eds_cons (ed_bound T (E := E0) (t1 := tVar 11) (t2 := tC (.str SA)) (t3 := tTup (tCons (tOp (rI0 fun i j => .int (i + j)) (tVar 2) (tC (.int 5))) tNil)) (σ := [x0, x1, some (.int l), some (.int n), x4, some (.ref pp), some (.int sl), some (.int fa), some (.ref tq), some (.ref bo), some (.ref bk), some (.ref tw), x12, x13, x14, x15, x16, x17, x18, x19]) (x := SA) (pi := 0) (ev_var rfl) ev_c (er_ints lek (ea_cons (ev_add (ev_var rfl) ev_c) ea_nil)) hTW okT hplA rfl (f1of (by omega)) hC0)
    (eds_cons (ed_bound T (E := E0) (t1 := tVar 11) (t2 := tC (.str SB)) (t3 := tTup (tCons (tOp (rI0 fun i j => .int (i + j)) (tVar 2) (tC (.int 5))) tNil)) (x := SB) (pi := 1) (ev_var rfl) ev_c (er_ints lek (ea_cons (ev_add (ev_var rfl) ev_c) ea_nil)) hTW okT hplB rfl (f1of (by omega)) hC1)
    (eds_cons (ed_bound T (E := E0) (t1 := tVar 11) (t2 := tC (.str SA)) (t3 := tTup (tCons (tVar 2) tNil)) (x := SA) (pi := 0) (ev_var rfl) ev_c (er_ints lek (ea_cons (ev_var rfl) ea_nil)) hTW okT hplA rfl (f1of (by omega)) hC2)
    (eds_cons (ed_bound T (E := E0) (t1 := tVar 11) (t2 := tC (.str SB)) (t3 := tTup (tCons (tOp (rI0 fun i j => .int (i - j)) (tVar 2) (tC (.int 1))) tNil)) (x := SB) (pi := 1) (ev_var rfl) ev_c (er_ints lek (ea_cons (ev_sub (ev_var rfl) ev_c) ea_nil)) hTW okT hplB rfl (f1of (by omega)) hC3) eds_nil))))
  rw [res_pair (q := (11, 1)) hr0 hq0 (by decide +kernel), res_pair (q := (12, 1)) hr1 hq1 (by decide +kernel), res_pair (q := (1, 1)) hr2 hq2 (by decide +kernel), res_pair (q := (0, 1)) hr3 hq3 (by decide +kernel)] at told
  refine q_asgD told fun td H15 e15 hTD => ?_
  have p2 : ∀ (t1 t2 : TE) (σ : L2.St) (H6 : Hp) (i j : Int), Ev t1 σ H6 (.int i) → Ev t2 σ H6 (.int j) → EvD K (tTup (tCons t1 (tCons t2 tNil))) σ H6 (pairD (i, j)) := fun t1 t2 σ H6 i j h1 h2 => ed_tup lek (eds_cons (ed_int h1) (eds_cons (ed_int h2) eds_nil))
  refine q_skip (ev_neD (ed_var rfl hTD) (ed_lst lek (eds_cons (p2 _ _ _ _ 11 1 ev_c ev_c) (eds_cons (p2 _ _ _ _ 12 1 ev_c ev_c) (eds_cons (p2 _ _ _ _ 1 1 ev_c ev_c) (eds_cons (p2 _ _ _ _ 0 1 ev_c ev_c) eds_nil))))) (by decide +kernel) (by decide +kernel)) (by decide +kernel) fun H16 e16 => ?_
  exact sz D _ _ _ _ _ _ _ _ _ _ _ _ _ _ _ _ _ sl fa l n H16 ⟨hs1, hs2, hf1, hf2, hl1, hl2, hn1, hn2⟩ fun H17 e17 => kk H17 (((((((e10.trans e11).trans e12).trans e13).trans e14).trans e15).trans e16).trans e17)
end
end Fd
end

section
set_option Elab.async false
set_option linter.all false
set_option maxRecDepth 100000
set_option maxHeartbeats 8000000
/-! WY: _law_right, a part. Printed by genwy.py. -/
namespace Fd
open PySem PySem.Spec PyProof.Rows L2 Evl Ew Tx FR
section
variable {P : Program} {w : World} {K : PySem.W.Frag} {mg : Str → Option Value} {base : Heap} {cdv : Value} {A : Around} {outer : List Env} {s : Shared} {H0 : Hp} {E : XK}
theorem ok_law_right (T : Txt K mg) : FnOk P w K mg base CX0 12 T.law_right.a T.law_right.d p_law_right sp_law_right := by
  have G1 := ok_law_draw (P := P) (w := w) (base := base) T
  have G2 := ok_law_great (P := P) (w := w) (base := base) T
  have G3 := ok_law_part (P := P) (w := w) (base := base) T
  have G4 := ok_bound (P := P) (w := w) (base := base) T
  have G5 := ok_Program_init (P := P) (w := w) (base := base) T
  refine T.law_right.F.ok sc_law_right (fun vs H Q E h => ?_) (fun cdv A outer s H vs Q E hr h => ?_)
  · obtain ⟨wp, s, k, n, rfl, _⟩ := h
    rfl
  obtain ⟨wp, s0, k0, n0, rfl, hw, hs0, hs1, hk0, hk1, hn0, kk⟩ := h
  obtain ⟨tz, hz, sz⟩ := right_B (P := P) (w := w) (base := base) (outer := outer) (s := s) (H0 := H) (E := E) T hr
  have nd := sc_law_right.nd
  have hu0 := hr.units
  have hu : (A.deeper (envOfC "_law_right" (defScope s_law_right) s.heap.objs.size T.law_right.a cdv)).units + 64 < cLine := hu0
  refine ⟨_,
    (pss_cons (ps_par3 (i := 1) (j := 2) (l := 3) rfl nd rfl rfl rfl (by decide) (by decide) (by decide) rfl rfl rfl (pa_cons (pe_op op_add pe_int (pe_call G1 (hr.mono (by decide)) (by rfl) T.law_draw.g T.law_draw.F.kp T.law_draw.b .nil pass0 (pa_cons (pv 0) (pa_cons (pe_op op_pow pe_int pe_int) pa_nil)))) (pa_cons (pe_op op_sub (pe_call G1 (hr.mono (by decide)) (by rfl) T.law_draw.g T.law_draw.F.kp T.law_draw.b .nil pass0 (pa_cons (pv 0) (pa_cons pe_int pa_nil))) pe_int) (pa_cons (pe_call G2 (hr.mono (by decide)) (by rfl) T.law_great.g T.law_great.F.kp T.law_great.b .nil pass0 (pa_cons (pv 0) pa_nil)) pa_nil))) (by rfl))
    (pss_cons (ps_set (i := 4) nd rfl (Or.inl rfl) (pe_make T.pro.k G5 (hr.mono (by decide)) (by rfl) T.pro.g T.pro.init.b .nil pass0 (pa_cons (pe_tup (pa_cons pe_str pa_nil)) (pa_cons (pe_tup pa_nil) (pa_cons (pe_tup (pa_cons (pe_tup (pa_cons pe_str (pa_cons pe_str (pa_cons (pe_tup (pa_cons (pe_tup (pa_cons pe_int (pa_cons (pe_op op_sub pe_int (pv 2)) pa_nil))) pa_nil)) (pa_cons (pe_tup (pa_cons (pe_tup (pa_cons pe_int (pa_cons (pe_op op_sub pe_int (pv 1)) pa_nil))) pa_nil)) pa_nil))))) pa_nil)) pa_nil)))))
    (pss_cons (ps_set (i := 5) nd rfl (Or.inl rfl) (pe_tup (pa_cons (pe_op op_add (pv 2) (pv 3)) pa_nil)))
    (pss_cons (ps_if (pt_cmpR (r := rNeD K) (op_neD hu) (pe_call G4 hr (by rfl) T.bound.g T.bound.F.kp T.bound.b .nil pass0 (pa_cons (pv 4) (pa_cons pe_str (pa_cons (pv 5) pa_nil)))) (pe_call G3 (hr.mono (by decide)) (by rfl) T.law_part.g T.law_part.F.kp T.law_part.b .nil pass0 (pa_cons (pv 3) (pa_cons (pv 1) pa_nil))) (by rfl)) (pss_one (ps_ret pe_bl)) pss_nil)
    (pss_cons (ps_if (pt_cmpR (r := rNeD K) (op_neD hu) (Gap.pe_callKw G4 hr (by rfl) T.bound.g T.bound.F.kp (kb_bound T.bound.F) pass0 (pk_cons (pe_tup (pa_cons (pe_op op_sub (pe_op op_sub (pv 2) pe_int) (pv 3)) pa_nil)) (pk_cons pe_str (pk_cons (pv 4) pk_nil)))) pe_str (by rfl)) (pss_one (ps_ret pe_bl)) pss_nil)
    (pss_cons (ps_par (i := 6) (j := 7) rfl nd rfl rfl (by decide) rfl rfl (pa_cons (pe_op op_add pe_int (pe_call G1 (hr.mono (by decide)) (by rfl) T.law_draw.g T.law_draw.F.kp T.law_draw.b .nil pass0 (pa_cons (pv 0) (pa_cons pe_int pa_nil)))) (pa_cons (pe_op op_add pe_int (pe_call G1 (hr.mono (by decide)) (by rfl) T.law_draw.g T.law_draw.F.kp T.law_draw.b .nil pass0 (pa_cons (pv 0) (pa_cons pe_int pa_nil)))) pa_nil)) (by rfl))
    hz)))))), ?_⟩
  refine ⟨.ref wp, rfl, 10, 6, rfl, rfl, ⟨by decide, by decide, by decide⟩, ⟨wp, s0, k0, n0, 1000000, rfl, hw, hs0, hs1, hk0, by omega, hn0, by decide, by decide, fun d1 s1 k1 n1 H1 hd1 b1 b2 b3 b4 b5 e1 h1 => ⟨1, (d1 : Int), rfl, rfl,
    .ref wp, rfl, ⟨wp, s1, k1, n1, 2001, rfl, h1, b1, b2, b3, by omega, b5, by decide, by decide, fun d2 s2 k2 n2 H2 hd2 c1 c2 c3 c4 c5 e2 h2 => ⟨(d2 : Int), 1000, rfl, rfl,
    .ref wp, rfl, ⟨wp, s2, k2, n2, rfl, h2, c1, c2, c3, by omega, c5, fun d3 s3 k3 n3 H3 hd3 a1 a2 a3 a4 a5 e3 h3 => ⟨_, _, _, rfl, ?_⟩⟩⟩⟩⟩⟩⟩
  dsimp only
  have f3 : Ex (del H wp) H3 := fun a o ha => by
    obtain ⟨na, ha2⟩ := del_some ha
    refine e3 a o ?_
    rw [del_ne na]
    refine e2 a o ?_
    rw [del_ne na]
    exact e1 a o ha
  have hst : (1 : Int) + (d1 : Int) ≤ 1000000 ∧ 1 ≤ (1 : Int) + (d1 : Int) := ⟨by omega, by omega⟩
  have hl : -1000 ≤ (d2 : Int) - 1000 ∧ (d2 : Int) - 1000 ≤ 1000 := ⟨by omega, by omega⟩
  have hn : (0 : Int) ≤ (d3 : Int) ∧ (d3 : Int) < 10 ^ 27 := ⟨by omega, by exact_mod_cast hd3⟩
  generalize (1 : Int) + (d1 : Int) = st at hst ⊢
  generalize (d2 : Int) - 1000 = l at hl ⊢
  generalize (d3 : Int) = n at hn ⊢
  have p27 : (10 : Int) ^ 27 < 2 ^ 100 := by decide
  have hLet1 : Let st 1 n := ⟨hst.2, by omega, by decide, by decide, hn.1, by omega⟩
  have hSm : Small l := ⟨by omega, by omega⟩
  have mSt : Mill (0 - st) := show (0 - st).natAbs ≤ 1000000 by omega
  have mL : Mill (0 - l) := show (0 - l).natAbs ≤ 1000000 by omega
  have mL1 : Mill (1 - l) := show (1 - l).natAbs ≤ 1000000 by omega
  have hFw : ∀ y : Int, y.natAbs < 2 ^ 200 → Fw y := fun y hy => fw_small hy
  have f1of : ∀ {y : Int}, y.natAbs < 2 ^ 200 → ∀ z ∈ [y], Fw z := fun hy => mem1 (fw_small hy)
  have p200 : (10 : Int) ^ 27 * 100000 < 2 ^ 200 := by decide
  -- one way
  refine q_asgR (er_Program T (g := oneP st l) (er_strs (l := [SX]) lek (ea_cons ev_c ea_nil)) (er_tup (l := ([] : List (Str × List Int))) lasts_say lek ers_nil) (er_tup lasts_br lek (ers_cons lasts_br (er_br (b := ⟨SA, SA, [[1, 0 - l]], [[1, 0 - st]]⟩) ev_c ev_c
    (er_tup lasts_form lek (ers_cons lasts_form (er_ints lek (ea_cons ev_c (ea_cons (ev_sub ev_c (ev_var rfl)) ea_nil))) ers_nil)) (er_tup lasts_form lek (ers_cons lasts_form (er_ints lek (ea_cons ev_c (ea_cons (ev_sub ev_c (ev_var rfl)) ea_nil))) ers_nil))) ers_nil)) (ok_one mSt mL)) fun ow H4 e4 hOW => ?_
  refine q_asgR (er_ints (l := [l + n]) lek (ea_cons (ev_add (ev_var rfl) (ev_var rfl)) ea_nil)) fun pp H5 e5 hPP => ?_
  obtain ⟨ra, rb, hB1, he1, hp1⟩ := b_one hLet1 hSm
  have hpl1 : (oneP st l).places[0]? = some SA := by rw [pl_one]; rfl
  refine q_skip (ev_neD (ed_bound T (x := SA) (pi := 0) (ev_var rfl) ev_c (er_var rfl fun H6 e6 => e6 pp _ hPP) (lasts_pg _ _ _ _ e5 hOW) (ok_one mSt mL) hpl1 rfl (f1of (by omega)) hB1) (ed_part (ev_var rfl) (ev_var rfl) (by omega) (by omega) (by omega)) (shaped_res _) (shaped_pair _)) (same_pair hp1 (by omega) he1) fun H6 e6 => ?_
  refine q_skip (ev_neD (ed_boundKw T (x := SA) (pi := 0) (point := [l - 1 - n]) (er_ints lek (ea_cons (ev_sub (ev_sub (ev_var rfl) ev_c) (ev_var rfl)) ea_nil)) ev_c (ev_var rfl) (lasts_pg _ _ _ _ (e5.trans e6) hOW) (ok_one mSt mL) hpl1 rfl (f1of (by omega)) (b_end hLet1 hSm)) (ed_str ev_c) (shaped_res _) (by decide +kernel)) (by decide +kernel) fun H7 e7 => ?_
  have h7 : Trip H7 wp s3 k3 n3 := (((e4.trans e5).trans e6).trans e7) wp _ h3
  have npw : pp ≠ wp := fun z => by
    have h9 : H5 wp = _ := (e4.trans e5) wp _ h3
    have h10 : H5 pp = _ := hPP
    rw [z, h9] at h10
    cases h10
  refine ⟨.ref wp, rfl, ⟨wp, s3, k3, n3, 999, rfl, h7, a1, a2, a3, by omega, a5, by decide, by decide, fun d4 s4 k4 n4 H8 hd4 b1 b2 b3 b4 b5 e8 h8 => ⟨1, (d4 : Int), rfl, rfl,
    .ref wp, rfl, ⟨wp, s4, k4, n4, 999, rfl, h8, b1, b2, b3, by omega, b5, by decide, by decide, fun d5 s5 k5 n5 H9 hd5 c1 c2 c3 c4 c5 e9 h9 => ⟨1, (d5 : Int), rfl, rfl, _, _, rfl, ?_⟩⟩⟩⟩⟩
  dsimp only
  have g9 : Ex (del H7 wp) H9 := fun a o ha => by
    obtain ⟨na, ha2⟩ := del_some ha
    refine e9 a o ?_
    rw [del_ne na]
    exact e8 a o ha
  have f9 : Ex (del H wp) H9 := fun a o ha => g9 a o (by
    obtain ⟨na, ha2⟩ := del_some ha
    rw [del_ne na]
    exact (((f3.trans e4).trans e5).trans (e6.trans e7)) a o ha)
  have hP9 : FormP [l + n] pp H9 := g9 pp _ (by
    rw [del_ne npw]
    exact (e6.trans e7) pp _ hPP)
  have hsl : (1 : Int) + (d4 : Int) ≤ 999 ∧ 1 ≤ (1 : Int) + (d4 : Int) := ⟨by omega, by omega⟩
  have hfa : (1 : Int) + (d5 : Int) ≤ 999 ∧ 1 ≤ (1 : Int) + (d5 : Int) := ⟨by omega, by omega⟩
  generalize (1 : Int) + (d4 : Int) = sl at hsl ⊢
  generalize (1 : Int) + (d5 : Int) = fa at hfa ⊢
  exact sz _ _ _ _ _ _ _ _ _ _ _ _ _ _ _ _ sl fa l n pp H9 ⟨hsl.2, hsl.1, hfa.2, hfa.1, hl.1, hl.2, hn.1, hn.2⟩ hP9 fun H10 e10 => kk H10 (f9.trans e10)
end
end Fd
end

section
set_option Elab.async false
set_option linter.all false
set_option maxRecDepth 100000
set_option maxHeartbeats 4000000
/-! WZ: law. -/
namespace Fd
open PySem PySem.Spec PyProof.Rows L2 Evl Ew Tx FR
section
variable {P : Program} {w : World} {K : PySem.W.Frag} {mg : Str → Option Value} {base : Heap}
theorem ev_turn {σ : L2.St} {H : Hp} {sp : Addr} {script : List Int} {spot : Nat} {E1 E2 : XK} (h0 : σ[0]? = some (some (.ref sp))) (h1 : σ[1]? = some (some (.int (spot : Int)))) (hs : SqL K H sp (script.map V.int)) (hl : script.length ≤ 1000) (hsp : spot ≤ 10) :
    Ev (tCall sp_law_right [] E1 (tCons (tCall (sp_law_well K) [] E2 (tCons (tVar 0) (tCons (tVar 1) tNil))) tNil)) σ H (.bl true) := fun H1 e1 Q q =>
  ⟨.ref sp, h0, .int (spot : Int), h1, ⟨sp, script, spot, rfl, ex_l e1 hs, hl, hsp, fun p s n H2 hp e2 a1 a2 a3 hT => ⟨p, s, 0, n, rfl, hT, a1, a2, by decide, by decide, a3, fun H3 e3 => q H3 fun a o ha => e3 a o (by
    have na : a ≠ p := fun z => by
      rw [z, hp] at ha
      cases ha
    rw [del_ne na]
    exact e2 a o ha)⟩⟩⟩
def sp_law (K : Fg) : Sp := fun vs H Q _ => ∃ (a : Addr) (ns : List Int), vs = [.ref a] ∧ SqL K H a (ns.map V.int) ∧ ns.length ≤ 1000 ∧ ∀ H', Q (.bl true) H'
theorem ok_law (T : Txt K mg) : FnOk P w K mg base CX0 13 T.law.a T.law.d p_law (sp_law K) := by
  have G1 := ok_law_well (P := P) (w := w) (base := base) T
  have G2 := ok_law_right (P := P) (w := w) (base := base) T
  refine T.law.F.ok sc_law (fun vs H Q E h => ?_) (fun cdv A outer s H vs Q E hr h => ?_)
  · obtain ⟨a, ns, rfl, _⟩ := h
    rfl
  · obtain ⟨a, ns, rfl, hs, hl, k⟩ := h
    have nd := sc_law.nd
    refine ⟨_, pss_one (ps_ret (pe_callB (r := rAll K) (cr_all rfl) (by rfl) T.z.all (by decide +kernel) (pa_cons (pe_lc (own := [("_law_spot", 1)]) (by rfl) nd
      (pi_range1 (by rfl) T.z.range (pa_cons (pe_callB (r := rMax2) (call_max2 rfl) (by rfl) T.z.max (by decide +kernel) (pa_cons pe_int (pa_cons (pe_callB (r := rMin2) (call_min2 rfl) (by rfl) T.z.min (by decide +kernel) (pa_cons (pe_callB (r := rLenS K) call_len_seq (by rfl) T.z.len PySem.boot_len (pa_cons (pv 0) pa_nil)) (pa_cons pe_int pa_nil))) pa_nil))) pa_nil))
      (blkOk_by (own := [("_law_spot", 1)]) (N := n_law) (sc := defScope s_law) (by decide +kernel))
      (fun _ _ _ _ _ => pg_name (i := 1) nd rfl (Or.inl rfl)) (fun _ _ _ _ _ => pts_nil)
      (fun _ _ _ _ _ => pe_call G2 hr (by rfl) T.law_right.g T.law_right.F.kp T.law_right.b .nil pass0 (pa_cons (pe_call G1 (hr.mono (by decide)) (by rfl) T.law_well.g T.law_well.F.kp T.law_well.b .nil pass0 (pa_cons (pv 0) (pa_cons (pv 1) pa_nil))) pa_nil))) pa_nil))), ?_⟩
    have hlen : ((ns.map V.int).length : Int) = (ns.length : Int) := by rw [List.length_map]
    refine s_ret (v := .bl true) (ev_allT (n := max 2 (min ns.length 3)) (el_map (fun _ => .bl true) (ei_range (max 2 (min ns.length 3)) (ea_cons (ev_max2 (i := 2) (j := if (3 : Int) < ((ns.map V.int).length : Int) then 3 else ((ns.map V.int).length : Int)) ev_c (ev_min2 (ev_len (K := K) (ev_var rfl) hs) ev_c)) ea_nil) ?_ (by omega)) (by omega) tg_name (fun _ => rfl) fun i H4 e4 hi => ev_turn rfl rfl (ex_l e4 hs) hl (by omega))) fun H5 e5 => k H5
    rw [hlen]
    split <;> split <;> omega
end
end Fd
end

section
set_option Elab.async false
set_option linter.all false
set_option maxRecDepth 100000
set_option maxHeartbeats 0
/-! HD: the head. Printed by genhd.py. -/
namespace Hd
open PySem PySem.Spec PyProof.Rows L2 Tx Fd
abbrev Fg := PySem.W.Frag
/-- where a def stands: a name of the top, a class's method, a class's property -/
inductive Wh where
  | top (x : Str)
  | met (C m : Str)
  | prp (C f : Str)
def proAt (K : Fg) (p : Addr) : Addr := match PySem.W.recIn K p "property" with
  | some (.ref g :: _) => g
  | _ => 0
def Wh.ad (K : Fg) : Wh → Addr
  | .top x => He.ga K x
  | .met C m => He.ma K (He.ga K C) m
  | .prp C f => proAt K (He.ma K (He.ga K C) f)
structure One where
  wh : Wh
  name : Str
  qual : Str
  st : Stmt
abbrev Seen : Type := Option ((Str × Str) × (Arguments × FuncBody × Scope) × (Addr × List (Str × Addr) × Value × Addr))
def seenF (fd : FuncData) : Seen := some ((fd.name, fd.qualname), (fd.params, fd.body, fd.scope), (fd.globals, fd.closure, fd.defaults, fd.builtins))
def seen (K : Fg) (f : Addr) : Seen := match K.lookup f with
  | some ⟨_, _, .func fd, _⟩ => seenF fd
  | _ => none
def One.due (d : One) : Seen := some ((d.name, d.qual), (defArgs d.st, .stmts (defBody d.st), defScope d.st), (mainGlobals, [], .none, builtinsNs))
def coded (K : Fg) (f : Addr) (q : Str) : Bool := match K.lookup f with
  | some ⟨_, _, .func fd, _⟩ => PySem.W.codeIn K fd.code q
  | _ => false
def One.fine (K : Fg) (d : One) : Bool := PySem.W.keepIn K (.ref (d.wh.ad K)) && coded K (d.wh.ad K) d.qual
theorem both {a b : Bool} (h : (a && b) = true) : a = true ∧ b = true := Bool.and_eq_true_iff.mp h
theorem One.is {K : Fg} {d : One} (e : seen K (d.wh.ad K) = d.due) (c : d.fine K = true) : ∃ fd, Fun K d.name d.qual d.st (d.wh.ad K) fd := by
  obtain ⟨kp, c2⟩ := both c
  unfold coded at c2
  unfold seen at e
  cases q : K.lookup (d.wh.ad K) with
  | none =>
    rw [q] at c2
    cases c2
  | some ob =>
    obtain ⟨oc, od, dt, osl⟩ := ob
    rw [q] at c2 e
    cases dt with
    | func fd =>
      obtain ⟨n1, n2, n3, n4, n5, n6, n7, n8, n9, n10, n11, n12, n13, n14, n15⟩ := fd
      have z : seenF ⟨n1, n2, n3, n4, n5, n6, n7, n8, n9, n10, n11, n12, n13, n14, n15⟩ = d.due := e
      unfold seenF One.due at z
      simp only [Option.some.injEq, Prod.mk.injEq] at z
      obtain ⟨⟨h1, h2⟩, ⟨h3, h4, h5⟩, h6, h7, h8, h9⟩ := z
      subst h6 h7 h8 h9
      subst h1 h2 h3 h4 h5
      exact ⟨_, fun_mk q c2 kp⟩
    | _ => cases c2
/-! ### a class of slots -/
def slotB (K : Fg) (C : Addr) (f : Str) (i : Nat) : Bool := He.eqO (PySem.W.findIn K (.ref C) f) (some (some (.ref (He.ma K C f)))) && (He.eqO (PySem.W.specialIn K (.ref (He.ma K C f)) "__get__") (some (some (.builtin "member_descriptor.__get__"))) &&
  (decide (PySem.W.takesIn K (.ref (He.ma K C f)) = some true) && (decide (PySem.W.typeIn K (.ref (He.ma K C f)) = some (.type "member_descriptor")) && (decide (PySem.W.slotIn K (He.ma K C f) C = some i) && decide (i < 1000)))))
theorem slot_of {K : Fg} {C : Addr} {f : Str} {i : Nat} (c : slotB K C f i = true) : SlX.Slot1 K C f (He.ma K C f) i := by
  obtain ⟨c1, c⟩ := both c
  obtain ⟨c2, c⟩ := both c
  obtain ⟨c3, c⟩ := both c
  obtain ⟨c4, c⟩ := both c
  obtain ⟨c5, c6⟩ := both c
  exact ⟨He.eqO_ok c1, He.eqO_ok c2, of_decide_eq_true c3, of_decide_eq_true c4, of_decide_eq_true c5, of_decide_eq_true c6⟩
def propB (K : Fg) (C : Addr) (f : Str) : Bool := He.eqO (PySem.W.findIn K (.ref C) f) (some (some (.ref (He.ma K C f)))) && (He.eqO (PySem.W.specialIn K (.ref (He.ma K C f)) "__get__") (some (some (.builtin "property.__get__"))) &&
  (decide (PySem.W.takesIn K (.ref (He.ma K C f)) = some true) && (match PySem.W.recIn K (He.ma K C f) "property" with
    | some (.ref _ :: _) => true
    | _ => false)))
theorem prop_of {K : Fg} {C : Addr} {f : Str} (c : propB K C f = true) : Nonempty (PropT K C f (proAt K (He.ma K C f))) := by
  obtain ⟨c1, c⟩ := both c
  obtain ⟨c2, c⟩ := both c
  obtain ⟨c3, c4⟩ := both c
  refine ⟨He.ma K C f, He.eqO_ok c1, He.eqO_ok c2, of_decide_eq_true c3, ?_⟩
  unfold proAt
  cases q : PySem.W.recIn K (He.ma K C f) "property" with
  | none =>
    rw [q] at c4
    cases c4
  | some l =>
    rw [q] at c4
    cases l with
    | nil => cases c4
    | cons g rest =>
      cases g with
      | ref g => exact ⟨rest, rfl⟩
      | _ => cases c4
def clsB (K : Fg) (C : Addr) : Bool := PySem.W.plainGet K C Str.empty && (PySem.W.isClsIn K C && (PySem.W.plainOver K C && He.eqO (PySem.W.findIn K (.ref C) "__setattr__") (some (some (.builtin "object.__setattr__")))))
theorem cls_of {K : Fg} {C : Addr} (c : clsB K C = true) : SlX.SCls K C := by
  obtain ⟨c1, c⟩ := both c
  obtain ⟨c2, c⟩ := both c
  obtain ⟨c3, c4⟩ := both c
  exact ⟨c1, c2, c3, He.eqO_ok c4⟩
def isiB (K : Fg) (C : Addr) : Bool := He.eqO (PySem.W.findIn K (.ref C) "__class__") (some (some (.builtin "object.__class__"))) && (He.eqO (PySem.W.specialIn K (.builtin "object.__class__") "__get__") (some (some (.builtin "getset_descriptor.__get__"))) &&
  (decide (PySem.W.takesIn K (.builtin "object.__class__") = some true) && (decide (PySem.W.mroIn K C (.type "object") = some true) && decide (PySem.W.kitOne K (.ref C) (.ref C) = some true))))
theorem isi_of {K : Fg} {C : Addr} (c : isiB K C = true) : SlX.SIsi K C ∧ PySem.W.kitOne K (.ref C) (.ref C) = some true := by
  obtain ⟨c1, c⟩ := both c
  obtain ⟨c2, c⟩ := both c
  obtain ⟨c3, c⟩ := both c
  obtain ⟨c4, c5⟩ := both c
  exact ⟨⟨He.eqO_ok c1, He.eqO_ok c2, of_decide_eq_true c3, of_decide_eq_true c4⟩, of_decide_eq_true c5⟩
def lenB (K : Fg) (C : Addr) : Bool := He.eqO (PySem.W.findIn K (.ref C) "__len__") (some (some (.ref (He.ma K C "__len__")))) && PySem.W.isFn K (.ref (He.ma K C "__len__"))
def allB (K : Fg) (C : Addr) : Bool := clsB K C && (isiB K C && (slotB K C "own_names" 1 && (slotB K C "own_sayings" 2 && (slotB K C "own_branches" 0 && (propB K C "names" && (propB K C "branches" && (propB K C "places" && lenB K C)))))))
/-! ### the lists -/
def facts0 : List He.Fa := [.glo "turned", .glo "leaving", .glo "climbed", .glo "begun", .glo "most", .glo "is_integer", .glo "is_name", .glo "are_integers", .glo "shared", .glo "lowest", .glo "least_of", .glo "is_empty", .glo "is_form", .glo "is_saying", .glo "is_branch", .glo "wrong_name", .glo "wrong_saying", .glo "places_in", .glo "wrong_branch", .glo "tests_of", .glo "behind", .glo "value_at", .glo "check_program", .glo "check_place", .glo "check_point"]
def facts1 : List He.Fa := [.glo "stand_rows", .glo "weight_into", .glo "fall_rows", .glo "rank_rows", .glo "read_forms", .glo "dead_of", .glo "best_rank", .glo "plain_rank", .glo "steps_of", .glo "lowest_rank", .glo "best_for", .glo "bound_of", .glo "bound", .glo "_law_well", .glo "_law_draw", .glo "_law_great", .glo "_law_shared", .glo "_law_part", .glo "_law_right", .glo "law", .glo "Columns", .glo "Program", .free "abs", .free "max", .free "min"]
def facts2 : List He.Fa := [.free "sum", .free "all", .free "len", .free "list", .free "tuple", .free "int", .free "range", .free "enumerate", .free "isinstance", .free "divmod", .free "bool", .free "str", .int "MOST_VARIABLES" 3, .int "MOST_PLACES" 3, .int "MOST_BRANCHES" 5, .int "MOST_TESTS" 3, .int "MOST_SAYINGS" 3, .int "MOST_NUMBER" 1000000, .str "DIGITS" "0123456789", .str "LETTERS" "abcdefghijklmnopqrstuvwxyz", .str "ENDLESS" "endless", .cls "Columns", .noat "Columns" "step", .noat "Columns" "spots", .noat "Columns" "wide"]
def facts3 : List He.Fa := [.noat "Columns" "parts", .meth "Columns" "place_into", .mkr "Columns", .mkr "Program"]
def facts : List He.Fa := facts0 ++ facts1 ++ facts2 ++ facts3
def d0 : One := ⟨.top "turned", "turned", "turned", s_turned⟩
def d1 : One := ⟨.top "leaving", "leaving", "leaving", s_leaving⟩
def d2 : One := ⟨.top "climbed", "climbed", "climbed", s_climbed⟩
def d3 : One := ⟨.top "begun", "begun", "begun", s_begun⟩
def d4 : One := ⟨.top "most", "most", "most", s_most⟩
def d5 : One := ⟨.top "is_integer", "is_integer", "is_integer", s_is_integer⟩
def d6 : One := ⟨.top "is_name", "is_name", "is_name", s_is_name⟩
def d7 : One := ⟨.top "are_integers", "are_integers", "are_integers", s_are_integers⟩
def d8 : One := ⟨.top "shared", "shared", "shared", s_shared⟩
def d9 : One := ⟨.top "lowest", "lowest", "lowest", s_lowest⟩
def d10 : One := ⟨.top "least_of", "least_of", "least_of", s_least_of⟩
def d11 : One := ⟨.top "is_empty", "is_empty", "is_empty", s_is_empty⟩
def d12 : One := ⟨.top "is_form", "is_form", "is_form", s_is_form⟩
def d13 : One := ⟨.top "is_saying", "is_saying", "is_saying", s_is_saying⟩
def d14 : One := ⟨.top "is_branch", "is_branch", "is_branch", s_is_branch⟩
def d15 : One := ⟨.top "wrong_name", "wrong_name", "wrong_name", s_wrong_name⟩
def d16 : One := ⟨.top "wrong_saying", "wrong_saying", "wrong_saying", s_wrong_saying⟩
def d17 : One := ⟨.top "places_in", "places_in", "places_in", s_places_in⟩
def d18 : One := ⟨.top "wrong_branch", "wrong_branch", "wrong_branch", s_wrong_branch⟩
def d19 : One := ⟨.top "tests_of", "tests_of", "tests_of", s_tests_of⟩
def d20 : One := ⟨.top "behind", "behind", "behind", s_behind⟩
def d21 : One := ⟨.top "value_at", "value_at", "value_at", s_value_at⟩
def d22 : One := ⟨.top "check_program", "check_program", "check_program", s_check_program⟩
def d23 : One := ⟨.top "check_place", "check_place", "check_place", s_check_place⟩
def d24 : One := ⟨.top "check_point", "check_point", "check_point", s_check_point⟩
def d25 : One := ⟨.top "stand_rows", "stand_rows", "stand_rows", s_stand_rows⟩
def d26 : One := ⟨.top "weight_into", "weight_into", "weight_into", s_weight_into⟩
def d27 : One := ⟨.top "fall_rows", "fall_rows", "fall_rows", s_fall_rows⟩
def d28 : One := ⟨.top "rank_rows", "rank_rows", "rank_rows", s_rank_rows⟩
def d29 : One := ⟨.top "read_forms", "read_forms", "read_forms", s_read_forms⟩
def d30 : One := ⟨.top "dead_of", "dead_of", "dead_of", s_dead_of⟩
def d31 : One := ⟨.top "best_rank", "best_rank", "best_rank", s_best_rank⟩
def d32 : One := ⟨.top "plain_rank", "plain_rank", "plain_rank", s_plain_rank⟩
def d33 : One := ⟨.top "steps_of", "steps_of", "steps_of", s_steps_of⟩
def d34 : One := ⟨.top "lowest_rank", "lowest_rank", "lowest_rank", s_lowest_rank⟩
def d35 : One := ⟨.top "best_for", "best_for", "best_for", s_best_for⟩
def d36 : One := ⟨.top "bound_of", "bound_of", "bound_of", s_bound_of⟩
def d37 : One := ⟨.top "bound", "bound", "bound", s_bound⟩
def d38 : One := ⟨.top "_law_well", "_law_well", "_law_well", s_law_well⟩
def d39 : One := ⟨.top "_law_draw", "_law_draw", "_law_draw", s_law_draw⟩
def d40 : One := ⟨.top "_law_great", "_law_great", "_law_great", s_law_great⟩
def d41 : One := ⟨.top "_law_shared", "_law_shared", "_law_shared", s_law_shared⟩
def d42 : One := ⟨.top "_law_part", "_law_part", "_law_part", s_law_part⟩
def d43 : One := ⟨.top "_law_right", "_law_right", "_law_right", s_law_right⟩
def d44 : One := ⟨.top "law", "law", "law", s_law⟩
def d45 : One := ⟨.met "Columns" "__init__", "__init__", "Columns.__init__", s_Columns_init⟩
def d46 : One := ⟨.met "Columns" "place_into", "place_into", "Columns.place_into", s_Columns_place_into⟩
def d47 : One := ⟨.met "Program" "__init__", "__init__", "Program.__init__", s_Program_init⟩
def d48 : One := ⟨.prp "Program" "names", "names", "Program.names", s_Program_names⟩
def d49 : One := ⟨.prp "Program" "branches", "branches", "Program.branches", s_Program_branches⟩
def d50 : One := ⟨.prp "Program" "places", "places", "Program.places", s_Program_places⟩
def d51 : One := ⟨.met "Program" "__len__", "__len__", "Program.__len__", s_Program_len⟩
def fns0 : List One := [d0, d1, d2, d3, d4, d5, d6, d7, d8, d9, d10, d11, d12, d13, d14, d15, d16, d17, d18, d19, d20, d21, d22, d23, d24]
def fns1 : List One := [d25, d26, d27, d28, d29, d30, d31, d32, d33, d34, d35, d36, d37, d38, d39, d40, d41, d42, d43, d44, d45, d46, d47, d48, d49]
def fns2 : List One := [d50, d51]
def fns : List One := fns0 ++ fns1 ++ fns2
def loose0 : List Str := ["_wall", "__name__", "WrongValue", "InvalidText", "InvalidPlace", "InvalidPoint", "NotProgram", "InvalidNames", "InvalidSayings", "InvalidBranches", "MOST_VARIABLES", "MOST_PLACES", "MOST_BRANCHES", "MOST_TESTS", "MOST_SAYINGS", "MOST_NUMBER", "turned", "leaving", "climbed", "begun", "most", "DIGITS", "LETTERS", "is_integer", "is_name"]
def loose1 : List Str := ["are_integers", "written_integer", "shared", "lowest", "ENDLESS", "least_of", "is_empty", "is_form", "is_saying", "is_branch", "wrong_name", "wrong_saying", "places_in", "wrong_branch", "form_words", "branch_lines", "Program", "program_lines", "tests_of", "text_form", "text_saying", "text_branch", "branch_parts", "text_program", "behind"]
def loose2 : List Str := ["value_at", "check_program", "check_place", "check_point", "Columns", "stand_rows", "weight_into", "fall_rows", "rank_rows", "read_forms", "dead_of", "best_rank", "plain_rank", "steps_of", "lowest_rank", "best_for", "bound_of", "bound", "_law_well", "_law_draw", "_law_great", "_law_shared", "_law_part", "_law_right"]
def loose : List Str := loose0 ++ loose1 ++ loose2
def tops0 : List Str := ["turned", "leaving", "climbed", "begun", "most", "is_integer", "is_name", "are_integers", "shared", "lowest", "least_of", "is_empty", "is_form", "is_saying", "is_branch", "wrong_name", "wrong_saying", "places_in", "wrong_branch", "tests_of", "behind", "value_at", "check_program", "check_place", "check_point"]
def tops1 : List Str := ["stand_rows", "weight_into", "fall_rows", "rank_rows", "read_forms", "dead_of", "best_rank", "plain_rank", "steps_of", "lowest_rank", "best_for", "bound_of", "bound", "_law_well", "_law_draw", "_law_great", "_law_shared", "_law_part", "_law_right", "law", "Columns", "Program"]
def tops : List Str := tops0 ++ tops1
/-! ### what is looked at -/
def seeds (K : Fg) : List Addr := tops.map fun x => He.ga K x
def more (g : Addr → Option Obj) : Nat → List Addr → List Addr
  | 0, l => l
  | n + 1, l => more g n (He.growG g l)
def reach (g : Addr → Option Obj) : List Addr := mainGlobals :: more g 5 (seeds (He.frG g [mainGlobals]))
def Al : Type := Bool × List Seen
def obs (K : Fg) : Al := ((facts.all fun f => f.ok K) && (allB K (He.ga K "Program") && fns.all fun d => d.fine K), fns.map fun d => seen K (d.wh.ad K))
def due : Al := (true, fns.map One.due)
def look (g : Addr → Option Obj) : Al := obs (He.frG g (reach g))
def hk : PySem.W.Hook where
  α := Al
  obs := fun s => look s.heap.get?
  val := fun _ => due
  says := fun _ h => ∃ K : Fg, K.In h ∧ obs K = due
  of := fun _ _ z => ⟨_, He.frG_in, z⟩
  keeps := fun _ _ _ y z => y.elim fun K q => ⟨K, PySem.W.Frag.In.keeps q.1 z, q.2⟩
def ob (s : PySem.W.SharedT) : Al := look (HandSHeadRun.getT s)
theorem ob_is (s : PySem.W.SharedT) : ob s = hk.obs s.abs := by
  have e : HandSHeadRun.getT s = s.abs.heap.get? := funext (HandSHeadRun.getT_eq s)
  unfold ob
  rw [e]
  rfl
abbrev R : PySem.W.OpenRow := PySem.W.OpenLaw.row PySem.Challenge.rw_fallranks_k31_whole_known_bounds
theorem run (w : World) : HandSHeadRun.RunEq R (PySem.W.view R.prog [82]) hk ob 6000 loose w := by
  intro os
  kernel_rfl
section
variable {K : Fg}
theorem fact (c : obs K = due) (i : Nat) {f : He.Fa} (h : facts[i]? = some f := by rfl) : f.ok K = true := by
  have c1 := (both (congrArg (fun z : Al => z.1) c)).1
  exact List.all_eq_true.mp c1 f (List.mem_of_getElem? h)
theorem isAll (c : obs K = due) : allB K (He.ga K "Program") = true := (both (both (congrArg (fun z : Al => z.1) c)).2).1
theorem def_ (c : obs K = due) (i : Nat) {d : One} (h : fns[i]? = some d := by rfl) : ∃ fd, Fun K d.name d.qual d.st (d.wh.ad K) fd := by
  have c2 := (both (both (congrArg (fun z : Al => z.1) c)).2).2
  have e : fns.map (fun d => seen K (d.wh.ad K)) = fns.map One.due := congrArg (fun z : Al => z.2) c
  have e2 : (fns.map fun d => seen K (d.wh.ad K))[i]? = (fns.map One.due)[i]? := by rw [e]
  rw [List.getElem?_map, List.getElem?_map, h] at e2
  exact One.is (Option.some.inj e2) (List.all_eq_true.mp c2 d (List.mem_of_getElem? h))
end
theorem txt {h : Heap} {K : Fg} {mg : Str → Option Value} (X : K.In h) (G : h.Ns mainGlobals mg) (c : obs K = due) : Nonempty (Txt K mg) := by
  have g : ∀ (i : Nat) {x : Str} (h : facts[i]? = some (.glo x) := by rfl), mg x = some (.ref (He.ga K x)) := fun i x h => He.glo_ok X G (fact c i h)
  have n : ∀ (i : Nat) {x : Str} (h : facts[i]? = some (.free x) := by rfl), mg x = none := fun i x h => He.free_ok X G (fact c i h)
  have a := isAll c
  obtain ⟨a1, a⟩ := both a
  obtain ⟨a2, a⟩ := both a
  obtain ⟨a3, a⟩ := both a
  obtain ⟨a4, a⟩ := both a
  obtain ⟨a5, a⟩ := both a
  obtain ⟨a6, a⟩ := both a
  obtain ⟨a7, a⟩ := both a
  obtain ⟨a8, a⟩ := both a
  obtain ⟨a9, a10⟩ := both a
  obtain ⟨q1⟩ := prop_of a6
  obtain ⟨q2⟩ := prop_of a7
  obtain ⟨q3⟩ := prop_of a8
  obtain ⟨f0, F0⟩ := def_ c 0 (d := d0)
  obtain ⟨f1, F1⟩ := def_ c 1 (d := d1)
  obtain ⟨f2, F2⟩ := def_ c 2 (d := d2)
  obtain ⟨f3, F3⟩ := def_ c 3 (d := d3)
  obtain ⟨f4, F4⟩ := def_ c 4 (d := d4)
  obtain ⟨f5, F5⟩ := def_ c 5 (d := d5)
  obtain ⟨f6, F6⟩ := def_ c 6 (d := d6)
  obtain ⟨f7, F7⟩ := def_ c 7 (d := d7)
  obtain ⟨f8, F8⟩ := def_ c 8 (d := d8)
  obtain ⟨f9, F9⟩ := def_ c 9 (d := d9)
  obtain ⟨f10, F10⟩ := def_ c 10 (d := d10)
  obtain ⟨f11, F11⟩ := def_ c 11 (d := d11)
  obtain ⟨f12, F12⟩ := def_ c 12 (d := d12)
  obtain ⟨f13, F13⟩ := def_ c 13 (d := d13)
  obtain ⟨f14, F14⟩ := def_ c 14 (d := d14)
  obtain ⟨f15, F15⟩ := def_ c 15 (d := d15)
  obtain ⟨f16, F16⟩ := def_ c 16 (d := d16)
  obtain ⟨f17, F17⟩ := def_ c 17 (d := d17)
  obtain ⟨f18, F18⟩ := def_ c 18 (d := d18)
  obtain ⟨f19, F19⟩ := def_ c 19 (d := d19)
  obtain ⟨f20, F20⟩ := def_ c 20 (d := d20)
  obtain ⟨f21, F21⟩ := def_ c 21 (d := d21)
  obtain ⟨f22, F22⟩ := def_ c 22 (d := d22)
  obtain ⟨f23, F23⟩ := def_ c 23 (d := d23)
  obtain ⟨f24, F24⟩ := def_ c 24 (d := d24)
  obtain ⟨f25, F25⟩ := def_ c 25 (d := d25)
  obtain ⟨f26, F26⟩ := def_ c 26 (d := d26)
  obtain ⟨f27, F27⟩ := def_ c 27 (d := d27)
  obtain ⟨f28, F28⟩ := def_ c 28 (d := d28)
  obtain ⟨f29, F29⟩ := def_ c 29 (d := d29)
  obtain ⟨f30, F30⟩ := def_ c 30 (d := d30)
  obtain ⟨f31, F31⟩ := def_ c 31 (d := d31)
  obtain ⟨f32, F32⟩ := def_ c 32 (d := d32)
  obtain ⟨f33, F33⟩ := def_ c 33 (d := d33)
  obtain ⟨f34, F34⟩ := def_ c 34 (d := d34)
  obtain ⟨f35, F35⟩ := def_ c 35 (d := d35)
  obtain ⟨f36, F36⟩ := def_ c 36 (d := d36)
  obtain ⟨f37, F37⟩ := def_ c 37 (d := d37)
  obtain ⟨f38, F38⟩ := def_ c 38 (d := d38)
  obtain ⟨f39, F39⟩ := def_ c 39 (d := d39)
  obtain ⟨f40, F40⟩ := def_ c 40 (d := d40)
  obtain ⟨f41, F41⟩ := def_ c 41 (d := d41)
  obtain ⟨f42, F42⟩ := def_ c 42 (d := d42)
  obtain ⟨f43, F43⟩ := def_ c 43 (d := d43)
  obtain ⟨f44, F44⟩ := def_ c 44 (d := d44)
  obtain ⟨f45, F45⟩ := def_ c 45 (d := d45)
  obtain ⟨f46, F46⟩ := def_ c 46 (d := d46)
  obtain ⟨f47, F47⟩ := def_ c 47 (d := d47)
  obtain ⟨f48, F48⟩ := def_ c 48 (d := d48)
  obtain ⟨f49, F49⟩ := def_ c 49 (d := d49)
  obtain ⟨f50, F50⟩ := def_ c 50 (d := d50)
  obtain ⟨f51, F51⟩ := def_ c 51 (d := d51)
  have na : ∀ f ∈ (["step", "spots", "wide", "parts"] : List Str), NoAttr K (He.ga K "Columns") f := fun f hf => by
    rcases List.mem_cons.mp hf with z | hf
    · rw [z]; exact He.noat_ok (fact c 72 (f := .noat "Columns" "step"))
    rcases List.mem_cons.mp hf with z | hf
    · rw [z]; exact He.noat_ok (fact c 73 (f := .noat "Columns" "spots"))
    rcases List.mem_cons.mp hf with z | hf
    · rw [z]; exact He.noat_ok (fact c 74 (f := .noat "Columns" "wide"))
    · rw [List.mem_singleton.mp hf]; exact He.noat_ok (fact c 75 (f := .noat "Columns" "parts"))
  exact ⟨{
    z := ⟨n 47, n 48, n 49, n 50, n 51, n 52, n 53, n 54, n 55, n 56, n 57, n 58, n 59, n 60, n 61⟩,
    i := ⟨He.int_ok X G (fact c 62 (f := .int "MOST_VARIABLES" 3)), He.int_ok X G (fact c 63 (f := .int "MOST_PLACES" 3)), He.int_ok X G (fact c 64 (f := .int "MOST_BRANCHES" 5)), He.int_ok X G (fact c 65 (f := .int "MOST_TESTS" 3)), He.int_ok X G (fact c 66 (f := .int "MOST_SAYINGS" 3)), He.int_ok X G (fact c 67 (f := .int "MOST_NUMBER" 1000000)), He.str_ok X G (fact c 68 (f := .str "DIGITS" "0123456789")), He.str_ok X G (fact c 69 (f := .str "LETTERS" "abcdefghijklmnopqrstuvwxyz")), He.str_ok X G (fact c 70 (f := .str "ENDLESS" "endless"))⟩,
    col := { C := _, g := g 45, c := He.cls_ok (fact c 71 (f := .cls "Columns")), n := na, init := ⟨_, _, F45, (F45.binds fun _ _ _ _ _ _ us hl => match us, hl with | [_, _, _], _ => rfl)⟩, place_into := ⟨_, _, F46, (F46.binds fun _ _ _ _ _ _ us hl => match us, hl with | [_, _, _, _, _], _ => rfl)⟩, k := He.mkr_ok (fact c 77 (f := .mkr "Columns")), m := He.meth_ok (fact c 76 (f := .meth "Columns" "place_into")) },
    pro := { C := _, g := g 46, c := cls_of a1, i := (isi_of a2).1, o := (isi_of a2).2, pn := _, ps := _, pb := _, ln := slot_of a3, ls := slot_of a4, lb := slot_of a5, init := ⟨_, _, F47, (F47.binds fun _ _ _ _ _ _ us hl => match us, hl with | [_, _, _, _], _ => rfl)⟩, names := ⟨_, _, F48, (F48.binds fun _ _ _ _ _ _ us hl => match us, hl with | [_], _ => rfl)⟩, branches := ⟨_, _, F49, (F49.binds fun _ _ _ _ _ _ us hl => match us, hl with | [_], _ => rfl)⟩, places := ⟨_, _, F50, (F50.binds fun _ _ _ _ _ _ us hl => match us, hl with | [_], _ => rfl)⟩, len := ⟨_, _, F51, (F51.binds fun _ _ _ _ _ _ us hl => match us, hl with | [_], _ => rfl)⟩, k := He.mkr_ok (fact c 78 (f := .mkr "Program")), qn := q1, qb := q2, qp := q3, lf := He.eqO_ok a9, li := a10 },
    turned := ⟨_, _, F0, g 0, (F0.binds fun _ _ _ _ _ _ us hl => match us, hl with | [_, _, _, _], _ => rfl)⟩,
    leaving := ⟨_, _, F1, g 1, (F1.binds fun _ _ _ _ _ _ us hl => match us, hl with | [_, _, _, _], _ => rfl)⟩,
    climbed := ⟨_, _, F2, g 2, (F2.binds fun _ _ _ _ _ _ us hl => match us, hl with | [_, _, _, _, _], _ => rfl)⟩,
    begun := ⟨_, _, F3, g 3, (F3.binds fun _ _ _ _ _ _ us hl => match us, hl with | [_, _], _ => rfl)⟩,
    most := ⟨_, _, F4, g 4, (F4.binds fun _ _ _ _ _ _ us hl => match us, hl with | [_, _], _ => rfl)⟩,
    is_integer := ⟨_, _, F5, g 5, (F5.binds fun _ _ _ _ _ _ us hl => match us, hl with | [_], _ => rfl)⟩,
    is_name := ⟨_, _, F6, g 6, (F6.binds fun _ _ _ _ _ _ us hl => match us, hl with | [_], _ => rfl)⟩,
    are_integers := ⟨_, _, F7, g 7, (F7.binds fun _ _ _ _ _ _ us hl => match us, hl with | [_, _], _ => rfl)⟩,
    shared := ⟨_, _, F8, g 8, (F8.binds fun _ _ _ _ _ _ us hl => match us, hl with | [_, _], _ => rfl)⟩,
    lowest := ⟨_, _, F9, g 9, (F9.binds fun _ _ _ _ _ _ us hl => match us, hl with | [_, _], _ => rfl)⟩,
    least_of := ⟨_, _, F10, g 10, (F10.binds fun _ _ _ _ _ _ us hl => match us, hl with | [_, _], _ => rfl)⟩,
    is_empty := ⟨_, _, F11, g 11, (F11.binds fun _ _ _ _ _ _ us hl => match us, hl with | [_, _], _ => rfl)⟩,
    is_form := ⟨_, _, F12, g 12, (F12.binds fun _ _ _ _ _ _ us hl => match us, hl with | [_, _], _ => rfl)⟩,
    is_saying := ⟨_, _, F13, g 13, (F13.binds fun _ _ _ _ _ _ us hl => match us, hl with | [_, _], _ => rfl)⟩,
    is_branch := ⟨_, _, F14, g 14, (F14.binds fun _ _ _ _ _ _ us hl => match us, hl with | [_, _], _ => rfl)⟩,
    wrong_name := ⟨_, _, F15, g 15, (F15.binds fun _ _ _ _ _ _ us hl => match us, hl with | [_], _ => rfl)⟩,
    wrong_saying := ⟨_, _, F16, g 16, (F16.binds fun _ _ _ _ _ _ us hl => match us, hl with | [_, _], _ => rfl)⟩,
    places_in := ⟨_, _, F17, g 17, (F17.binds fun _ _ _ _ _ _ us hl => match us, hl with | [_, _], _ => rfl)⟩,
    wrong_branch := ⟨_, _, F18, g 18, (F18.binds fun _ _ _ _ _ _ us hl => match us, hl with | [_, _, _], _ => rfl)⟩,
    tests_of := ⟨_, _, F19, g 19, (F19.binds fun _ _ _ _ _ _ us hl => match us, hl with | [_, _], _ => rfl)⟩,
    behind := ⟨_, _, F20, g 20, (F20.binds fun _ _ _ _ _ _ us hl => match us, hl with | [_, _], _ => rfl)⟩,
    value_at := ⟨_, _, F21, g 21, (F21.binds fun _ _ _ _ _ _ us hl => match us, hl with | [_, _], _ => rfl)⟩,
    check_program := ⟨_, _, F22, g 22, (F22.binds fun _ _ _ _ _ _ us hl => match us, hl with | [_], _ => rfl)⟩,
    check_place := ⟨_, _, F23, g 23, (F23.binds fun _ _ _ _ _ _ us hl => match us, hl with | [_, _], _ => rfl)⟩,
    check_point := ⟨_, _, F24, g 24, (F24.binds fun _ _ _ _ _ _ us hl => match us, hl with | [_, _], _ => rfl)⟩,
    stand_rows := ⟨_, _, F25, g 25, (F25.binds fun _ _ _ _ _ _ us hl => match us, hl with | [_, _, _], _ => rfl)⟩,
    weight_into := ⟨_, _, F26, g 26, (F26.binds fun _ _ _ _ _ _ us hl => match us, hl with | [_, _, _, _, _], _ => rfl)⟩,
    fall_rows := ⟨_, _, F27, g 27, (F27.binds fun _ _ _ _ _ _ us hl => match us, hl with | [_, _, _], _ => rfl)⟩,
    rank_rows := ⟨_, _, F28, g 28, (F28.binds fun _ _ _ _ _ _ us hl => match us, hl with | [_, _, _], _ => rfl)⟩,
    read_forms := ⟨_, _, F29, g 29, (F29.binds fun _ _ _ _ _ _ us hl => match us, hl with | [_, _, _], _ => rfl)⟩,
    dead_of := ⟨_, _, F30, g 30, (F30.binds fun _ _ _ _ _ _ us hl => match us, hl with | [_], _ => rfl)⟩,
    best_rank := ⟨_, _, F31, g 31, (F31.binds fun _ _ _ _ _ _ us hl => match us, hl with | [_, _], _ => rfl)⟩,
    plain_rank := ⟨_, _, F32, g 32, (F32.binds fun _ _ _ _ _ _ us hl => match us, hl with | [_, _], _ => rfl)⟩,
    steps_of := ⟨_, _, F33, g 33, (F33.binds fun _ _ _ _ _ _ us hl => match us, hl with | [_], _ => rfl)⟩,
    lowest_rank := ⟨_, _, F34, g 34, (F34.binds fun _ _ _ _ _ _ us hl => match us, hl with | [_, _, _, _], _ => rfl)⟩,
    best_for := ⟨_, _, F35, g 35, (F35.binds fun _ _ _ _ _ _ us hl => match us, hl with | [_, _, _], _ => rfl)⟩,
    bound_of := ⟨_, _, F36, g 36, (F36.binds fun _ _ _ _ _ _ us hl => match us, hl with | [_, _, _], _ => rfl)⟩,
    bound := ⟨_, _, F37, g 37, (F37.binds fun _ _ _ _ _ _ us hl => match us, hl with | [_, _, _], _ => rfl)⟩,
    law_well := ⟨_, _, F38, g 38, (F38.binds fun _ _ _ _ _ _ us hl => match us, hl with | [_, _], _ => rfl)⟩,
    law_draw := ⟨_, _, F39, g 39, (F39.binds fun _ _ _ _ _ _ us hl => match us, hl with | [_, _], _ => rfl)⟩,
    law_great := ⟨_, _, F40, g 40, (F40.binds fun _ _ _ _ _ _ us hl => match us, hl with | [_], _ => rfl)⟩,
    law_shared := ⟨_, _, F41, g 41, (F41.binds fun _ _ _ _ _ _ us hl => match us, hl with | [_, _], _ => rfl)⟩,
    law_part := ⟨_, _, F42, g 42, (F42.binds fun _ _ _ _ _ _ us hl => match us, hl with | [_, _], _ => rfl)⟩,
    law_right := ⟨_, _, F43, g 43, (F43.binds fun _ _ _ _ _ _ us hl => match us, hl with | [_], _ => rfl)⟩,
    law := ⟨_, _, F44, g 44, (F44.binds fun _ _ _ _ _ _ us hl => match us, hl with | [_], _ => rfl)⟩ }⟩
end Hd
end

set_option Elab.async false
set_option linter.all false
set_option maxRecDepth 100000
set_option maxHeartbeats 0
/-! ZZ: the end. -/
namespace Hd
open PySem PySem.Spec PyProof.Rows L2 Tx Fd
theorem law_binds {K : Fg} {f : Addr} {fd : FuncData} (F : Fun K "law" "law" s_law f fd) : ∀ (s : Shared) (u : Value), BindsTo s fd ⟨[u], []⟩ [("_law_script", u)] := by
  obtain ⟨oc, od, kV, doc, pm, an, cdv, ct, osl, rfl, lk, hcd⟩ := F.ex
  exact fun s u => .of_eq (by rfl)
theorem law_is {w : World} {h : Heap} {K : Fg} {mg : Str → Option Value} {fa : Addr} (X : K.In h) (G : h.Ns mainGlobals mg) (c : obs K = due) (hfa : mg "law" = some (.ref fa)) :
    ∃ fd : FuncData, (∀ (s : Shared) (u : Value), BindsTo s fd ⟨[u], []⟩ [("_law_script", u)]) ∧ ∀ (P : Program) (base : Heap), FnOk P w K mg base CX0 13 fa fd ["_law_script"] (sp_law K) := by
  obtain ⟨T⟩ := txt X G c
  have e : fa = T.law.a := by
    have z := hfa.symm.trans T.law.g
    injection z with z
    injection z
  subst e
  exact ⟨T.law.d, law_binds T.law.F, fun P base => ok_law T⟩
end Hd
open PySem PySem.W PySem.Calls PyProof.Rows
theorem PySem.Challenge.cw_fallranks_k31_whole_known_bounds_holds : PySem.Challenge.rw_fallranks_k31_whole_known_bounds.Holds := by
  w_on; o_law
  refine HandSHeadRun.head_any (r := Hd.R) (q := view Hd.R.prog [82]) (H := Hd.hk) (ob := Hd.ob) (M := 6000) (loose := Hd.loose) (d := HandSHeadRun.topDef Hd.R.prog 82) (kwd := []) Hd.ob_is
    (by kernel_rfl) (fun s => by kernel_rfl) Hd.run (by kernel_rfl) (by kernel_rfl) (by kernel_rfl) (by rfl) (by first | assumption | decide +kernel) (by decide +kernel) ⟨rfl, rfl, rfl, rfl, rfl, by decide +kernel⟩ ?hw ?hc
  case hw => w_witness2
  case hc =>
    refine L2.walk_ofE (l := PySem.Challenge.rw_fallranks_k31_whole_known_bounds) (n := 63) (k := 13) (x := "_law_script") (CX := L2.CX0) rfl (by decide) (by kernel_rfl) ⟨rfl, by decide, by decide⟩ ?F (fun _ _ _ _ z => z)
    intro w mg fa h Y G hmg0
    obtain ⟨K, KX, c⟩ := Y
    have hmg : mg ("law" : PySem.Str) = some (.ref fa) := by
      have e : (HandSHeadRun.topDef Hd.R.prog 82).name = ("law" : PySem.Str) := by kernel_rfl
      rw [← e]
      exact hmg0
    obtain ⟨fd, hb, hF⟩ := Hd.law_is (w := w) KX G c hmg
    exact ⟨K, fd, Fd.sp_law K, KX, hb, fun H a ns hl _ hS => ⟨a, ns, rfl, hS, Nat.le_trans hl (by decide), fun _ => rfl⟩, fun base _ _ => hF _ base⟩
