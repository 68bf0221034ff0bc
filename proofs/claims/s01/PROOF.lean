import PyProof.Rows.All
import Wide.All
import OpenK.AllK
import Wide.FinOn
import PyProof.EqAt
import PyProof.EqKinds
import PyProof.TupleCall
import PyProof.Rows.CallKwBuiltin
import PyProof.Rows.CallKw2
import PyProof.DictTable
import KE.DatumOrd
import Open.SpecLaws
import KE.OsGo
import HandS.ForSpec
import HandS.Comp
import HandS.Text
import HandS.Evl
import HandS.SortKw
import HandS.CallLocal
import HandS.ExcInit
import HandS.ExcField
import HandS.More
import PySem.Challenge.RW_nearstores_s01_answers
import KE.KEqSeq
import HandS.Codes
set_option Elab.async false
set_option linter.all false
set_option maxRecDepth 100000
set_option maxHeartbeats 4000000
/-! ### 1. The mirror: each def of the program as a total function over numbers; a vector is a function of a place, a matrix of two -/
namespace Ns
abbrev Vec := Nat → Nat
abbrev Mat := Nat → Nat → Nat
/-- min(list, default=d) | max(list, default=d) -/
def minD : List Nat → Nat → Nat
  | [], d => d
  | x :: r, _ => r.foldl min x
def maxD : List Nat → Nat → Nat
  | [], d => d
  | x :: r, _ => r.foldl max x
def mem (n g : Nat) : List Nat := (List.range n).filter fun p => g.testBit p
def direct (t : Mat) : Mat := fun a b => if a = b then 0 else if 0 < t a b then t a b else 1000
def thru (d : Mat) (m : Nat) : Mat := fun a b => min (d a b) (d a m + d m b)
def distK (t : Mat) (k : Nat) : Mat := (List.range k).foldl thru (direct t)
def sd (n : Nat) (d : Mat) (g p : Nat) : Nat := minD ((mem n g).map (d p)) 1000
def near (n : Nat) (d : Mat) (g p : Nat) : Int :=
  if sd n d g p = 1000 then -1 else ((minD ((mem n g).filter fun s => decide (d p s = sd n d g p)) 0 : Nat) : Int)
def ppl (n : Nat) (pe : Vec) : List Nat := (List.range n).filter fun p => decide (0 < pe p)
def gd (n : Nat) (d : Mat) (pe : Vec) (g : Nat) : Nat := maxD ((ppl n pe).map (sd n d g)) 0
def td (n : Nat) (d : Mat) (pe : Vec) (g : Nat) : Nat := ((ppl n pe).map fun p => pe p * sd n d g p).sum
def loss (n : Nat) (d : Mat) (pe : Vec) (g : Nat) : Nat := maxD ((mem n g).map fun s => gd n d pe (g - 2 ^ s)) 0
def pos (n : Nat) (d : Mat) (pe : Vec) (g s : Nat) : Nat := (((List.range n).filter fun p => decide (near n d g p = (s : Int))).map pe).sum
def within (n : Nat) (d : Mat) (g r : Nat) : List Nat := (List.range n).filter fun p => decide (sd n d g p ≤ min r 999)
def groups (n k : Nat) : List Nat := (List.range (2 ^ n)).filter fun g => decide ((mem n g).length = k)
def leastAt (ws : List Int) (k : Nat) : Nat := (List.range k).foldl (fun a p => if ws.getD p 0 < ws.getD a 0 then p else a) 0
def fwl (ts : List Nat) (ws : List Int) : Nat := ts.getD (leastAt ws ws.length) 0
def bestOf (n k : Nat) (f : Nat → Nat) : Nat := fwl (groups n k) ((groups n k).map fun g => (f g : Int))
def cover (n : Nat) (d : Mat) (pe : Vec) (r g : Nat) : Bool := decide (gd n d pe g ≤ min r 999)
def covers (n : Nat) (d : Mat) (pe : Vec) (r k : Nat) : List Nat := (groups n k).filter (cover n d pe r)
/-- the first of the sizes from k on, as many as are told, that covers -/
def smallFrom (n : Nat) (d : Mat) (pe : Vec) (r : Nat) : Nat → Nat → Nat
  | 0, _ => 2 ^ n - 1
  | c + 1, k => match covers n d pe r k with
    | [] => smallFrom n d pe r c (k + 1)
    | g :: _ => g
def small (n : Nat) (d : Mat) (pe : Vec) (r : Nat) : Nat := smallFrom n d pe r n 0
def outs (ps : List Nat) (g : Nat) : List Nat := ps.filter fun p => !g.testBit p
def far (n : Nat) (d : Mat) (ps : List Nat) (g : Nat) : Nat := fwl (outs ps g) ((outs ps g).map fun p => 1000 - (sd n d g p : Int))
def ffK (n : Nat) (d : Mat) (pe : Vec) (k : Nat) : Nat := (List.range k).foldl (fun g _ => g ||| 1 <<< far n d (ppl n pe) g) 0
def ff (n : Nat) (d : Mat) (pe : Vec) (k : Nat) : Nat := ffK n d pe (min k (ppl n pe).length)
def addl (n : Nat) (d : Mat) (pe : Vec) (g : Nat) : Nat := fwl (outs (List.range n) g) ((outs (List.range n) g).map fun p => (gd n d pe (g ||| 1 <<< p) : Int))
def roadsN (n : Nat) (t : Mat) : Nat := ((List.range n).map fun a => ((List.range n).filter fun b => decide (0 < t a b)).length).sum / 2
def conn (n : Nat) (d : Mat) : Bool := (List.range n).all fun a => decide (maxD ((List.range n).map (d a)) 0 < 1000)
def setV (f : Vec) (p v : Nat) : Vec := fun q => if q = p then v else f q
def setM (t : Mat) (a b v : Nat) : Mat := fun x y => if (x = a ∧ y = b) ∨ (x = b ∧ y = a) then v else t x y
def orAll (l : List Nat) : Nat := l.foldl (fun g p => g ||| 1 <<< p) 0
/-- the state -/
structure M where
  n : Nat
  pe : Vec
  t : Mat
  g : Nat
def M.d (m : M) : Mat := distK m.t m.n
def M.fresh (n : Nat) : M := ⟨n, fun _ => 1, fun _ _ => 0, 0⟩
abbrev Res := Except Int (M × List Int)
def toI (l : List Nat) : List Int := l.map fun x : Nat => (x : Int)
/-- the answer of one distance -/
def defd (m : M) (x : Nat) : Res := if x < 1000 then .ok (m, [(x : Int)]) else .error (-33)
def told (x : Nat) : Int := if x < 1000 then (x : Int) else -1
/-- a network of so many stores is asked for -/
def sized (m : M) (lo k : Nat) (r : Res) : Res := if lo ≤ k ∧ k ≤ m.n then (if conn m.n m.d = true then r else .error (-33)) else .error (-22)
def roadOk (m : M) (a b v : Nat) (r : Res) : Res := if a < m.n ∧ b < m.n then (if a ≠ b ∧ v ≤ 50 then r else .error (-22)) else .error (-2)
def placeOk (m : M) (p : Nat) (r : Res) : Res := if p < m.n then r else .error (-2)
def cOf (m : M) (k : Nat) : Nat := bestOf m.n k (gd m.n m.d m.pe)
def mOf (m : M) (k : Nat) : Nat := bestOf m.n k (td m.n m.d m.pe)
def rOf (m : M) (k : Nat) : Nat := bestOf m.n k (loss m.n m.d m.pe)
def dPeople (m : M) : List Nat → Res
  | [p, c] => placeOk m p (if c ≤ 99 then .ok ({ m with pe := setV m.pe p c }, [(m.pe p : Int)]) else .error (-22))
  | _ => .error 0
def dRoad (m : M) : List Nat → Res
  | [a, b, v] => roadOk m a b v (.ok ({ m with t := setM m.t a b v }, [(m.t a b : Int)]))
  | _ => .error 0
def dStore (m : M) : List Nat → Res
  | [p, c] => placeOk m p (if c ≤ 1 then .ok ({ m with g := if c = 1 then m.g ||| 1 <<< p else if m.g.testBit p then m.g - 2 ^ p else m.g }, [if m.g.testBit p then 1 else 0]) else .error (-22))
  | _ => .error 0
def dDist (m : M) : List Nat → Res
  | [a, b] => if a < m.n ∧ b < m.n then defd m (m.d a b) else .error (-2)
  | _ => .error 0
def dMatrix (m : M) : List Nat → Res
  | [] => .ok (m, (m.n : Int) :: (List.range m.n).flatMap fun a => (List.range m.n).map fun b => told (m.d a b))
  | _ => .error 0
def dConn (m : M) : List Nat → Res
  | [] => .ok (m, [if conn m.n m.d then 1 else 0])
  | _ => .error 0
def dSd (m : M) : List Nat → Res
  | [p] => placeOk m p (defd m (sd m.n m.d m.g p))
  | _ => .error 0
def dNear (m : M) : List Nat → Res
  | [p] => placeOk m p (if near m.n m.d m.g p = -1 then .error (-33) else .ok (m, [near m.n m.d m.g p]))
  | _ => .error 0
def dGreatest (m : M) : List Nat → Res
  | [] => defd m (gd m.n m.d m.pe m.g)
  | _ => .error 0
def dTotal (m : M) : List Nat → Res
  | [] => if gd m.n m.d m.pe m.g < 1000 then .ok (m, [(td m.n m.d m.pe m.g : Int)]) else .error (-33)
  | _ => .error 0
def dPps (m : M) : List Nat → Res
  | [] => .ok (m, ((mem m.n m.g).length : Int) :: (mem m.n m.g).map fun s => ((pos m.n m.d m.pe m.g s : Nat) : Int))
  | _ => .error 0
def dWithout (m : M) : List Nat → Res
  | [p] => placeOk m p (if m.g.testBit p then defd m (gd m.n m.d m.pe (m.g - 2 ^ p)) else .error (-6))
  | _ => .error 0
def dLoss (m : M) : List Nat → Res
  | [] => if m.g = 0 then .error (-6) else defd m (loss m.n m.d m.pe m.g)
  | _ => .error 0
def dCenters (m : M) : List Nat → Res
  | [k] => sized m 1 k (.ok (m, (gd m.n m.d m.pe (cOf m k) : Int) :: toI (mem m.n (cOf m k))))
  | _ => .error 0
def dMedians (m : M) : List Nat → Res
  | [k] => sized m 1 k (.ok (m, (td m.n m.d m.pe (mOf m k) : Int) :: toI (mem m.n (mOf m k))))
  | _ => .error 0
def dRobust (m : M) : List Nat → Res
  | [k] => sized m 2 k (.ok (m, (loss m.n m.d m.pe (rOf m k) : Int) :: toI (mem m.n (rOf m k))))
  | _ => .error 0
def listed (l : List Nat) : List Int := (l.length : Int) :: toI l
def dCover (m : M) : List Nat → Res
  | [r] => .ok (m, listed (mem m.n (small m.n m.d m.pe r)))
  | _ => .error 0
def dFf (m : M) : List Nat → Res
  | [k] => sized m 1 k (.ok (m, (gd m.n m.d m.pe (ff m.n m.d m.pe k) : Int) :: toI (mem m.n (ff m.n m.d m.pe k))))
  | _ => .error 0
def dUseC (m : M) : List Nat → Res
  | [k] => sized m 1 k (.ok ({ m with g := orAll (mem m.n (cOf m k)) }, [(gd m.n m.d m.pe (cOf m k) : Int)]))
  | _ => .error 0
def dUseM (m : M) : List Nat → Res
  | [k] => sized m 1 k (.ok ({ m with g := orAll (mem m.n (mOf m k)) }, [(td m.n m.d m.pe (mOf m k) : Int)]))
  | _ => .error 0
def dUseR (m : M) : List Nat → Res
  | [k] => sized m 2 k (.ok ({ m with g := orAll (mem m.n (rOf m k)) }, [(loss m.n m.d m.pe (rOf m k) : Int)]))
  | _ => .error 0
def dWith (m : M) : List Nat → Res
  | [p] => placeOk m p (if m.g.testBit p then .error (-17) else defd m (gd m.n m.d m.pe (m.g ||| 1 <<< p)))
  | _ => .error 0
def dAdd (m : M) : List Nat → Res
  | [] => if (mem m.n m.g).length < m.n then .ok (m, [(addl m.n m.d m.pe m.g : Int), told (gd m.n m.d m.pe (m.g ||| 1 <<< addl m.n m.d m.pe m.g))]) else .error (-28)
  | _ => .error 0
def dWithRoad (m : M) : List Nat → Res
  | [a, b, v] => roadOk m a b v (defd m (gd m.n (distK (setM m.t a b v) m.n) m.pe m.g))
  | _ => .error 0
def dWithin (m : M) : List Nat → Res
  | [r] => .ok (m, listed (within m.n m.d m.g r))
  | _ => .error 0
def dSummary (m : M) : List Nat → Res
  | [] => .ok (m, [(m.n : Int), ((((List.range m.n).map m.pe).sum : Nat) : Int), (roadsN m.n m.t : Int), (m.g : Int)])
  | _ => .error 0
/-- the deeds by their numbers -/
def deed : Nat → M → List Nat → Res
  | 1 => dPeople | 2 => dRoad | 3 => dStore | 4 => dDist | 5 => dMatrix | 6 => dConn | 7 => dSd | 8 => dNear | 9 => dGreatest | 10 => dTotal | 11 => dPps
  | 12 => dWithout | 13 => dLoss | 14 => dCenters | 15 => dMedians | 16 => dRobust | 17 => dCover | 18 => dFf | 19 => dUseC | 20 => dUseM | 21 => dUseR
  | 22 => dWith | 23 => dAdd | 24 => dWithRoad | 25 => dWithin | 26 => dSummary
  | _ => fun _ _ => .error 0
/-- an operation: what is answered, or the code; the state behind it -/
def perform (s : Option M) (op : Nat) (args : List Nat) : Except Int (Option M × List Int) :=
  if op = 0 then
    (match args with
    | [c] => if 1 ≤ c ∧ c ≤ 7 then .ok (some (M.fresh c), [0]) else .error (-22)
    | _ => .error 0)
  else match s with
    | none => .error (-11)
    | some m => (match deed op m args with
      | .error c => .error c
      | .ok r => .ok (some r.1, r.2))
def turn (s : Option M) (op : Nat) (args : List Nat) : Option M × List Int := match perform s op args with
  | .error c => (s, [c])
  | .ok r => r
def arity : List Nat := [1, 2, 3, 2, 2, 0, 0, 1, 1, 0, 0, 0, 1, 0, 1, 1, 1, 1, 1, 1, 1, 1, 1, 0, 3, 1, 0]
/-- what is so of every state -/
structure Ok (m : M) : Prop where
  lo : 1 ≤ m.n
  hi : m.n ≤ 7
  g : m.g < 2 ^ m.n
  pe : ∀ p, m.pe p ≤ 99
  t : ∀ a b, m.t a b ≤ 50
  sym : ∀ a b, m.t a b = m.t b a
  diag : ∀ a, m.t a a = 0
end Ns

/-! ### 2a. Distances: defined ones are at most 400 -/
namespace Ns
theorem distK_zero (t : Mat) : distK t 0 = direct t := rfl
theorem distK_succ (t : Mat) (k : Nat) : distK t (k + 1) = thru (distK t k) k := by
  unfold distK
  rw [List.range_succ, List.foldl_append]
  rfl
theorem distK_step (t : Mat) (k a b : Nat) : distK t (k + 1) a b = min (distK t k a b) (distK t k a k + distK t k k b) := by
  rw [distK_succ]
  rfl
theorem dist_le (t : Mat) (ht : ∀ a b, t a b ≤ 50) : ∀ k a b, distK t k a b ≤ 1000
  | 0, a, b => by
    have := ht a b
    rw [distK_zero]
    unfold direct
    split
    · omega
    · split <;> omega
  | k + 1, a, b => by
    have := dist_le t ht k a b
    rw [distK_step]
    omega
theorem dist_sym (t : Mat) (hs : ∀ a b, t a b = t b a) : ∀ k a b, distK t k a b = distK t k b a
  | 0, a, b => by
    rw [distK_zero]
    unfold direct
    rw [hs a b]
    by_cases h : a = b
    · rw [if_pos h, if_pos (Eq.symm h)]
    · rw [if_neg h, if_neg fun (e : b = a) => h (Eq.symm e)]
  | k + 1, a, b => by
    rw [distK_step, distK_step, dist_sym t hs k a b, dist_sym t hs k a k, dist_sym t hs k k b]
    omega
theorem dist_self (t : Mat) : ∀ k a, distK t k a a = 0
  | 0, a => by
    rw [distK_zero]
    unfold direct
    rw [if_pos rfl]
  | k + 1, a => by
    rw [distK_step, dist_self t k a]
    omega
/-- how many of the first k lie between -/
def btw (t : Mat) (k a b : Nat) : Nat := ((List.range k).filter fun x => decide (distK t k a x < 1000) && decide (distK t k x b < 1000)).length
theorem filter_mono {p q : Nat → Bool} : ∀ (l : List Nat), (∀ x ∈ l, p x = true → q x = true) → (l.filter p).length ≤ (l.filter q).length
  | [], _ => Nat.le_refl _
  | x :: r, h => by
    have ih := filter_mono (p := p) (q := q) r fun y hy => h y (List.mem_cons_of_mem _ hy)
    have h1 := h x List.mem_cons_self
    cases hp : p x with
    | true =>
      rw [List.filter_cons, List.filter_cons, if_pos hp, if_pos (h1 hp), List.length_cons, List.length_cons]
      omega
    | false =>
      rw [List.filter_cons, if_neg (by rw [hp]; decide), List.filter_cons]
      split
      · rw [List.length_cons]; omega
      · exact ih
theorem filter_two {p q r : Nat → Bool} : ∀ (l : List Nat), (∀ x ∈ l, p x = true → r x = true) → (∀ x ∈ l, q x = true → r x = true) → (∀ x ∈ l, ¬ (p x = true ∧ q x = true)) →
    (l.filter p).length + (l.filter q).length ≤ (l.filter r).length
  | [], _, _, _ => Nat.le_refl _
  | x :: s, hp, hq, hn => by
    have ih := filter_two (p := p) (q := q) (r := r) s (fun y hy => hp y (List.mem_cons_of_mem _ hy)) (fun y hy => hq y (List.mem_cons_of_mem _ hy)) fun y hy => hn y (List.mem_cons_of_mem _ hy)
    have p1 := hp x List.mem_cons_self
    have q1 := hq x List.mem_cons_self
    have n1 := hn x List.mem_cons_self
    rw [List.filter_cons, List.filter_cons, List.filter_cons]
    by_cases a : p x = true
    · have b : ¬ q x = true := fun b => n1 ⟨a, b⟩
      rw [if_pos a, if_neg b, if_pos (p1 a), List.length_cons, List.length_cons]
      omega
    · rw [if_neg a]
      by_cases b : q x = true
      · rw [if_pos b, if_pos (q1 b), List.length_cons, List.length_cons]
        omega
      · rw [if_neg b]
        split
        · rw [List.length_cons]; omega
        · exact ih
theorem btw_le (t : Mat) (k a b : Nat) : btw t k a b ≤ k := by
  unfold btw
  have h := List.length_filter_le (fun x => decide (distK t k a x < 1000) && decide (distK t k x b < 1000)) (List.range k)
  rw [List.length_range] at h
  exact h
/-- one turn: bounds, and routes through what was allowed stay closed -/
structure Far (t : Mat) (k : Nat) : Prop where
  bound : ∀ a b, distK t k a b < 1000 → distK t k a b ≤ 50 * (1 + btw t k a b)
  close : ∀ a b x, x < k → distK t k a x < 1000 → distK t k x b < 1000 → distK t k a b < 1000
theorem far_of (t : Mat) (ht : ∀ a b, t a b ≤ 50) : ∀ k, k ≤ 7 → Far t k
  | 0, _ => by
    refine ⟨fun a b h => ?_, fun a b x h => by omega⟩
    have := ht a b
    rw [distK_zero] at h ⊢
    unfold direct at h ⊢
    by_cases e : a = b
    · rw [if_pos e]; omega
    · rw [if_neg e] at h ⊢
      by_cases z : 0 < t a b
      · rw [if_pos z]; omega
      · rw [if_neg z] at h; omega
  | k + 1, hk => by
    have F := far_of t ht k (by omega)
    have le := dist_le t ht k
    have small : ∀ a b, distK t k a b < 1000 → distK t k a b ≤ 400 := fun a b h => by
      have := F.bound a b h
      have := btw_le t k a b
      omega
    have up : ∀ a b, distK t k a b < 1000 → distK t (k + 1) a b < 1000 := fun a b h => by
      rw [distK_step]; omega
    have via : ∀ a b, distK t k a k < 1000 → distK t k k b < 1000 → distK t (k + 1) a b < 1000 := fun a b h1 h2 => by
      have := small _ _ h1
      have := small _ _ h2
      rw [distK_step]; omega
    have inv : ∀ a b, distK t (k + 1) a b < 1000 → distK t k a b < 1000 ∨ (distK t k a k < 1000 ∧ distK t k k b < 1000) := fun a b h => by
      rw [distK_step] at h; omega
    refine ⟨fun a b h => ?_, fun a b x hx h1 h2 => ?_⟩
    · by_cases c : distK t k a b < 1000
      · have b1 := F.bound a b c
        have m : btw t k a b ≤ btw t (k + 1) a b := by
          unfold btw
          rw [List.range_succ, List.filter_append, List.length_append]
          have := filter_mono (p := fun x => decide (distK t k a x < 1000) && decide (distK t k x b < 1000)) (q := fun x => decide (distK t (k + 1) a x < 1000) && decide (distK t (k + 1) x b < 1000)) (List.range k) fun x _ hx => by
            simp only [Bool.and_eq_true, decide_eq_true_eq] at hx ⊢
            exact ⟨up _ _ hx.1, up _ _ hx.2⟩
          omega
        rw [distK_step]
        omega
      · obtain ⟨h1, h2⟩ : distK t k a k < 1000 ∧ distK t k k b < 1000 := (inv a b h).resolve_left c
        have b1 := F.bound a k h1
        have b2 := F.bound k b h2
        have m : btw t k a k + btw t k k b + 1 ≤ btw t (k + 1) a b := by
          unfold btw
          rw [List.range_succ, List.filter_append, List.length_append]
          have e : ([k].filter fun x => decide (distK t (k + 1) a x < 1000) && decide (distK t (k + 1) x b < 1000)).length = 1 := by
            have y : (decide (distK t (k + 1) a k < 1000) && decide (distK t (k + 1) k b < 1000)) = true := by
              simp only [Bool.and_eq_true, decide_eq_true_eq]
              exact ⟨up _ _ h1, up _ _ h2⟩
            rw [List.filter_cons, if_pos y]
            rfl
          rw [e]
          have := filter_two (p := fun x => decide (distK t k a x < 1000) && decide (distK t k x k < 1000)) (q := fun x => decide (distK t k k x < 1000) && decide (distK t k x b < 1000))
            (r := fun x => decide (distK t (k + 1) a x < 1000) && decide (distK t (k + 1) x b < 1000)) (List.range k) (fun x _ hx => by
              simp only [Bool.and_eq_true, decide_eq_true_eq] at hx ⊢
              exact ⟨up _ _ hx.1, via _ _ hx.2 h2⟩) (fun x _ hx => by
              simp only [Bool.and_eq_true, decide_eq_true_eq] at hx ⊢
              exact ⟨via _ _ h1 hx.1, up _ _ hx.2⟩) fun x hx hb => by
              simp only [Bool.and_eq_true, decide_eq_true_eq] at hb
              exact c (F.close a b x (List.mem_range.mp hx) hb.1.1 hb.2.2)
          omega
        rw [distK_step]
        omega
    · by_cases e : x = k
      · subst e
        have q1 : distK t x a x < 1000 := (inv a x h1).elim id fun z => z.1
        have q2 : distK t x x b < 1000 := (inv x b h2).elim id fun z => z.2
        exact via a b q1 q2
      · have hx' : x < k := by omega
        rcases inv a x h1 with p | p
        · rcases inv x b h2 with q | q
          · exact up _ _ (F.close a b x hx' p q)
          · exact via a b (F.close a k x hx' p q.1) q.2
        · rcases inv x b h2 with q | q
          · exact via a b p.1 (F.close k b x hx' p.2 q)
          · exact via a b p.1 q.2
/-- a distance: at most 400, or 1000: undefined -/
def Good (x : Nat) : Prop := x ≤ 400 ∨ x = 1000
theorem dist_good (t : Mat) (ht : ∀ a b, t a b ≤ 50) (k : Nat) (hk : k ≤ 7) (a b : Nat) : Good (distK t k a b) := by
  have F := far_of t ht k hk
  have le := dist_le t ht k a b
  by_cases h : distK t k a b < 1000
  · have := F.bound a b h
    have := btw_le t k a b
    exact .inl (by omega)
  · exact .inr (by omega)
end Ns

/-! ### 2b. The mirror's measures are the specification's -/
namespace Ns
def cap (x : Nat) : Nat := min x 999
theorem cap_of {x : Nat} (h : x < 1000) (_g : Good x) : cap x = x := by
  unfold cap Good at *; omega
theorem cap_far {x : Nat} (g : Good x) : 999 ≤ cap x ↔ ¬ x < 1000 := by
  unfold cap Good at *; omega
theorem cap_lt {x y : Nat} (g : Good x) (h : Good y) : cap x < cap y ↔ x < y := by
  unfold cap Good at *; omega
theorem good_zero : Good 0 := .inl (by omega)
theorem good_far : Good 1000 := .inr rfl
theorem good_min {x y : Nat} (g : Good x) (h : Good y) : Good (min x y) := by
  unfold Good at *; omega
theorem good_max {x y : Nat} (g : Good x) (h : Good y) : Good (max x y) := by
  unfold Good at *; omega
theorem good_foldmin : ∀ (l : List Nat) (a : Nat), Good a → (∀ x ∈ l, Good x) → Good (l.foldl min a)
  | [], _, h, _ => h
  | x :: r, a, h, k => good_foldmin r (min a x) (good_min h (k x List.mem_cons_self)) fun y hy => k y (List.mem_cons_of_mem _ hy)
theorem good_foldmax : ∀ (l : List Nat) (a : Nat), Good a → (∀ x ∈ l, Good x) → Good (l.foldl max a)
  | [], _, h, _ => h
  | x :: r, a, h, k => good_foldmax r (max a x) (good_max h (k x List.mem_cons_self)) fun y hy => k y (List.mem_cons_of_mem _ hy)
theorem good_minD {l : List Nat} {d : Nat} (h : Good d) (k : ∀ x ∈ l, Good x) : Good (minD l d) := by
  cases l with
  | nil => exact h
  | cons x r => exact good_foldmin r x (k x List.mem_cons_self) fun y hy => k y (List.mem_cons_of_mem _ hy)
theorem good_maxD {l : List Nat} {d : Nat} (h : Good d) (k : ∀ x ∈ l, Good x) : Good (maxD l d) := by
  cases l with
  | nil => exact h
  | cons x r => exact good_foldmax r x (k x List.mem_cons_self) fun y hy => k y (List.mem_cons_of_mem _ hy)
theorem foldmin_le : ∀ (l : List Nat) (a : Nat), l.foldl min a ≤ a
  | [], _ => Nat.le_refl _
  | x :: r, a => Nat.le_trans (foldmin_le r (min a x)) (Nat.min_le_left a x)
theorem foldmin_any : ∀ (l : List Nat) (a b : Nat), l.foldl min (min a b) = min a (l.foldl min b)
  | [], _, _ => rfl
  | x :: r, a, b => by
    rw [List.foldl_cons, List.foldl_cons, Nat.min_assoc, foldmin_any r a (min b x)]
theorem foldmax_any : ∀ (l : List Nat) (a b : Nat), l.foldl max (max a b) = max a (l.foldl max b)
  | [], _, _ => rfl
  | x :: r, a, b => by
    rw [List.foldl_cons, List.foldl_cons, Nat.max_assoc, foldmax_any r a (max b x)]
/-- where all are at most d, the default may stand ahead -/
theorem minD_fold {l : List Nat} {d : Nat} (h : ∀ x ∈ l, x ≤ d) : minD l d = l.foldl min d := by
  cases l with
  | nil => rfl
  | cons x r =>
    have := h x List.mem_cons_self
    show r.foldl min x = r.foldl min (min d x)
    rw [Nat.min_eq_right this]
theorem maxD_fold (l : List Nat) : maxD l 0 = l.foldl max 0 := by
  cases l with
  | nil => rfl
  | cons x r =>
    show r.foldl max x = r.foldl max (max 0 x)
    rw [Nat.max_eq_right (Nat.zero_le x)]
theorem cap_foldmin : ∀ (l : List Nat) (a : Nat), cap (l.foldl min a) = (l.map cap).foldl min (cap a)
  | [], _ => rfl
  | x :: r, a => by
    rw [List.foldl_cons, List.map_cons, List.foldl_cons, cap_foldmin r (min a x)]
    congr 1
    unfold cap; omega
theorem cap_foldmax : ∀ (l : List Nat) (a : Nat), cap (l.foldl max a) = (l.map cap).foldl max (cap a)
  | [], _ => rfl
  | x :: r, a => by
    rw [List.foldl_cons, List.map_cons, List.foldl_cons, cap_foldmax r (max a x)]
    congr 1
    unfold cap; omega
/-- a fold under an if -/
theorem fold_if {β : Type} (p : Nat → Bool) (f : β → Nat → β) : ∀ (l : List Nat) (b : β), l.foldl (fun b a => if p a = true then f b a else b) b = (l.filter p).foldl f b
  | [], _ => rfl
  | x :: r, b => by
    rw [List.foldl_cons, fold_if p f r, List.filter_cons]
    by_cases h : p x = true
    · rw [if_pos h, if_pos h, List.foldl_cons]
    · rw [if_neg h, if_neg h]
theorem foldl_ext {β : Type} {f g : β → Nat → β} : ∀ (l : List Nat) (b : β), (∀ b, ∀ x ∈ l, f b x = g b x) → l.foldl f b = l.foldl g b
  | [], _, _ => rfl
  | x :: r, b, h => by
    rw [List.foldl_cons, List.foldl_cons, h b x List.mem_cons_self]
    exact foldl_ext r _ fun b y hy => h b y (List.mem_cons_of_mem _ hy)
theorem foldl_map' {α β γ : Type} (f : γ → β → γ) (g : α → β) : ∀ (l : List α) (b : γ), (l.map g).foldl f b = l.foldl (fun b a => f b (g a)) b
  | [], _ => rfl
  | x :: r, b => foldl_map' f g r (f b (g x))
theorem map_ext' {α β : Type} {f g : α → β} {l : List α} (h : ∀ x ∈ l, f x = g x) : l.map f = l.map g := List.map_congr_left h
theorem getD_range {f : Nat → Nat} {n i d : Nat} (h : i < n) : ((List.range n).map f).getD i d = f i := by
  rw [List.getD_eq_getElem?_getD, List.getElem?_map, List.getElem?_range h]
  rfl
theorem mem_lt {n g p : Nat} (h : p ∈ mem n g) : p < n := List.mem_range.mp (List.mem_filter.mp h).1
theorem mem_bit {n g p : Nat} (h : p ∈ mem n g) : g.testBit p = true := (List.mem_filter.mp h).2
theorem mem_of {n g p : Nat} (h : p < n) (b : g.testBit p = true) : p ∈ mem n g := List.mem_filter.mpr ⟨List.mem_range.mpr h, b⟩
theorem ppl_lt {n p : Nat} {pe : Vec} (h : p ∈ ppl n pe) : p < n := List.mem_range.mp (List.mem_filter.mp h).1
theorem ppl_pos {n p : Nat} {pe : Vec} (h : p ∈ ppl n pe) : 0 < pe p := of_decide_eq_true (List.mem_filter.mp h).2

/-- the network and the mirror's state -/
structure Rel (net : Km548.Network) (m : M) : Prop where
  n : net.placeCount = m.n
  pe : net.people = (List.range m.n).map m.pe
  g : net.stores = m.g
  roads : net.roads = (List.range (m.n * m.n)).map fun i => if i / m.n < i % m.n then m.t (i / m.n) (i % m.n) else 0
section
variable {net : Km548.Network} {m : M}
theorem peopleAt_is (R : Rel net m) {p : Nat} (h : p < m.n) : Km548.peopleAt net p = m.pe p := by
  unfold Km548.peopleAt
  rw [R.pe]
  exact getD_range h
theorem ix_lt {n a b : Nat} (ha : a < n) (hb : b < n) : a * n + b < n * n := by
  have h : (a + 1) * n ≤ n * n := Nat.mul_le_mul_right n ha
  rw [Nat.succ_mul] at h
  omega
theorem ix_div {n a b : Nat} (hb : b < n) : (a * n + b) / n = a := by
  rw [Nat.add_comm, Nat.add_mul_div_right _ _ (by omega), Nat.div_eq_of_lt hb, Nat.zero_add]
theorem ix_mod {n a b : Nat} (hb : b < n) : (a * n + b) % n = b := by
  rw [Nat.add_comm, Nat.add_mul_mod_self_right, Nat.mod_eq_of_lt hb]
theorem roadTime_is (R : Rel net m) (O : Ok m) {a b : Nat} (ha : a < m.n) (hb : b < m.n) : Km548.roadTime net a b = m.t a b := by
  unfold Km548.roadTime Km548.roadIndex
  have h1 : min a b < m.n := by omega
  have h2 : max a b < m.n := by omega
  rw [R.roads, R.n, getD_range (ix_lt h1 h2), ix_div h2, ix_mod h2]
  by_cases c : a < b
  · rw [Nat.min_eq_left (Nat.le_of_lt c), Nat.max_eq_right (Nat.le_of_lt c), if_pos c]
  · by_cases e : a = b
    · subst e
      rw [Nat.min_self, Nat.max_self, if_neg (Nat.lt_irrefl a), O.diag a]
    · have c' : b < a := by omega
      rw [Nat.min_eq_right (Nat.le_of_lt c'), Nat.max_eq_left (Nat.le_of_lt c'), if_pos c', O.sym b a]
theorem direct_is (R : Rel net m) (O : Ok m) : Km548.directTimes net = (List.range (m.n * m.n)).map fun i => cap (direct m.t (i / m.n) (i % m.n)) := by
  unfold Km548.directTimes
  rw [R.n]
  refine map_ext' fun i hi => ?_
  have hi := List.mem_range.mp hi
  have n0 : 0 < m.n := O.lo
  have ha : i / m.n < m.n := Nat.div_lt_of_lt_mul hi
  have hb : i % m.n < m.n := Nat.mod_lt _ n0
  have ht := O.t (i / m.n) (i % m.n)
  rw [roadTime_is R O ha hb]
  unfold direct Km548.unreachable cap
  by_cases e : i / m.n = i % m.n
  · rw [if_pos e, if_pos e]; omega
  · rw [if_neg e, if_neg e]
    by_cases z : m.t (i / m.n) (i % m.n) = 0
    · rw [if_pos z, if_neg (by omega)]; omega
    · rw [if_neg z, if_pos (by omega)]; omega
theorem through_is (n k : Nat) (hk : k < n) (d : Mat) : Km548.allowThrough n ((List.range (n * n)).map fun i => cap (d (i / n) (i % n))) k = (List.range (n * n)).map fun i => cap (thru d k (i / n) (i % n)) := by
  unfold Km548.allowThrough
  refine map_ext' fun i hi => ?_
  have hi := List.mem_range.mp hi
  have n0 : 0 < n := by omega
  have ha : i / n < n := Nat.div_lt_of_lt_mul hi
  have hb : i % n < n := Nat.mod_lt _ n0
  rw [getD_range hi, getD_range (ix_lt ha hk), getD_range (ix_lt hk hb), ix_div hk, ix_mod hk, ix_div hb, ix_mod hb]
  unfold thru cap Km548.unreachable
  omega
theorem distances_is (R : Rel net m) (O : Ok m) : Km548.distances net = (List.range (m.n * m.n)).map fun i => cap (m.d (i / m.n) (i % m.n)) := by
  unfold Km548.distances M.d
  rw [direct_is R O, R.n]
  have key : ∀ k, k ≤ m.n → (List.range k).foldl (fun (matrix : List Nat) (k : Nat) => Km548.allowThrough m.n matrix k) ((List.range (m.n * m.n)).map fun i => cap (direct m.t (i / m.n) (i % m.n))) =
      (List.range (m.n * m.n)).map fun i => cap (distK m.t k (i / m.n) (i % m.n)) := by
    intro k
    induction k with
    | zero => intro _; rfl
    | succ k ih =>
      intro hk
      rw [List.range_succ, List.foldl_append, ih (by omega), distK_succ]
      exact through_is m.n k (by omega) _
  exact key m.n (Nat.le_refl _)
theorem d_good (O : Ok m) (a b : Nat) : Good (m.d a b) := dist_good m.t O.t m.n O.hi a b
theorem d_le (O : Ok m) (a b : Nat) : m.d a b ≤ 1000 := dist_le m.t O.t m.n a b
theorem d_sym (O : Ok m) (a b : Nat) : m.d a b = m.d b a := dist_sym m.t O.sym m.n a b
theorem d_self (a : Nat) : m.d a a = 0 := dist_self m.t m.n a
end
/-- a matrix and its flat form; the store distances -/
structure MRel (net : Km548.Network) (n : Nat) (pe : Vec) (d : Mat) (mx : List Nat) : Prop where
  pc : net.placeCount = n
  pa : ∀ p, p < n → Km548.peopleAt net p = pe p
  lo : 1 ≤ n
  hi : n ≤ 7
  flat : mx = (List.range (n * n)).map fun i => cap (d (i / n) (i % n))
  good : ∀ a b, Good (d a b)
  sym : ∀ a b, d a b = d b a
  self : ∀ a, d a a = 0
section
variable {net : Km548.Network} {n : Nat} {pe : Vec} {d : Mat} {mx : List Nat}
theorem MRel.le (T : MRel net n pe d mx) (a b : Nat) : d a b ≤ 1000 := by
  have := T.good a b
  unfold Good at this
  omega
theorem sdist_is (T : MRel net n pe d mx) {a b : Nat} (ha : a < n) (hb : b < n) : Km548.distance net mx a b = cap (d a b) := by
  unfold Km548.distance
  rw [T.flat, T.pc, getD_range (ix_lt ha hb), ix_div hb, ix_mod hb]
theorem sd_fold (T : MRel net n pe d mx) (g p : Nat) : sd n d g p = ((mem n g).map (d p)).foldl min 1000 := minD_fold fun x hx => by
  obtain ⟨a, _, rfl⟩ := List.mem_map.mp hx
  exact T.le p a
theorem sd_is (T : MRel net n pe d mx) {g p : Nat} (hp : p < n) : Km548.storeDistance net mx g p = cap (sd n d g p) := by
  unfold Km548.storeDistance
  rw [T.pc, fold_if (fun q => g.testBit q) (fun best q => min best (Km548.distance net mx q p)), sd_fold T, cap_foldmin, List.map_map, foldl_map']
  refine foldl_ext _ _ fun b x hx => ?_
  rw [sdist_is T (mem_lt hx) hp, T.sym x p]
  rfl
theorem sd_good (T : MRel net n pe d mx) (g p : Nat) : Good (sd n d g p) := good_minD good_far fun x hx => by
  obtain ⟨a, _, rfl⟩ := List.mem_map.mp hx
  exact T.good p a
theorem sd_le (T : MRel net n pe d mx) (g p : Nat) : sd n d g p ≤ 1000 := by
  have := sd_good T g p
  unfold Good at this
  omega
theorem gd_good (T : MRel net n pe d mx) (g : Nat) : Good (gd n d pe g) := good_maxD good_zero fun x hx => by
  obtain ⟨a, _, rfl⟩ := List.mem_map.mp hx
  exact sd_good T g a
theorem loss_good (T : MRel net n pe d mx) (g : Nat) : Good (loss n d pe g) := good_maxD good_zero fun x hx => by
  obtain ⟨a, _, rfl⟩ := List.mem_map.mp hx
  exact gd_good T _
theorem gd_is (T : MRel net n pe d mx) (g : Nat) : Km548.greatestDistance net mx g = cap (gd n d pe g) := by
  unfold Km548.greatestDistance gd
  rw [T.pc, maxD_fold, cap_foldmax, List.map_map, foldl_map']
  have e : ∀ (l : List Nat) (b : Nat), (∀ x ∈ l, x < n) → l.foldl (fun (gr p : Nat) => if Km548.peopleAt net p = 0 then gr else max gr (Km548.storeDistance net mx g p)) b =
      (l.filter fun p => decide (0 < pe p)).foldl (fun b a => max b ((cap ∘ sd n d g) a)) b := by
    intro l
    induction l with
    | nil => intro b _; rfl
    | cons x r ih =>
      intro b h
      have hx := h x List.mem_cons_self
      rw [List.foldl_cons, ih _ fun y hy => h y (List.mem_cons_of_mem _ hy), List.filter_cons, T.pa x hx, sd_is T hx]
      by_cases z : pe x = 0
      · rw [if_pos z, if_neg (by simp [z])]
      · rw [if_neg z, if_pos (decide_eq_true (by omega)), List.foldl_cons]
        rfl
  have e0 : cap 0 = 0 := rfl
  rw [e0]
  exact e _ 0 fun x hx => List.mem_range.mp hx
theorem sum_foldl : ∀ (l : List Nat) (b : Nat), l.foldl (fun (a b : Nat) => a + b) b = b + l.sum
  | [], _ => rfl
  | x :: r, b => by
    rw [List.foldl_cons, sum_foldl r, List.sum_cons]
    omega
theorem ssum (l : List Nat) : Km548.sum l = l.sum := by
  unfold Km548.sum
  rw [sum_foldl, Nat.zero_add]
theorem le_foldmax : ∀ (l : List Nat) (a : Nat), a ≤ l.foldl max a ∧ ∀ x ∈ l, x ≤ l.foldl max a
  | [], a => ⟨Nat.le_refl _, fun x hx => by cases hx⟩
  | y :: r, a => by
    obtain ⟨h1, h2⟩ := le_foldmax r (max a y)
    rw [List.foldl_cons]
    refine ⟨by omega, fun x hx => ?_⟩
    rcases List.mem_cons.mp hx with e | hx
    · subst e; omega
    · exact h2 x hx
theorem le_gd {g p : Nat} (hp : p ∈ ppl n pe) : sd n d g p ≤ gd n d pe g := by
  unfold gd
  rw [maxD_fold]
  exact (le_foldmax _ 0).2 _ (List.mem_map.mpr ⟨p, hp, rfl⟩)
theorem foldmax_lt {k : Nat} : ∀ (l : List Nat) (a : Nat), a < k → (∀ x ∈ l, x < k) → l.foldl max a < k
  | [], _, h, _ => h
  | y :: r, a, h, q => foldmax_lt r (max a y) (by have := q y List.mem_cons_self; omega) fun x hx => q x (List.mem_cons_of_mem _ hx)
theorem gd_lt {g : Nat} (h : ∀ p ∈ ppl n pe, sd n d g p < 1000) : gd n d pe g < 1000 := by
  unfold gd
  rw [maxD_fold]
  refine foldmax_lt _ 0 (by omega) fun x hx => ?_
  obtain ⟨p, hp, rfl⟩ := List.mem_map.mp hx
  exact h p hp
theorem td_is (T : MRel net n pe d mx) {g : Nat} (h : gd n d pe g < 1000) : Km548.totalDistance net mx g = td n d pe g := by
  unfold Km548.totalDistance td
  rw [ssum, T.pc]
  have e : ∀ (l : List Nat), (∀ x ∈ l, x < n) → (∀ x ∈ l.filter (fun p => decide (0 < pe p)), sd n d g x < 1000) →
      (l.map fun p => Km548.peopleAt net p * Km548.storeDistance net mx g p).sum = ((l.filter fun p => decide (0 < pe p)).map fun p => pe p * sd n d g p).sum := by
    intro l
    induction l with
    | nil => intro _ _; rfl
    | cons x r ih =>
      intro hx hs
      have hxn := hx x List.mem_cons_self
      rw [List.map_cons, List.sum_cons, T.pa x hxn, sd_is T hxn]
      rw [List.filter_cons] at hs ⊢
      by_cases z : 0 < pe x
      · rw [if_pos (decide_eq_true z)] at hs ⊢
        rw [List.map_cons, List.sum_cons, ih (fun y hy => hx y (List.mem_cons_of_mem _ hy)) fun y hy => hs y (List.mem_cons_of_mem _ hy)]
        rw [cap_of (hs x List.mem_cons_self) (sd_good T g x)]
      · rw [if_neg (by simpa using z)] at hs ⊢
        rw [ih (fun y hy => hx y (List.mem_cons_of_mem _ hy)) hs]
        have : pe x = 0 := by omega
        rw [this, Nat.zero_mul, Nat.zero_add]
  refine e _ (fun x hx => List.mem_range.mp hx) fun x hx => ?_
  exact Nat.lt_of_le_of_lt (le_gd hx) h
theorem bit_hi {g n p : Nat} (h : g < 2 ^ n) (hp : n ≤ p) : g.testBit p = false := Nat.testBit_lt_two_pow (Nat.lt_of_lt_of_le h (Nat.pow_le_pow_right (by omega) hp))
theorem mem_more {g n : Nat} (h : g < 2 ^ n) : ∀ k, mem (n + k) g = mem n g
  | 0 => rfl
  | k + 1 => by
    have e : mem (n + (k + 1)) g = mem (n + k) g := by
      unfold mem
      rw [← Nat.add_assoc, List.range_succ, List.filter_append, List.filter_cons, if_neg (by rw [bit_hi h (by omega)]; decide)]
      exact List.append_nil _
    rw [e, mem_more h k]
theorem members_is {g : Nat} (hn : n ≤ 7) (h : g < 2 ^ n) : Km548.members g = mem n g := by
  have e := mem_more h (7 - n)
  have e2 : n + (7 - n) = 7 := by omega
  rw [e2] at e
  exact e
theorem size_is {g : Nat} (hn : n ≤ 7) (h : g < 2 ^ n) : Km548.setSize g = (mem n g).length := congrArg List.length (members_is hn h)
theorem sub_lt {g q : Nat} (h : g < 2 ^ n) : g - 2 ^ q < 2 ^ n := Nat.lt_of_le_of_lt (Nat.sub_le _ _) h
theorem loss_is (T : MRel net n pe d mx) {g : Nat} (h : g < 2 ^ n) : Km548.greatestAfterLoss net mx g = cap (loss n d pe g) := by
  unfold Km548.greatestAfterLoss loss
  rw [maxD_fold, cap_foldmax, List.map_map, foldl_map', members_is T.hi h]
  have e0 : cap 0 = 0 := rfl
  rw [e0]
  refine foldl_ext _ _ fun b x hx => ?_
  rw [gd_is T]
  rfl
end
end Ns

/-! ### 2c. Best ones: the first with the least worth -/
namespace Ns
/-- the first of the least, from x on -/
def argm (f : Nat → Int) (x : Nat) (r : List Nat) : Nat := r.foldl (fun y z => if f z < f y then z else y) x
theorem argm_mem (f : Nat → Int) : ∀ (r : List Nat) (x : Nat), argm f x r ∈ x :: r
  | [], x => List.mem_cons_self
  | z :: r, x => by
    show argm f (if f z < f x then z else x) r ∈ x :: z :: r
    have h := argm_mem f r (if f z < f x then z else x)
    rcases List.mem_cons.mp h with e | h
    · rw [e]
      split
      · exact List.mem_cons_of_mem _ List.mem_cons_self
      · exact List.mem_cons_self
    · exact List.mem_cons_of_mem _ (List.mem_cons_of_mem _ h)
theorem leastAt_succ (ws : List Int) (k : Nat) : leastAt ws (k + 1) = if ws.getD k 0 < ws.getD (leastAt ws k) 0 then k else leastAt ws k := by
  unfold leastAt
  rw [List.range_succ, List.foldl_append]
  rfl
theorem leastAt_lt (ws : List Int) : ∀ k, leastAt ws (k + 1) < k + 1
  | 0 => by
    rw [leastAt_succ]
    have e : leastAt ws 0 = 0 := rfl
    rw [e]
    split <;> omega
  | k + 1 => by
    have := leastAt_lt ws k
    rw [leastAt_succ]
    split <;> omega
theorem leastAt_argm (f : Nat → Int) (x : Nat) (r : List Nat) : ∀ k, k ≤ r.length → (x :: r).getD (leastAt ((x :: r).map f) (k + 1)) 0 = argm f x (r.take k)
  | 0, _ => by
    have e : leastAt ((x :: r).map f) (0 + 1) = 0 := by
      have := leastAt_lt ((x :: r).map f) 0
      omega
    rw [e]
    rfl
  | k + 1, hk => by
    have ih := leastAt_argm f x r k (by omega)
    have hl := leastAt_lt ((x :: r).map f) k
    have hr : k < r.length := by omega
    have g : ∀ i, i < r.length + 1 → ((x :: r).map f).getD i 0 = f ((x :: r).getD i 0) := fun i hi => by
      rw [List.getD_eq_getElem?_getD, List.getElem?_map, List.getD_eq_getElem?_getD, List.getElem?_eq_getElem (by simpa using hi)]
      rfl
    have e1 : (x :: r).getD (k + 1) 0 = r[k] := by
      rw [List.getD_eq_getElem?_getD, List.getElem?_cons_succ, List.getElem?_eq_getElem hr]
      rfl
    have e2 : r.take (k + 1) = r.take k ++ [r[k]] := by rw [List.take_add_one, List.getElem?_eq_getElem hr]; rfl
    rw [leastAt_succ, g (k + 1) (by omega), g _ (by omega), ih, e1, e2]
    have ea : argm f x (r.take k ++ [r[k]]) = if f r[k] < f (argm f x (r.take k)) then r[k] else argm f x (r.take k) := by
      unfold argm
      rw [List.foldl_append]
      rfl
    rw [ea]
    by_cases c : f r[k] < f (argm f x (r.take k))
    · rw [if_pos c, if_pos c]
      exact e1
    · rw [if_neg c, if_neg c]
      exact ih
theorem fwl_argm (f : Nat → Int) (x : Nat) (r : List Nat) : fwl (x :: r) ((x :: r).map f) = argm f x r := by
  unfold fwl
  have h := leastAt_argm f x r r.length (Nat.le_refl _)
  rw [List.take_length] at h
  rw [List.length_map]
  exact h
theorem fwl_mem (f : Nat → Int) {l : List Nat} (h : l ≠ []) : fwl l (l.map f) ∈ l := by
  cases l with
  | nil => exact absurd rfl h
  | cons x r =>
    rw [fwl_argm]
    exact argm_mem f r x
/-- worths that order alike choose alike -/
theorem argm_alike {f g : Nat → Int} : ∀ (r : List Nat) (x : Nat), (∀ a ∈ x :: r, ∀ b ∈ x :: r, (f a < f b ↔ g a < g b)) → argm f x r = argm g x r
  | [], _, _ => rfl
  | z :: r, x, h => by
    have e := h z (List.mem_cons_of_mem _ List.mem_cons_self) x List.mem_cons_self
    show argm f (if f z < f x then z else x) r = argm g (if g z < g x then z else x) r
    by_cases c : f z < f x
    · rw [if_pos c, if_pos (e.mp c)]
      exact argm_alike r z fun a ha b hb => h a (List.mem_cons_of_mem _ ha) b (List.mem_cons_of_mem _ hb)
    · rw [if_neg c, if_neg fun y => c (e.mpr y)]
      refine argm_alike r x fun a ha b hb => h a ?_ b ?_
      · rcases List.mem_cons.mp ha with q | q
        · rw [q]; exact List.mem_cons_self
        · exact List.mem_cons_of_mem _ (List.mem_cons_of_mem _ q)
      · rcases List.mem_cons.mp hb with q | q
        · rw [q]; exact List.mem_cons_self
        · exact List.mem_cons_of_mem _ (List.mem_cons_of_mem _ q)
/-- the specification's fold with the worth beside -/
theorem bestFold (f : Nat → Nat) : ∀ (r : List Nat) (x : Nat),
    r.foldl (fun (best : Option (Nat × Nat)) (s : Nat) => match best with
      | none => some (s, f s)
      | some other => if f s < other.2 then some (s, f s) else some other) (some (x, f x)) = some (argm (fun s => (f s : Int)) x r, f (argm (fun s => (f s : Int)) x r))
  | [], _ => rfl
  | z :: r, x => by
    rw [List.foldl_cons]
    show r.foldl _ (if f z < f x then some (z, f z) else some (x, f x)) = some (argm _ (if (f z : Int) < (f x : Int) then z else x) r, f (argm _ (if (f z : Int) < (f x : Int) then z else x) r))
    by_cases c : f z < f x
    · rw [if_pos c, if_pos (by omega)]
      exact bestFold f r z
    · rw [if_neg c, if_neg (by omega)]
      exact bestFold f r x
theorem bestFold0 (f : Nat → Nat) {l : List Nat} (h : l ≠ []) :
    l.foldl (fun (best : Option (Nat × Nat)) (s : Nat) => match best with
      | none => some (s, f s)
      | some other => if f s < other.2 then some (s, f s) else some other) none = some (fwl l (l.map fun s => (f s : Int)), f (fwl l (l.map fun s => (f s : Int)))) := by
  cases l with
  | nil => exact absurd rfl h
  | cons x r =>
    rw [fwl_argm (fun s => (f s : Int))]
    exact bestFold f r x
/-- chosen by one worth, told by another that orders alike -/
theorem fwl_alike {f g : Nat → Int} {l : List Nat} (h : ∀ a ∈ l, ∀ b ∈ l, (f a < f b ↔ g a < g b)) : fwl l (l.map f) = fwl l (l.map g) := by
  cases l with
  | nil => rfl
  | cons x r => rw [fwl_argm, fwl_argm, argm_alike r x h]
section
variable {net : Km548.Network} {n : Nat} {pe : Vec} {d : Mat} {mx : List Nat}
theorem groups_lt {k g : Nat} (h : g ∈ groups n k) : g < 2 ^ n := List.mem_range.mp (List.mem_filter.mp h).1
theorem groups_len {k g : Nat} (h : g ∈ groups n k) : (mem n g).length = k := of_decide_eq_true (List.mem_filter.mp h).2
theorem groups_some : ∀ n, n ≤ 7 → ∀ k, k ≤ n → groups n k ≠ [] := by decide +kernel
theorem best_is (T : MRel net n pe d mx) {k : Nat} {obj : Nat → Nat} {f : Nat → Nat} (hk : k ≤ n) (h : ∀ a ∈ groups n k, ∀ b ∈ groups n k, (obj a < obj b ↔ f a < f b)) :
    Km548.bestSet net k obj = some (bestOf n k f, obj (bestOf n k f)) := by
  unfold Km548.bestSet
  rw [T.pc]
  have e : (List.range (2 ^ n)).foldl (fun (best : Option (Nat × Nat)) (set : Nat) =>
      if Km548.setSize set = k then (match best with
        | none => some (set, obj set)
        | some other => if obj set < other.2 then some (set, obj set) else some other) else best) none =
      (groups n k).foldl (fun (best : Option (Nat × Nat)) (s : Nat) => match best with
        | none => some (s, obj s)
        | some other => if obj s < other.2 then some (s, obj s) else some other) none := by
    unfold groups
    rw [← fold_if]
    refine foldl_ext _ _ fun b x hx => ?_
    rw [size_is T.hi (List.mem_range.mp hx)]
    by_cases c : (mem n x).length = k
    · rw [if_pos c, if_pos (decide_eq_true c)]
    · rw [if_neg c, if_neg (by simpa using c)]
  refine e.trans ((bestFold0 obj (groups_some n T.hi k hk)).trans ?_)
  have q : fwl (groups n k) ((groups n k).map fun s => (obj s : Int)) = bestOf n k f := fwl_alike fun a ha b hb => by
    have := h a ha b hb
    omega
  rw [q]
theorem best_in (T : MRel net n pe d mx) {k : Nat} (hk : k ≤ n) (f : Nat → Nat) : bestOf n k f ∈ groups n k := fwl_mem (fun g => (f g : Int)) (groups_some n T.hi k hk)
theorem conn_is (T : MRel net n pe d mx) : Km548.isConnected mx = conn n d := by
  unfold Km548.isConnected
  rw [T.flat]
  have hx : ∀ a b, (999 ≤ cap (d a b)) ↔ ¬ d a b < 1000 := fun a b => cap_far (T.good a b)
  cases h : conn n d with
  | true =>
    rw [List.all_eq_true]
    intro x hx'
    obtain ⟨i, hi, rfl⟩ := List.mem_map.mp hx'
    have hi := List.mem_range.mp hi
    have n0 : 0 < n := T.lo
    have ha : i / n < n := Nat.div_lt_of_lt_mul hi
    have hb : i % n < n := Nat.mod_lt _ n0
    unfold conn at h
    rw [List.all_eq_true] at h
    have h1 := of_decide_eq_true (h (i / n) (List.mem_range.mpr ha))
    rw [maxD_fold] at h1
    have h2 := (le_foldmax ((List.range n).map (d (i / n))) 0).2 _ (List.mem_map.mpr ⟨i % n, List.mem_range.mpr hb, rfl⟩)
    have h3 := hx (i / n) (i % n)
    refine decide_eq_true ?_
    unfold Km548.unreachable
    omega
  | false =>
    cases h0 : ((List.range (n * n)).map fun i => cap (d (i / n) (i % n))).all fun x => decide (x < Km548.unreachable) with
    | false => rfl
    | true =>
      have : conn n d = true := by
        unfold conn
        rw [List.all_eq_true] at h0 ⊢
        intro a ha
        have ha := List.mem_range.mp ha
        refine decide_eq_true ?_
        rw [maxD_fold]
        refine foldmax_lt _ 0 (by omega) fun x hx' => ?_
        obtain ⟨b, hb, rfl⟩ := List.mem_map.mp hx'
        have hb := List.mem_range.mp hb
        have q := of_decide_eq_true (h0 _ (List.mem_map.mpr ⟨a * n + b, List.mem_range.mpr (ix_lt ha hb), rfl⟩))
        rw [ix_div hb, ix_mod hb] at q
        unfold Km548.unreachable at q
        have := hx a b
        omega
      rw [this] at h
      cases h
theorem conn_lt {a b : Nat} (h : conn n d = true) (ha : a < n) (hb : b < n) : d a b < 1000 := by
  unfold conn at h
  rw [List.all_eq_true] at h
  have h1 := of_decide_eq_true (h a (List.mem_range.mpr ha))
  rw [maxD_fold] at h1
  have h2 := (le_foldmax ((List.range n).map (d a)) 0).2 _ (List.mem_map.mpr ⟨b, List.mem_range.mpr hb, rfl⟩)
  omega
theorem sd_conn (h : conn n d = true) {g p : Nat} (hp : p < n) (hg : mem n g ≠ []) : sd n d g p < 1000 := by
  unfold sd
  cases e : mem n g with
  | nil => exact absurd e hg
  | cons x r =>
    have hx : x < n := mem_lt (g := g) (by rw [e]; exact List.mem_cons_self)
    show (r.map (d p)).foldl min (d p x) < 1000
    exact Nat.lt_of_le_of_lt (foldmin_le _ _) (conn_lt h hp hx)
theorem gd_conn (h : conn n d = true) {g : Nat} (hg : mem n g ≠ []) : gd n d pe g < 1000 := gd_lt fun _ hp => sd_conn h (ppl_lt hp) hg
theorem ne_of_len {k g : Nat} (h : g ∈ groups n k) (hk : 1 ≤ k) : mem n g ≠ [] := fun e => by
  have := groups_len h
  rw [e] at this
  simp at this
  omega
theorem or_add : ∀ n, n ≤ 7 → ∀ g, g < 2 ^ n → ∀ p, p < n → g.testBit p = false → g ||| 1 <<< p = g + 2 ^ p := by decide +kernel
theorem or_lt : ∀ n, n ≤ 7 → ∀ g, g < 2 ^ n → ∀ p, p < n → g ||| 1 <<< p < 2 ^ n := by decide +kernel
theorem or_bit : ∀ n, n ≤ 7 → ∀ g, g < 2 ^ n → ∀ p, p < n → ∀ q, q < n → (g ||| 1 <<< p).testBit q = (g.testBit q || decide (q = p)) := by decide +kernel
theorem orAll_mem : ∀ n, n ≤ 7 → ∀ g, g < 2 ^ n → orAll (mem n g) = g := by decide +kernel
theorem mem_full : ∀ n, n ≤ 7 → ∀ g, g < 2 ^ n → (mem n g).length = n → g = 2 ^ n - 1 := by decide +kernel
theorem full_mem : ∀ n, n ≤ 7 → ∀ p, p < n → (2 ^ n - 1).testBit p = true := by decide +kernel
theorem mem_none : ∀ n, n ≤ 7 → ∀ g, g < 2 ^ n → mem n g = [] → g = 0 := by decide +kernel
theorem mem_zero : ∀ n, n ≤ 7 → mem n 0 = [] := by decide +kernel
theorem mem_le : ∀ n, n ≤ 7 → ∀ g, g < 2 ^ n → (mem n g).length ≤ n := by decide +kernel
/-- two members: without one of them another is left -/
theorem mem_two : ∀ n, n ≤ 7 → ∀ g, g < 2 ^ n → 2 ≤ (mem n g).length → ∀ p, p < n → mem n (g - 2 ^ p) ≠ [] ∨ g.testBit p = false := by decide +kernel
end
end Ns

/-! ### 2d. Each operation: the mirror and the specification agree -/
namespace Ns
open Km548 (Network Result)
theorem mrel {net : Network} {m : M} (R : Rel net m) (O : Ok m) : MRel net m.n m.pe m.d (Km548.distances net) :=
  ⟨R.n, fun _ hp => peopleAt_is R hp, O.lo, O.hi, distances_is R O, d_good O, d_sym O, d_self⟩
def Agree (net : Network) (o : Option Network × Result) : Res → Prop
  | .error c => o.1 = some net ∧ o.2.num = c ∧ o.2.nums = []
  | .ok r => (∃ net', o.1 = some net' ∧ Rel net' r.1) ∧ o.2.num :: o.2.nums = r.2
section
variable {net : Network} {m : M}
theorem ag_err {c : Int} : Agree net (some net, Km548.error c) (.error c) := ⟨rfl, rfl, rfl⟩
theorem ag_ask (R : Rel net m) {res : Result} {out : List Int} (h : res.num :: res.nums = out) : Agree net (some net, res) (.ok (m, out)) := ⟨⟨net, rfl, R⟩, h⟩
theorem ag_if {c : Prop} [Decidable c] {c' : Prop} [Decidable c'] (e : c' ↔ ¬ c) {a b : Result} {x y : Res} (h1 : c → Agree net (some net, a) x) (h2 : ¬ c → Agree net (some net, b) y) :
    Agree net (some net, if c then a else b) (if c' then y else x) := by
  by_cases h : c
  · rw [if_pos h, if_neg fun z => (e.mp z) h]
    exact h1 h
  · rw [if_neg h, if_pos (e.mpr h)]
    exact h2 h
theorem ag_ifp {c : Prop} [Decidable c] {c' : Prop} [Decidable c'] (e : c' ↔ ¬ c) {a b : Option Network × Result} {x y : Res} (h1 : c → Agree net a x) (h2 : ¬ c → Agree net b y) :
    Agree net (if c then a else b) (if c' then y else x) := by
  by_cases h : c
  · rw [if_pos h, if_neg fun z => (e.mp z) h]
    exact h1 h
  · rw [if_neg h, if_pos (e.mpr h)]
    exact h2 h
/-- a distance's answer -/
theorem ag_defd (R : Rel net m) {x : Nat} (g : Good x) : Agree net (some net, Km548.distanceResult (cap x)) (defd m x) := by
  unfold Km548.distanceResult defd
  have q := cap_far g
  by_cases h : x < 1000
  · rw [if_neg (by unfold Km548.unreachable; omega), if_pos h, cap_of h g]
    exact ag_ask R rfl
  · rw [if_pos (by unfold Km548.unreachable; omega), if_neg h]
    exact ag_err
theorem toInts_is (l : List Nat) : Km548.toInts l = toI l := rfl
theorem ag_people (R : Rel net m) (p c : Nat) : Agree net (Km548.step (some net) (.setPeople p c)) (dPeople m [p, c]) := by
  show Agree net (if net.placeCount ≤ p then (some net, Km548.error (-2)) else if 99 < c then (some net, Km548.error (-22)) else (some { net with people := net.people.set p c }, Km548.number (Km548.peopleAt net p : Nat))) (if p < m.n then (if c ≤ 99 then .ok ({ m with pe := setV m.pe p c }, [(m.pe p : Int)]) else .error (-22)) else .error (-2))
  have hn := R.n
  refine ag_ifp (by omega) (fun _ => ag_err) fun h => ag_ifp (by omega) (fun _ => ag_err) fun h2 => ?_
  have hp : p < m.n := by omega
  refine ⟨⟨_, rfl, ⟨R.n, ?_, R.g, R.roads⟩⟩, ?_⟩
  · show net.people.set p c = (List.range m.n).map (setV m.pe p c)
    rw [R.pe]
    apply List.ext_getElem?
    intro i
    rw [List.getElem?_set]
    by_cases e : p = i
    · subst e
      rw [if_pos rfl, List.length_map, List.length_range, if_pos hp, List.getElem?_map, List.getElem?_range hp]
      show some c = some (setV m.pe p c p)
      unfold setV
      rw [if_pos rfl]
    · rw [if_neg e, List.getElem?_map, List.getElem?_map]
      by_cases hi : i < m.n
      · rw [List.getElem?_range hi]
        show some (m.pe i) = some (setV m.pe p c i)
        unfold setV
        rw [if_neg fun z => e z.symm]
      · rw [List.getElem?_eq_none (by rw [List.length_range]; omega)]
        rfl
  · show ((Km548.peopleAt net p : Nat) : Int) :: [] = [(m.pe p : Int)]
    rw [peopleAt_is R hp]
theorem withRoad_rel (R : Rel net m) (O : Ok m) {a b v : Nat} (ha : a < m.n) (hb : b < m.n) (hab : a ≠ b) : Rel (Km548.withRoad net a b v) { m with t := setM m.t a b v } := by
  refine ⟨R.n, R.pe, R.g, ?_⟩
  show net.roads.set (Km548.roadIndex net a b) v = (List.range (m.n * m.n)).map fun i => if i / m.n < i % m.n then setM m.t a b v (i / m.n) (i % m.n) else 0
  have h1 : min a b < m.n := by omega
  have h2 : max a b < m.n := by omega
  have hlt := ix_lt h1 h2
  unfold Km548.roadIndex
  rw [R.roads, R.n]
  apply List.ext_getElem?
  intro i
  rw [List.getElem?_set]
  have n0 : 0 < m.n := O.lo
  by_cases e : min a b * m.n + max a b = i
  · subst e
    rw [if_pos rfl, List.length_map, List.length_range, if_pos hlt, List.getElem?_map, List.getElem?_range hlt]
    show some v = some (if (min a b * m.n + max a b) / m.n < (min a b * m.n + max a b) % m.n then setM m.t a b v ((min a b * m.n + max a b) / m.n) ((min a b * m.n + max a b) % m.n) else 0)
    rw [ix_div h2, ix_mod h2, if_pos (by omega)]
    unfold setM
    rw [if_pos (by omega)]
  · rw [if_neg e, List.getElem?_map, List.getElem?_map]
    by_cases hi : i < m.n * m.n
    · rw [List.getElem?_range hi]
      show some (if i / m.n < i % m.n then m.t (i / m.n) (i % m.n) else 0) = some (if i / m.n < i % m.n then setM m.t a b v (i / m.n) (i % m.n) else 0)
      by_cases c : i / m.n < i % m.n
      · rw [if_pos c, if_pos c]
        unfold setM
        rw [if_neg]
        intro z
        apply e
        have di := Nat.div_add_mod i m.n
        rw [Nat.mul_comm] at di
        have q1 : min a b = i / m.n := by omega
        have q2 : max a b = i % m.n := by omega
        rw [q1, q2]
        exact di
      · rw [if_neg c, if_neg c]
    · rw [List.getElem?_eq_none (by rw [List.length_range]; omega)]
      rfl
theorem setM_ok (O : Ok m) {a b v : Nat} (hab : a ≠ b) (hv : v ≤ 50) : Ok { m with t := setM m.t a b v } := by
  refine ⟨O.lo, O.hi, O.g, O.pe, fun x y => ?_, fun x y => ?_, fun x => ?_⟩
  · show setM m.t a b v x y ≤ 50
    unfold setM
    split
    · exact hv
    · exact O.t x y
  · show setM m.t a b v x y = setM m.t a b v y x
    unfold setM
    by_cases c : (x = a ∧ y = b) ∨ (x = b ∧ y = a)
    · rw [if_pos c, if_pos (by omega)]
    · rw [if_neg c, if_neg (by omega), O.sym x y]
  · show setM m.t a b v x x = 0
    unfold setM
    rw [if_neg (by omega)]
    exact O.diag x
theorem ag_road (R : Rel net m) (O : Ok m) (a b v : Nat) : Agree net (Km548.step (some net) (.setRoad a b v)) (dRoad m [a, b, v]) := by
  show Agree net (if net.placeCount ≤ a ∨ net.placeCount ≤ b then (some net, Km548.error (-2)) else if a = b ∨ 50 < v then (some net, Km548.error (-22)) else (some (Km548.withRoad net a b v), Km548.number (Km548.roadTime net a b : Nat))) (if a < m.n ∧ b < m.n then (if a ≠ b ∧ v ≤ 50 then .ok ({ m with t := setM m.t a b v }, [(m.t a b : Int)]) else .error (-22)) else .error (-2))
  have hn := R.n
  refine ag_ifp (by omega) (fun _ => ag_err) fun h => ag_ifp (by omega) (fun _ => ag_err) fun h2 => ?_
  have ha : a < m.n := by omega
  have hb : b < m.n := by omega
  refine ⟨⟨_, rfl, withRoad_rel R O ha hb (by omega)⟩, ?_⟩
  show ((Km548.roadTime net a b : Nat) : Int) :: [] = [(m.t a b : Int)]
  rw [roadTime_is R O ha hb]
theorem ag_store (R : Rel net m) (p c : Nat) : Agree net (Km548.step (some net) (.setStore p c)) (dStore m [p, c]) := by
  show Agree net (if net.placeCount ≤ p then (some net, Km548.error (-2)) else if 1 < c then (some net, Km548.error (-22)) else (some { net with stores := if c = 1 then net.stores ||| (1 <<< p) else if net.stores.testBit p then net.stores - (1 <<< p) else net.stores }, Km548.boolean (net.stores.testBit p)))
    (if p < m.n then (if c ≤ 1 then .ok ({ m with g := if c = 1 then m.g ||| 1 <<< p else if m.g.testBit p then m.g - 2 ^ p else m.g }, [if m.g.testBit p then 1 else 0]) else .error (-22)) else .error (-2))
  have hn := R.n
  refine ag_ifp (by omega) (fun _ => ag_err) fun h => ag_ifp (by omega) (fun _ => ag_err) fun h2 => ?_
  refine ⟨⟨_, rfl, ⟨R.n, R.pe, ?_, R.roads⟩⟩, ?_⟩
  · show (if c = 1 then net.stores ||| (1 <<< p) else if net.stores.testBit p then net.stores - (1 <<< p) else net.stores) = if c = 1 then m.g ||| 1 <<< p else if m.g.testBit p then m.g - 2 ^ p else m.g
    rw [R.g, Nat.one_shiftLeft]
  · rw [R.g]
    rfl
theorem ag_dist (R : Rel net m) (O : Ok m) (a b : Nat) : Agree net (Km548.step (some net) (.distance a b)) (dDist m [a, b]) := by
  have hn := R.n
  refine ag_if (c := net.placeCount ≤ a ∨ net.placeCount ≤ b) (by omega) (fun _ => ag_err) fun h => ?_
  rw [sdist_is (mrel R O) (by omega) (by omega)]
  exact ag_defd R (d_good O a b)
theorem flat_map {α : Type} (n : Nat) (f : Nat → α) : ∀ k, (List.range (k * n)).map f = (List.range k).flatMap fun a => (List.range n).map fun b => f (a * n + b)
  | 0 => by rw [Nat.zero_mul]; rfl
  | k + 1 => by
    rw [Nat.succ_mul, List.range_add, List.map_append, flat_map n f k, List.range_succ, List.flatMap_append, List.map_map]
    congr 1
    show _ = ((List.range n).map fun b => f (k * n + b)) ++ []
    rw [List.append_nil]
    rfl
theorem told_cap {x : Nat} (g : Good x) : (if Km548.unreachable ≤ cap x then (-1 : Int) else (cap x : Int)) = told x := by
  unfold told
  have q := cap_far g
  by_cases h : x < 1000
  · rw [if_neg (by unfold Km548.unreachable; omega), if_pos h, cap_of h g]
  · rw [if_pos (by unfold Km548.unreachable; omega), if_neg h]
theorem flatMap_ext {f g : Nat → List Int} : ∀ (l : List Nat), (∀ x ∈ l, f x = g x) → l.flatMap f = l.flatMap g
  | [], _ => rfl
  | x :: r, h => by
    rw [List.flatMap_cons, List.flatMap_cons, h x List.mem_cons_self, flatMap_ext r fun y hy => h y (List.mem_cons_of_mem _ hy)]
theorem ag_matrix (R : Rel net m) (O : Ok m) : Agree net (Km548.step (some net) .distanceMatrix) (dMatrix m []) := by
  refine ag_ask R ?_
  show (net.placeCount : Int) :: (Km548.distances net).map (fun x => if Km548.unreachable ≤ x then -1 else (x : Int)) = (m.n : Int) :: (List.range m.n).flatMap fun a => (List.range m.n).map fun b => told (m.d a b)
  rw [R.n, distances_is R O, List.map_map, flat_map]
  congr 1
  refine flatMap_ext _ fun a ha => map_ext' fun b hb => ?_
  have hb := List.mem_range.mp hb
  show (if Km548.unreachable ≤ cap (m.d ((a * m.n + b) / m.n) ((a * m.n + b) % m.n)) then (-1 : Int) else (cap (m.d ((a * m.n + b) / m.n) ((a * m.n + b) % m.n)) : Int)) = told (m.d a b)
  rw [ix_div hb, ix_mod hb]
  exact told_cap (d_good O a b)
theorem ag_conn (R : Rel net m) (O : Ok m) : Agree net (Km548.step (some net) .isConnected) (dConn m []) := by
  refine ag_ask R ?_
  show (if Km548.isConnected (Km548.distances net) then (1 : Int) else 0) :: [] = [if conn m.n m.d then 1 else 0]
  rw [conn_is (mrel R O)]
theorem ag_sd (R : Rel net m) (O : Ok m) (p : Nat) : Agree net (Km548.step (some net) (.storeDistance p)) (dSd m [p]) := by
  have hn := R.n
  refine ag_if (c := net.placeCount ≤ p) (by omega) (fun _ => ag_err) fun h => ?_
  rw [sd_is (mrel R O) (by omega), R.g]
  exact ag_defd R (sd_good (mrel R O) _ _)
theorem ag_greatest (R : Rel net m) (O : Ok m) : Agree net (Km548.step (some net) .greatestDistance) (dGreatest m []) := by
  show Agree net (some net, Km548.distanceResult (Km548.greatestDistance net (Km548.distances net) net.stores)) (defd m (gd m.n m.d m.pe m.g))
  rw [gd_is (mrel R O), R.g]
  exact ag_defd R (gd_good (mrel R O) _)
theorem ag_total (R : Rel net m) (O : Ok m) : Agree net (Km548.step (some net) .totalDistance) (dTotal m []) := by
  have T := mrel R O
  have q := cap_far (gd_good T m.g)
  refine ag_if (c := Km548.unreachable ≤ Km548.greatestDistance net (Km548.distances net) net.stores) ?_ (fun _ => ag_err) fun h => ?_
  · rw [gd_is T, R.g]
    unfold Km548.unreachable
    omega
  · rw [gd_is T, R.g] at h
    unfold Km548.unreachable at h
    refine ag_ask R ?_
    show ((Km548.totalDistance net (Km548.distances net) net.stores : Nat) : Int) :: [] = _
    rw [R.g, td_is T (by omega)]
theorem ag_without (R : Rel net m) (O : Ok m) (p : Nat) : Agree net (Km548.step (some net) (.greatestDistanceWithout p)) (dWithout m [p]) := by
  have hn := R.n
  refine ag_if (c := net.placeCount ≤ p) (by omega) (fun _ => ag_err) fun h => ag_if (c := net.stores.testBit p = false) ?_ (fun _ => ag_err) fun h2 => ?_
  · rw [R.g]; cases m.g.testBit p <;> simp
  · rw [gd_is (mrel R O), R.g]
    exact ag_defd R (gd_good (mrel R O) _)
theorem ag_loss (R : Rel net m) (O : Ok m) : Agree net (Km548.step (some net) .greatestAfterLoss) (dLoss m []) := by
  show Agree net (some net, if net.stores = 0 then Km548.error (-6) else Km548.distanceResult (Km548.greatestAfterLoss net (Km548.distances net) net.stores)) (if m.g = 0 then .error (-6) else defd m (loss m.n m.d m.pe m.g))
  rw [R.g]
  by_cases h : m.g = 0
  · rw [if_pos h, if_pos h]
    exact ag_err
  · rw [if_neg h, if_neg h, loss_is (mrel R O) O.g]
    exact ag_defd R (loss_good (mrel R O) _)
theorem ag_with (R : Rel net m) (O : Ok m) (p : Nat) : Agree net (Km548.step (some net) (.greatestDistanceWith p)) (dWith m [p]) := by
  have hn := R.n
  refine ag_if (c := net.placeCount ≤ p) (by omega) (fun _ => ag_err) fun h => ?_
  show Agree net (some net, if net.stores.testBit p then Km548.error (-17) else Km548.distanceResult (Km548.greatestDistance net (Km548.distances net) (net.stores + 2 ^ p))) (if m.g.testBit p then .error (-17) else defd m (gd m.n m.d m.pe (m.g ||| 1 <<< p)))
  rw [R.g]
  cases c : m.g.testBit p with
  | true =>
    rw [if_pos rfl, if_pos rfl]
    exact ag_err
  | false =>
    rw [if_neg (by decide), if_neg (by decide), ← or_add m.n O.hi m.g O.g p (by omega) c, gd_is (mrel R O)]
    exact ag_defd R (gd_good (mrel R O) _)
theorem withRoad_d (R : Rel net m) (O : Ok m) {a b v : Nat} (ha : a < m.n) (hb : b < m.n) (hab : a ≠ b) (hv : v ≤ 50) :
    MRel (Km548.withRoad net a b v) m.n m.pe (distK (setM m.t a b v) m.n) (Km548.distances (Km548.withRoad net a b v)) := mrel (withRoad_rel R O ha hb hab) (setM_ok O hab hv)
theorem ag_withRoad (R : Rel net m) (O : Ok m) (a b v : Nat) : Agree net (Km548.step (some net) (.greatestDistanceWithRoad a b v)) (dWithRoad m [a, b, v]) := by
  have hn := R.n
  refine ag_if (c := net.placeCount ≤ a ∨ net.placeCount ≤ b) (by omega) (fun _ => ag_err) fun h => ag_if (c := a = b ∨ 50 < v) (by omega) (fun _ => ag_err) fun h2 => ?_
  have T := withRoad_d (v := v) R O (a := a) (b := b) (by omega) (by omega) (by omega) (by omega)
  have e : Km548.greatestDistance net (Km548.distances (Km548.withRoad net a b v)) net.stores = Km548.greatestDistance (Km548.withRoad net a b v) (Km548.distances (Km548.withRoad net a b v)) net.stores := rfl
  rw [e, gd_is T, R.g]
  exact ag_defd R (gd_good T _)
theorem ag_within (R : Rel net m) (O : Ok m) (r : Nat) : Agree net (Km548.step (some net) (.placesWithin r)) (dWithin m [r]) := by
  refine ag_ask R ?_
  have T := mrel R O
  have e : (List.range net.placeCount).filter (fun p => decide (Km548.storeDistance net (Km548.distances net) net.stores p ≤ r ∧ Km548.storeDistance net (Km548.distances net) net.stores p < Km548.unreachable)) = within m.n m.d m.g r := by
    unfold within
    rw [R.n]
    refine List.filter_congr fun p hp => ?_
    have hp := List.mem_range.mp hp
    rw [sd_is T hp, R.g]
    have g := sd_good T m.g p
    have q := cap_far g
    unfold Km548.unreachable
    by_cases h : sd m.n m.d m.g p < 1000
    · rw [cap_of h g]
      have g2 := g
      unfold Good at g2
      refine decide_eq_decide.mpr ?_
      omega
    · have q2 := q.mpr h
      refine decide_eq_decide.mpr ⟨fun z => ?_, fun z => ?_⟩
      · omega
      · omega
  show ((((List.range net.placeCount).filter _).length : Nat) : Int) :: Km548.toInts ((List.range net.placeCount).filter _) = listed (within m.n m.d m.g r)
  rw [e]
  rfl
end
end Ns

/-! ### 2e. The nearest store; the people of each store -/
namespace Ns
open Km548 (Network Result)
theorem pair_range (n : Nat) : (List.range n).Pairwise (· < ·) := List.pairwise_lt_range
theorem pair_filter (n : Nat) (p : Nat → Bool) : ((List.range n).filter p).Pairwise (· < ·) := (pair_range n).filter p
/-- of a rising list the first is the least -/
theorem minD_head {x : Nat} {r : List Nat} (h : (x :: r).Pairwise (· < ·)) (d : Nat) : minD (x :: r) d = x := by
  have key : ∀ (r : List Nat), (∀ y ∈ r, x < y) → r.foldl min x = x := by
    intro r
    induction r with
    | nil => intro _; rfl
    | cons y r ih =>
      intro h
      have := h y List.mem_cons_self
      rw [List.foldl_cons, Nat.min_eq_left (by omega)]
      exact ih fun z hz => h z (List.mem_cons_of_mem _ hz)
  exact key r (List.pairwise_cons.mp h).1
theorem foldmin_mem : ∀ (l : List Nat) (a : Nat), l.foldl min a = a ∨ l.foldl min a ∈ l
  | [], _ => .inl rfl
  | y :: r, a => by
    rw [List.foldl_cons]
    rcases foldmin_mem r (min a y) with e | e
    · by_cases c : a ≤ y
      · rw [Nat.min_eq_left c] at e ⊢
        exact .inl e
      · rw [Nat.min_eq_right (by omega)] at e ⊢
        rw [e]
        exact .inr List.mem_cons_self
    · exact .inr (List.mem_cons_of_mem _ e)
section
variable {net : Network} {n : Nat} {pe : Vec} {d : Mat} {mx : List Nat}
theorem sd_at {g p : Nat} (h : sd n d g p ≠ 1000) : ∃ s ∈ mem n g, d p s = sd n d g p := by
  unfold sd at h ⊢
  cases e : mem n g with
  | nil =>
    rw [e] at h
    exact absurd rfl h
  | cons x r =>
    show ∃ s ∈ x :: r, d p s = (r.map (d p)).foldl min (d p x)
    rcases foldmin_mem (r.map (d p)) (d p x) with q | q
    · exact ⟨x, List.mem_cons_self, q.symm⟩
    · obtain ⟨s, hs, q⟩ := List.mem_map.mp q
      exact ⟨s, List.mem_cons_of_mem _ hs, q⟩
/-- the stores at the least distance -/
def nst (n : Nat) (d : Mat) (g p : Nat) : List Nat := (mem n g).filter fun s => decide (d p s = sd n d g p)
theorem near_some {g p : Nat} (h : sd n d g p ≠ 1000) : ∃ x r, nst n d g p = x :: r ∧ near n d g p = (x : Int) ∧ x < n := by
  obtain ⟨s, hs, q⟩ := sd_at h
  have hs' : s ∈ nst n d g p := List.mem_filter.mpr ⟨hs, decide_eq_true q⟩
  have hp : (nst n d g p).Pairwise (· < ·) := (pair_filter n _).filter _
  cases e : nst n d g p with
  | nil => rw [e] at hs'; cases hs'
  | cons x r =>
    rw [e] at hp
    refine ⟨x, r, rfl, ?_, mem_lt (g := g) (List.mem_filter.mp (show x ∈ nst n d g p by rw [e]; exact List.mem_cons_self)).1⟩
    unfold near
    rw [if_neg h]
    show ((minD (nst n d g p) 0 : Nat) : Int) = x
    rw [e, minD_head hp]
theorem near_is (T : MRel net n pe d mx) {p : Nat} (hp : p < n) : Km548.nearestStore net mx p = if sd n d net.stores p = 1000 then none else some (minD (nst n d net.stores p) 0) := by
  unfold Km548.nearestStore
  rw [T.pc]
  have g := sd_good T net.stores p
  have e : (List.range n).filter (fun q => net.stores.testBit q && decide (Km548.distance net mx q p < Km548.unreachable ∧ Km548.distance net mx q p = Km548.storeDistance net mx net.stores p)) =
      if sd n d net.stores p = 1000 then [] else nst n d net.stores p := by
    by_cases c : sd n d net.stores p = 1000
    · rw [if_pos c, List.filter_eq_nil_iff]
      intro q hq
      have hq := List.mem_range.mp hq
      rw [sdist_is T hq hp, sd_is T hp, c]
      unfold Km548.unreachable cap
      simp only [Bool.and_eq_true, decide_eq_true_eq]
      omega
    · rw [if_neg c]
      unfold nst mem
      rw [List.filter_filter]
      refine List.filter_congr fun q hq => ?_
      have hq := List.mem_range.mp hq
      rw [sdist_is T hq hp, sd_is T hp, T.sym q p, Bool.and_comm]
      congr 1
      refine decide_eq_decide.mpr ?_
      have g2 := T.good p q
      unfold Good at g g2
      unfold Km548.unreachable cap
      omega
  rw [← List.head?_filter, e]
  by_cases c : sd n d net.stores p = 1000
  · rw [if_pos c, if_pos c]
    rfl
  · rw [if_neg c, if_neg c]
    obtain ⟨x, r, q, _, _⟩ := near_some c
    have hpw : (nst n d net.stores p).Pairwise (· < ·) := (pair_filter n _).filter _
    rw [q] at hpw ⊢
    rw [minD_head hpw]
    rfl
theorem near_eq (T : MRel net n pe d mx) {p q : Nat} (hp : p < n) : (Km548.nearestStore net mx p = some q) ↔ near n d net.stores p = (q : Int) := by
  rw [near_is T hp]
  by_cases c : sd n d net.stores p = 1000
  · rw [if_pos c]
    unfold near
    rw [if_pos c]
    constructor
    · intro h; cases h
    · intro h; omega
  · rw [if_neg c]
    unfold near
    rw [if_neg c]
    show some (minD (nst n d net.stores p) 0) = some q ↔ ((minD (nst n d net.stores p) 0 : Nat) : Int) = q
    constructor
    · intro h
      rw [Option.some.inj h]
    · intro h
      rw [Int.ofNat.inj h]
end
theorem near_ge {n : Nat} {d : Mat} {g p : Nat} (h : sd n d g p ≠ 1000) : near n d g p = ((minD (nst n d g p) 0 : Nat) : Int) := by
  unfold near
  rw [if_neg h]
  rfl
section
variable {net : Network} {m : M}
theorem ag_near (R : Rel net m) (O : Ok m) (p : Nat) : Agree net (Km548.step (some net) (.nearestStore p)) (dNear m [p]) := by
  have hn := R.n
  refine ag_if (c := net.placeCount ≤ p) (by omega) (fun _ => ag_err) fun h => ?_
  have T := mrel R O
  have hp : p < m.n := by omega
  rw [near_is T hp, R.g]
  by_cases c : sd m.n m.d m.g p = 1000
  · rw [if_pos c, if_pos (by unfold near; rw [if_pos c])]
    exact ag_err
  · rw [if_neg c, near_ge c, if_neg (by omega)]
    exact ag_ask R rfl
theorem sum_if (f : Nat → Bool) (v : Nat → Nat) : ∀ l : List Nat, (l.map fun p => if f p = true then v p else 0).sum = ((l.filter f).map v).sum
  | [] => rfl
  | x :: r => by
    rw [List.map_cons, List.sum_cons, sum_if f v r, List.filter_cons]
    by_cases h : f x = true
    · rw [if_pos h, if_pos h, List.map_cons, List.sum_cons]
    · rw [if_neg h, if_neg h, Nat.zero_add]
theorem ag_pps (R : Rel net m) (O : Ok m) : Agree net (Km548.step (some net) .peoplePerStore) (dPps m []) := by
  have T := mrel R O
  refine ag_ask R ?_
  have hg : net.stores < 2 ^ m.n := by rw [R.g]; exact O.g
  have e : (Km548.members net.stores).map (fun q => Km548.sum ((List.range net.placeCount).map fun p => if Km548.nearestStore net (Km548.distances net) p = some q then Km548.peopleAt net p else 0)) =
      (mem m.n m.g).map fun s => pos m.n m.d m.pe m.g s := by
    rw [members_is O.hi hg, R.g, R.n]
    refine map_ext' fun q _ => ?_
    unfold pos
    rw [ssum, ← sum_if]
    congr 1
    refine map_ext' fun p hp => ?_
    have hp := List.mem_range.mp hp
    rw [T.pa p hp]
    have q1 := near_eq T (q := q) hp
    rw [R.g] at q1
    by_cases c : near m.n m.d m.g p = (q : Int)
    · rw [if_pos (q1.mpr c), if_pos (decide_eq_true c)]
    · rw [if_neg fun z => c (q1.mp z), if_neg (by simpa using c)]
  show (((((Km548.members net.stores).map _).length : Nat) : Int) :: Km548.toInts ((Km548.members net.stores).map _)) = _
  rw [e]
  show (((((mem m.n m.g).map fun s => pos m.n m.d m.pe m.g s).length : Nat) : Int) :: ((mem m.n m.g).map fun s => pos m.n m.d m.pe m.g s).map fun x : Nat => (x : Int)) = ((mem m.n m.g).length : Int) :: (mem m.n m.g).map fun s => ((pos m.n m.d m.pe m.g s : Nat) : Int)
  rw [List.length_map, List.map_map]
  rfl
end
end Ns

/-! ### 2f. Best sets, replaced stores, one store more, the summary -/
namespace Ns
open Km548 (Network Result)
section
variable {net : Network} {n : Nat} {pe : Vec} {d : Mat} {mx : List Nat}
theorem sub_mem (hn : n ≤ 7) {g s : Nat} (h : g < 2 ^ n) (h2 : 2 ≤ (mem n g).length) (hs : s ∈ mem n g) : mem n (g - 2 ^ s) ≠ [] := by
  rcases mem_two n hn g h h2 s (mem_lt hs) with q | q
  · exact q
  · rw [mem_bit hs] at q; cases q
theorem loss_conn (hn : n ≤ 7) (h : conn n d = true) {g : Nat} (hg : g < 2 ^ n) (h2 : 2 ≤ (mem n g).length) : loss n d pe g < 1000 := by
  unfold loss
  rw [maxD_fold]
  refine foldmax_lt _ 0 (by omega) fun x hx => ?_
  obtain ⟨s, hs, rfl⟩ := List.mem_map.mp hx
  exact gd_conn h (sub_mem hn hg h2 hs)
theorem best_gd (T : MRel net n pe d mx) {k : Nat} (hk : k ≤ n) : Km548.bestSet net k (Km548.greatestDistance net mx) = some (bestOf n k (gd n d pe), cap (gd n d pe (bestOf n k (gd n d pe)))) := by
  rw [best_is T hk (f := gd n d pe) fun a _ b _ => by rw [gd_is T, gd_is T]; exact cap_lt (gd_good T a) (gd_good T b), gd_is T]
theorem best_loss (T : MRel net n pe d mx) {k : Nat} (hk : k ≤ n) : Km548.bestSet net k (Km548.greatestAfterLoss net mx) = some (bestOf n k (loss n d pe), cap (loss n d pe (bestOf n k (loss n d pe)))) := by
  rw [best_is T hk (f := loss n d pe) fun a ha b hb => by rw [loss_is T (groups_lt ha), loss_is T (groups_lt hb)]; exact cap_lt (loss_good T a) (loss_good T b), loss_is T (groups_lt (best_in T hk _))]
theorem best_td (T : MRel net n pe d mx) {k : Nat} (hk : k ≤ n) (h1 : 1 ≤ k) (c : conn n d = true) : Km548.bestSet net k (Km548.totalDistance net mx) = some (bestOf n k (td n d pe), td n d pe (bestOf n k (td n d pe))) := by
  have e : ∀ a ∈ groups n k, Km548.totalDistance net mx a = td n d pe a := fun a ha => td_is T (gd_conn c (ne_of_len ha h1))
  rw [best_is T hk (f := td n d pe) fun a ha b hb => by rw [e a ha, e b hb], e _ (best_in T hk _)]
end
section
variable {net : Network} {m : M}
theorem ag_sized (R : Rel net m) (O : Ok m) {lo k : Nat} {b : Option Network × Result} {y : Res} (c : Prop) [Decidable c] (hc : (lo ≤ k ∧ k ≤ m.n) ↔ ¬ c) (h : ¬ c → conn m.n m.d = true → Agree net b y) :
    Agree net (if c then (some net, Km548.error (-22)) else if Km548.isConnected (Km548.distances net) = false then (some net, Km548.error (-33)) else b) (sized m lo k y) := by
  unfold sized
  refine ag_ifp hc (fun _ => ag_err) fun h1 => ?_
  rw [conn_is (mrel R O)]
  refine ag_ifp (by cases conn m.n m.d <;> simp) (fun _ => ag_err) fun h2 => ?_
  exact h h1 (by cases e : conn m.n m.d with
    | true => rfl
    | false => exact absurd e h2)
theorem pair_if {c : Prop} [Decidable c] {s : Option Network} {a b : Result} : (s, if c then a else b) = if c then (s, a) else (s, b) := by
  split <;> rfl
theorem ag_sizedA (R : Rel net m) (O : Ok m) {lo k : Nat} {r : Result} {y : Res} (c : Prop) [Decidable c] (hc : (lo ≤ k ∧ k ≤ m.n) ↔ ¬ c) (h : ¬ c → conn m.n m.d = true → Agree net (some net, r) y) :
    Agree net (some net, if c then Km548.error (-22) else if Km548.isConnected (Km548.distances net) = false then Km548.error (-33) else r) (sized m lo k y) := by
  rw [pair_if, pair_if]
  exact ag_sized R O c hc h
theorem ag_centers (R : Rel net m) (O : Ok m) (k : Nat) : Agree net (Km548.step (some net) (.bestCenters k)) (dCenters m [k]) := by
  have hn := R.n
  have T := mrel R O
  refine ag_sizedA R O (k = 0 ∨ net.placeCount < k) (by omega) fun h c => ?_
  have hk : k ≤ m.n := by omega
  have hm := best_in T hk (gd m.n m.d m.pe)
  rw [best_gd T hk, cap_of (gd_conn c (ne_of_len hm (by omega))) (gd_good T _)]
  refine ag_ask R ?_
  show _ :: Km548.toInts (Km548.members (bestOf m.n k (gd m.n m.d m.pe))) = _
  rw [members_is O.hi (groups_lt hm)]
  rfl
theorem ag_medians (R : Rel net m) (O : Ok m) (k : Nat) : Agree net (Km548.step (some net) (.bestMedians k)) (dMedians m [k]) := by
  have hn := R.n
  have T := mrel R O
  refine ag_sizedA R O (k = 0 ∨ net.placeCount < k) (by omega) fun h c => ?_
  have hk : k ≤ m.n := by omega
  have hm := best_in T hk (td m.n m.d m.pe)
  rw [best_td T hk (by omega) c]
  refine ag_ask R ?_
  show _ :: Km548.toInts (Km548.members (bestOf m.n k (td m.n m.d m.pe))) = _
  rw [members_is O.hi (groups_lt hm)]
  rfl
theorem ag_robust (R : Rel net m) (O : Ok m) (k : Nat) : Agree net (Km548.step (some net) (.bestRobustCenters k)) (dRobust m [k]) := by
  have hn := R.n
  have T := mrel R O
  refine ag_sizedA R O (k < 2 ∨ net.placeCount < k) (by omega) fun h c => ?_
  have hk : k ≤ m.n := by omega
  have hm := best_in T hk (loss m.n m.d m.pe)
  rw [best_loss T hk, cap_of (loss_conn O.hi c (groups_lt hm) (by rw [groups_len hm]; omega)) (loss_good T _)]
  refine ag_ask R ?_
  show _ :: Km548.toInts (Km548.members (bestOf m.n k (loss m.n m.d m.pe))) = _
  rw [members_is O.hi (groups_lt hm)]
  rfl
theorem rel_stores (R : Rel net m) {g : Nat} : Rel { net with stores := g } { m with g := g } := ⟨R.n, R.pe, rfl, R.roads⟩
theorem ag_useC (R : Rel net m) (O : Ok m) (k : Nat) : Agree net (Km548.step (some net) (.useBestCenters k)) (dUseC m [k]) := by
  have hn := R.n
  have T := mrel R O
  refine ag_sized R O (k = 0 ∨ net.placeCount < k) (by omega) fun h c => ?_
  have hk : k ≤ m.n := by omega
  have hm := best_in T hk (gd m.n m.d m.pe)
  rw [best_gd T hk, cap_of (gd_conn c (ne_of_len hm (by omega))) (gd_good T _)]
  refine ⟨⟨_, rfl, ?_⟩, rfl⟩
  have e : orAll (mem m.n (cOf m k)) = cOf m k := orAll_mem m.n O.hi _ (groups_lt hm)
  show Rel _ { m with g := orAll (mem m.n (cOf m k)) }
  rw [e]
  exact rel_stores R
theorem ag_useM (R : Rel net m) (O : Ok m) (k : Nat) : Agree net (Km548.step (some net) (.useBestMedians k)) (dUseM m [k]) := by
  have hn := R.n
  have T := mrel R O
  refine ag_sized R O (k = 0 ∨ net.placeCount < k) (by omega) fun h c => ?_
  have hk : k ≤ m.n := by omega
  have hm := best_in T hk (td m.n m.d m.pe)
  rw [best_td T hk (by omega) c]
  refine ⟨⟨_, rfl, ?_⟩, rfl⟩
  have e : orAll (mem m.n (mOf m k)) = mOf m k := orAll_mem m.n O.hi _ (groups_lt hm)
  show Rel _ { m with g := orAll (mem m.n (mOf m k)) }
  rw [e]
  exact rel_stores R
theorem ag_useR (R : Rel net m) (O : Ok m) (k : Nat) : Agree net (Km548.step (some net) (.useBestRobustCenters k)) (dUseR m [k]) := by
  have hn := R.n
  have T := mrel R O
  refine ag_sized R O (k < 2 ∨ net.placeCount < k) (by omega) fun h c => ?_
  have hk : k ≤ m.n := by omega
  have hm := best_in T hk (loss m.n m.d m.pe)
  rw [best_loss T hk, cap_of (loss_conn O.hi c (groups_lt hm) (by rw [groups_len hm]; omega)) (loss_good T _)]
  refine ⟨⟨_, rfl, ?_⟩, rfl⟩
  have e : orAll (mem m.n (rOf m k)) = rOf m k := orAll_mem m.n O.hi _ (groups_lt hm)
  show Rel _ { m with g := orAll (mem m.n (rOf m k)) }
  rw [e]
  exact rel_stores R
/-- one store more -/
theorem filter_split (p : Nat → Bool) : ∀ l : List Nat, (l.filter p).length + (l.filter fun x => !p x).length = l.length
  | [] => rfl
  | x :: r => by
    have ih := filter_split p r
    rw [List.filter_cons, List.filter_cons]
    cases h : p x with
    | true =>
      rw [if_pos rfl, if_neg (by decide), List.length_cons, List.length_cons]
      omega
    | false =>
      rw [if_neg (by decide), if_pos (by decide), List.length_cons, List.length_cons]
      omega
theorem outs_len (n g : Nat) : (mem n g).length + (outs (List.range n) g).length = n := by
  have h := filter_split (fun p => g.testBit p) (List.range n)
  rw [List.length_range] at h
  exact h
theorem ag_add (R : Rel net m) (O : Ok m) : Agree net (Km548.step (some net) .bestAdditionalStore) (dAdd m []) := by
  have T := mrel R O
  have hl := outs_len m.n m.g
  have ho : (List.range net.placeCount).filter (fun p => !(net.stores.testBit p)) = outs (List.range m.n) m.g := by rw [R.n, R.g]; rfl
  show Agree net (some net, match ((List.range net.placeCount).filter fun p => !(net.stores.testBit p)).foldl
          (fun (best : Option (Nat × Nat)) (p : Nat) => match best with
          | none => some (p, Km548.greatestDistance net (Km548.distances net) (net.stores + 2 ^ p))
          | some other =>
            if Km548.greatestDistance net (Km548.distances net) (net.stores + 2 ^ p) < other.2
            then some (p, Km548.greatestDistance net (Km548.distances net) (net.stores + 2 ^ p)) else some other) none with
        | none => Km548.error (-28)
        | some best => ⟨(best.1 : Int), [if Km548.unreachable ≤ best.2 then -1 else (best.2 : Int)]⟩)
    (if (mem m.n m.g).length < m.n then .ok (m, [(addl m.n m.d m.pe m.g : Int), told (gd m.n m.d m.pe (m.g ||| 1 <<< addl m.n m.d m.pe m.g))]) else .error (-28))
  rw [ho, R.g]
  by_cases h : outs (List.range m.n) m.g = []
  · rw [h] at hl ⊢
    rw [if_neg (by simp at hl; omega)]
    exact ag_err
  · have hp : 0 < (outs (List.range m.n) m.g).length := by
      cases e : outs (List.range m.n) m.g with
      | nil => exact absurd e h
      | cons _ _ => simp
    rw [if_pos (by omega)]
    have hw : ∀ p ∈ outs (List.range m.n) m.g, Km548.greatestDistance net (Km548.distances net) (m.g + 2 ^ p) = cap (gd m.n m.d m.pe (m.g ||| 1 <<< p)) := fun p hp => by
      have q := List.mem_filter.mp hp
      have q1 := List.mem_range.mp q.1
      have q2 : m.g.testBit p = false := by simpa using q.2
      rw [← or_add m.n O.hi m.g O.g p q1 q2, gd_is T]
    have e : fwl (outs (List.range m.n) m.g) ((outs (List.range m.n) m.g).map fun s => ((Km548.greatestDistance net (Km548.distances net) (m.g + 2 ^ s) : Nat) : Int)) = addl m.n m.d m.pe m.g := fwl_alike fun a ha b hb => by
      rw [hw a ha, hw b hb]
      have := cap_lt (gd_good T (m.g ||| 1 <<< a)) (gd_good T (m.g ||| 1 <<< b))
      omega
    have f := bestFold0 (fun p => Km548.greatestDistance net (Km548.distances net) (m.g + 2 ^ p)) h
    rw [e] at f
    have hin : addl m.n m.d m.pe m.g ∈ outs (List.range m.n) m.g := fwl_mem (fun p => (gd m.n m.d m.pe (m.g ||| 1 <<< p) : Int)) h
    refine Eq.mpr (congrArg (fun o : Option (Nat × Nat) => Agree net (some net, match o with
        | none => Km548.error (-28)
        | some best => ⟨(best.1 : Int), [if Km548.unreachable ≤ best.2 then -1 else (best.2 : Int)]⟩) (.ok (m, [(addl m.n m.d m.pe m.g : Int), told (gd m.n m.d m.pe (m.g ||| 1 <<< addl m.n m.d m.pe m.g))]))) f) ?_
    refine ag_ask R ?_
    show ((addl m.n m.d m.pe m.g : Nat) : Int) :: [if Km548.unreachable ≤ Km548.greatestDistance net (Km548.distances net) (m.g + 2 ^ addl m.n m.d m.pe m.g) then (-1 : Int) else ((Km548.greatestDistance net (Km548.distances net) (m.g + 2 ^ addl m.n m.d m.pe m.g) : Nat) : Int)] = _
    rw [hw _ hin, told_cap (gd_good T _)]
/-- the roads: each stands in two rows -/
def sumTo : Nat → (Nat → Nat) → Nat
  | 0, _ => 0
  | k + 1, f => sumTo k f + f k
theorem sum_range (f : Nat → Nat) : ∀ k, ((List.range k).map f).sum = sumTo k f
  | 0 => rfl
  | k + 1 => by
    rw [List.range_succ, List.map_append, List.sum_append, sum_range f k]
    show sumTo k f + (f k + 0) = sumTo k f + f k
    rfl
theorem sumTo_ext {f g : Nat → Nat} : ∀ k, (∀ i, i < k → f i = g i) → sumTo k f = sumTo k g
  | 0, _ => rfl
  | k + 1, h => by
    show sumTo k f + f k = sumTo k g + g k
    rw [sumTo_ext k fun i hi => h i (by omega), h k (by omega)]
theorem sumTo_add (f g : Nat → Nat) : ∀ k, sumTo k (fun i => f i + g i) = sumTo k f + sumTo k g
  | 0 => rfl
  | k + 1 => by
    show sumTo k (fun i => f i + g i) + (f k + g k) = sumTo k f + f k + (sumTo k g + g k)
    rw [sumTo_add f g k]
    omega
theorem sumTo_zero : ∀ k, sumTo k (fun _ => 0) = 0
  | 0 => rfl
  | k + 1 => sumTo_zero k
theorem twice (c : Nat → Nat → Nat) (hs : ∀ a b, c a b = c b a) (h0 : ∀ a, c a a = 0) : ∀ n, sumTo n (fun a => sumTo n (c a)) = 2 * sumTo n fun a => sumTo n fun b => if a < b then c a b else 0
  | 0 => rfl
  | n + 1 => by
    show sumTo n (fun a => sumTo n (c a) + c a n) + (sumTo n (c n) + c n n) = 2 * (sumTo n (fun a => sumTo n (fun b => if a < b then c a b else 0) + if a < n then c a n else 0) + (sumTo n (fun b => if n < b then c n b else 0) + if n < n then c n n else 0))
    rw [sumTo_add, sumTo_add, twice c hs h0 n, h0 n, if_neg (Nat.lt_irrefl n)]
    have e1 : sumTo n (fun a => if a < n then c a n else 0) = sumTo n fun a => c a n := sumTo_ext n fun i hi => if_pos hi
    have e2 : sumTo n (fun b => if n < b then c n b else 0) = 0 := (sumTo_ext n fun i hi => if_neg (by omega)).trans (sumTo_zero n)
    have e3 : sumTo n (c n) = sumTo n fun a => c a n := sumTo_ext n fun i _ => hs n i
    rw [e1, e2, e3]
    omega
theorem len_sum (p : Nat → Bool) : ∀ l : List Nat, (l.filter p).length = (l.map fun x => if p x = true then 1 else 0).sum
  | [] => rfl
  | x :: r => by
    rw [List.filter_cons, List.map_cons, List.sum_cons, ← len_sum p r]
    by_cases h : p x = true
    · rw [if_pos h, if_pos h, List.length_cons]
      omega
    · rw [if_neg h, if_neg h]
      omega
theorem sum_flat {α : Type} (f : α → List Nat) : ∀ l : List α, (l.flatMap f).sum = (l.map fun a => (f a).sum).sum
  | [] => rfl
  | x :: r => by rw [List.flatMap_cons, List.sum_append, sum_flat f r, List.map_cons, List.sum_cons]
theorem filter_map_len (p : Nat → Bool) (f : Nat → Nat) : ∀ l : List Nat, ((l.map f).filter p).length = (l.map fun x => if p (f x) = true then 1 else 0).sum
  | [] => rfl
  | x :: r => by
    rw [List.map_cons, List.filter_cons, List.map_cons, List.sum_cons, ← filter_map_len p f r]
    by_cases h : p (f x) = true
    · rw [if_pos h, if_pos h, List.length_cons]
      omega
    · rw [if_neg h, if_neg h]
      omega
theorem roads_is (R : Rel net m) (O : Ok m) : (net.roads.filter fun time => time != 0).length = roadsN m.n m.t := by
  have tw := twice (fun a b => if 0 < m.t a b then 1 else 0) (fun a b => by show (if 0 < m.t a b then 1 else 0) = if 0 < m.t b a then 1 else 0; rw [O.sym a b]) (fun a => by show (if 0 < m.t a a then 1 else 0) = 0; rw [O.diag a]; rfl) m.n
  have e1 : ((List.range m.n).map fun a => ((List.range m.n).filter fun b => decide (0 < m.t a b)).length).sum = sumTo m.n fun a => sumTo m.n fun b => if 0 < m.t a b then 1 else 0 := by
    rw [sum_range]
    refine sumTo_ext _ fun a _ => ?_
    rw [len_sum, sum_range]
    refine sumTo_ext _ fun b _ => ?_
    by_cases h : 0 < m.t a b
    · rw [if_pos (decide_eq_true h), if_pos h]
    · rw [if_neg (by simpa using h), if_neg h]
  have e2 : (net.roads.filter fun time => time != 0).length = sumTo m.n fun a => sumTo m.n fun b => if a < b then (if 0 < m.t a b then 1 else 0) else 0 := by
    rw [R.roads, filter_map_len, flat_map, sum_flat, sum_range]
    refine sumTo_ext _ fun a ha => ?_
    rw [sum_range]
    refine sumTo_ext _ fun b hb => ?_
    rw [ix_div hb, ix_mod hb]
    by_cases c : a < b
    · rw [if_pos c, if_pos c]
      by_cases h : 0 < m.t a b
      · rw [if_pos h, if_pos (by rw [bne_iff_ne]; omega)]
      · rw [if_neg h, if_neg (by rw [bne_iff_ne]; omega)]
    · rw [if_neg c, if_neg c]
      rfl
  unfold roadsN
  rw [e1, tw, e2]
  omega
theorem ag_summary (R : Rel net m) (O : Ok m) : Agree net (Km548.step (some net) .summary) (dSummary m []) := by
  refine ag_ask R ?_
  show (net.placeCount : Int) :: [((Km548.sum net.people : Nat) : Int), (((net.roads.filter fun time => time != 0).length : Nat) : Int), (net.stores : Int)] = [(m.n : Int), ((((List.range m.n).map m.pe).sum : Nat) : Int), (roadsN m.n m.t : Int), (m.g : Int)]
  rw [roads_is R O, ssum, R.pe, R.n, R.g]
end
end Ns

/-! ### 2g. The smallest cover, the farthest-first set -/
namespace Ns
open Km548 (Network Result)
/-- the first of the least, by search -/
theorem argm_le (f : Nat → Int) : ∀ (r : List Nat) (x : Nat), ∀ z ∈ x :: r, f (argm f x r) ≤ f z
  | [], x, z, h => by
    rcases List.mem_cons.mp h with e | h
    · rw [e]; exact Int.le_refl _
    · cases h
  | y :: r, x, z, h => by
    show f (argm f (if f y < f x then y else x) r) ≤ f z
    have ih := argm_le f r (if f y < f x then y else x)
    have h0 := ih _ List.mem_cons_self
    rcases List.mem_cons.mp h with e | h
    · subst e
      by_cases c : f y < f z
      · rw [if_pos c] at h0 ⊢; omega
      · rw [if_neg c] at h0 ⊢; exact h0
    · rcases List.mem_cons.mp h with e | h
      · subst e
        by_cases c : f z < f x
        · rw [if_pos c] at h0 ⊢; exact h0
        · rw [if_neg c] at h0 ⊢; omega
      · exact ih z (List.mem_cons_of_mem _ h)
theorem argm_find (f : Nat → Int) : ∀ (r : List Nat) (x : Nat), (x :: r).find? (fun z => decide (f z = f (argm f x r))) = some (argm f x r)
  | [], x => by
    show (match decide (f x = f x) with | true => some x | false => none) = some x
    rw [decide_eq_true rfl]
  | y :: r, x => by
    have e : argm f x (y :: r) = argm f (if f y < f x then y else x) r := rfl
    have le := argm_le f r (if f y < f x then y else x) _ List.mem_cons_self
    have ih := argm_find f r (if f y < f x then y else x)
    rw [e]
    by_cases c : f y < f x
    · rw [if_pos c] at le ih ⊢
      rw [List.find?_cons, decide_eq_false (by omega)]
      exact ih
    · rw [if_neg c] at le ih ⊢
      rw [List.find?_cons] at ih ⊢
      by_cases q : f x = f (argm f x r)
      · rw [decide_eq_true q] at ih ⊢
        exact ih
      · rw [decide_eq_false q] at ih ⊢
        rw [List.find?_cons, decide_eq_false (by omega)]
        exact ih
theorem sizeFold (s : Nat → Nat) : ∀ (r : List Nat) (x : Nat),
    r.foldl (fun (best : Option Nat) (set : Nat) => match best with
      | none => some set
      | some other => if s set < s other then some set else some other) (some x) = some (argm (fun z => (s z : Int)) x r)
  | [], _ => rfl
  | z :: r, x => by
    rw [List.foldl_cons]
    show r.foldl _ (if s z < s x then some z else some x) = some (argm _ (if (s z : Int) < (s x : Int) then z else x) r)
    by_cases c : s z < s x
    · rw [if_pos c, if_pos (by omega)]
      exact sizeFold s r z
    · rw [if_neg c, if_neg (by omega)]
      exact sizeFold s r x
section
variable {net : Network} {n : Nat} {pe : Vec} {d : Mat} {mx : List Nat}
theorem cover_is (T : MRel net n pe d mx) (r g : Nat) : Km548.coversAll net mx r g = cover n d pe r g := by
  unfold Km548.coversAll cover
  rw [gd_is T]
  refine decide_eq_decide.mpr ?_
  have q := gd_good T g
  unfold Good at q
  unfold Km548.unreachable cap
  omega
theorem gd_full (T : MRel net n pe d mx) : gd n d pe (2 ^ n - 1) = 0 := by
  unfold gd
  rw [maxD_fold]
  have h : (((ppl n pe).map (sd n d (2 ^ n - 1))).foldl max 0) < 1 := by
    refine foldmax_lt _ 0 (by omega) fun x hx => ?_
    obtain ⟨p, hp, rfl⟩ := List.mem_map.mp hx
    have hp := ppl_lt hp
    have hm : p ∈ mem n (2 ^ n - 1) := mem_of hp (full_mem n T.hi p hp)
    rw [sd_fold T]
    have key : ∀ (l : List Nat) (a : Nat), 0 ∈ l → l.foldl min a = 0 := by
      intro l
      induction l with
      | nil => intro _ h; cases h
      | cons y l ih =>
        intro a h
        rw [List.foldl_cons]
        rcases List.mem_cons.mp h with e | h
        · rw [← e, Nat.min_zero]
          have := foldmin_le l 0
          omega
        · exact ih _ h
    rw [key _ _ (List.mem_map.mpr ⟨p, hm, T.self p⟩)]
    omega
  omega
/-- all covers, in order -/
def allCov (n : Nat) (d : Mat) (pe : Vec) (r : Nat) : List Nat := (List.range (2 ^ n)).filter (cover n d pe r)
theorem full_cov (T : MRel net n pe d mx) (r : Nat) : 2 ^ n - 1 ∈ allCov n d pe r := by
  refine List.mem_filter.mpr ⟨List.mem_range.mpr ?_, ?_⟩
  · have := Nat.two_pow_pos n
    omega
  · unfold cover
    rw [gd_full T]
    exact decide_eq_true (by omega)
theorem covers_of (r k : Nat) : covers n d pe r k = (allCov n d pe r).filter fun g => decide ((mem n g).length = k) := by
  unfold covers groups allCov
  rw [List.filter_filter, List.filter_filter]
  refine List.filter_congr fun g _ => ?_
  rw [Bool.and_comm]
theorem small_is (r : Nat) {y : Nat} (hin : y ∈ allCov n d pe r) (hle : ∀ z ∈ allCov n d pe r, (mem n y).length ≤ (mem n z).length) (hy : (allCov n d pe r).find? (fun z => decide ((mem n z).length = (mem n y).length)) = some y)
    (hfull : (mem n y).length = n → y = 2 ^ n - 1) (hn : (mem n y).length ≤ n) : ∀ c k, c + k = n → k ≤ (mem n y).length → smallFrom n d pe r c k = y
  | 0, k, hc, hk => (hfull (by omega)).symm
  | c + 1, k, hc, hk => by
    show (match covers n d pe r k with
      | [] => smallFrom n d pe r c (k + 1)
      | g :: _ => g) = y
    by_cases e : k = (mem n y).length
    · subst e
      rw [← List.head?_filter, ← covers_of] at hy
      cases q : covers n d pe r (mem n y).length with
      | nil => rw [q] at hy; cases hy
      | cons g _ =>
        rw [q] at hy
        exact Option.some.inj hy
    · have q : covers n d pe r k = [] := by
        rw [covers_of, List.filter_eq_nil_iff]
        intro z hz
        have := hle z hz
        simp only [decide_eq_true_eq]
        omega
      rw [q]
      exact small_is r hin hle hy hfull hn c (k + 1) (by omega) (by omega)
theorem allCov_lt {r g : Nat} (h : g ∈ allCov n d pe r) : g < 2 ^ n := List.mem_range.mp (List.mem_filter.mp h).1
theorem scover_is (T : MRel net n pe d mx) (r : Nat) : Km548.smallestCover net mx r = some (small n d pe r) ∧ small n d pe r < 2 ^ n := by
  unfold Km548.smallestCover
  rw [T.pc]
  have e : (List.range (2 ^ n)).foldl (fun (best : Option Nat) (set : Nat) =>
      if Km548.coversAll net mx r set then (match best with
        | none => some set
        | some other => if Km548.setSize set < Km548.setSize other then some set else some other) else best) none =
      (allCov n d pe r).foldl (fun (best : Option Nat) (set : Nat) => match best with
        | none => some set
        | some other => if Km548.setSize set < Km548.setSize other then some set else some other) none := by
    unfold allCov
    rw [← fold_if]
    refine foldl_ext _ _ fun b x _ => ?_
    rw [cover_is T]
  have hfull := full_cov T r
  cases hl : allCov n d pe r with
  | nil => rw [hl] at hfull; cases hfull
  | cons x l =>
    have hlt : ∀ z ∈ x :: l, z < 2 ^ n := fun z hz => allCov_lt (by rw [hl]; exact hz)
    have hs : ∀ z ∈ x :: l, ((Km548.setSize z : Nat) : Int) = ((mem n z).length : Int) := fun z hz => by rw [size_is T.hi (hlt z hz)]
    have ea : argm (fun z => ((Km548.setSize z : Nat) : Int)) x l = argm (fun z => ((mem n z).length : Int)) x l := argm_alike l x fun a ha b hb => by rw [hs a ha, hs b hb]
    have hm := argm_mem (fun z => ((mem n z).length : Int)) l x
    have hle := argm_le (fun z => ((mem n z).length : Int)) l x
    have hf := argm_find (fun z => ((mem n z).length : Int)) l x
    have hy : small n d pe r = argm (fun z => ((mem n z).length : Int)) x l := by
      unfold small
      refine small_is r (by rw [hl]; exact hm) (by rw [hl]; intro z hz; have := hle z hz; omega) ?_ (mem_full n T.hi _ (hlt _ hm)) (mem_le n T.hi _ (hlt _ hm)) n 0 (by omega) (by omega)
      rw [hl, ← hf]
      congr 1
      funext z
      refine decide_eq_decide.mpr ?_
      omega
    rw [hy]
    refine ⟨e.trans ?_, hlt _ hm⟩
    rw [hl]
    show l.foldl _ (some x) = _
    refine (sizeFold Km548.setSize l x).trans ?_
    rw [ea]
end
section
variable {net : Network} {m : M}
theorem ag_cover (R : Rel net m) (O : Ok m) (r : Nat) : Agree net (Km548.step (some net) (.smallestCover r)) (dCover m [r]) := by
  have T := mrel R O
  obtain ⟨e, hlt⟩ := scover_is T r
  refine ag_ask R ?_
  show (match Km548.smallestCover net (Km548.distances net) r with
        | none => Km548.error (-33)
        | some set => Km548.listResult (Km548.members set)).num :: (match Km548.smallestCover net (Km548.distances net) r with
        | none => Km548.error (-33)
        | some set => Km548.listResult (Km548.members set)).nums = _
  rw [e]
  show ((((Km548.members (small m.n m.d m.pe r)).length : Nat) : Int) :: Km548.toInts (Km548.members (small m.n m.d m.pe r))) = _
  rw [members_is O.hi hlt]
  rfl
end
/-! #### the farthest-first set -/
def ffS (n : Nat) (d : Mat) (ps : List Nat) (g : Nat) : Nat := g ||| 1 <<< far n d ps g
def ffIt (n : Nat) (d : Mat) (ps : List Nat) : Nat → Nat → Nat
  | 0, g => g
  | k + 1, g => ffIt n d ps k (ffS n d ps g)
theorem ffIt_succ (n : Nat) (d : Mat) (ps : List Nat) : ∀ k g, ffIt n d ps (k + 1) g = ffS n d ps (ffIt n d ps k g)
  | 0, _ => rfl
  | k + 1, g => ffIt_succ n d ps k (ffS n d ps g)
theorem ffK_it (n : Nat) (d : Mat) (pe : Vec) : ∀ k, ffK n d pe k = ffIt n d (ppl n pe) k 0
  | 0 => rfl
  | k + 1 => by
    rw [ffIt_succ, ← ffK_it n d pe k]
    unfold ffK
    rw [List.range_succ, List.foldl_append]
    rfl
theorem nodup_drop {p : Nat} : ∀ {l : List Nat}, l.Nodup → p ∈ l → (l.filter fun x => decide (x ≠ p)).length + 1 = l.length
  | [], _, h => by cases h
  | y :: r, hn, h => by
    obtain ⟨h1, h2⟩ := List.nodup_cons.mp hn
    rw [List.filter_cons]
    by_cases e : y = p
    · subst e
      rw [if_neg (by simp)]
      have : r.filter (fun x => decide (x ≠ y)) = r := List.filter_eq_self.mpr fun x hx => decide_eq_true fun z => h1 (z ▸ hx)
      rw [this, List.length_cons]
    · rw [if_pos (decide_eq_true e), List.length_cons, List.length_cons, nodup_drop h2 (by
        rcases List.mem_cons.mp h with q | q
        · exact absurd q.symm e
        · exact q)]
section
variable {net : Network} {n : Nat} {pe : Vec} {d : Mat} {mx : List Nat}
theorem outs_lt {g p : Nat} (h : p ∈ outs (ppl n pe) g) : p < n := ppl_lt (List.mem_filter.mp h).1
theorem far_in {g : Nat} {ps : List Nat} (h : outs ps g ≠ []) : far n d ps g ∈ outs ps g := fwl_mem (fun p => 1000 - (sd n d g p : Int)) h
theorem outs_step (hn : n ≤ 7) {g : Nat} (hg : g < 2 ^ n) (h : outs (ppl n pe) g ≠ []) : (outs (ppl n pe) (ffS n d (ppl n pe) g)).length + 1 = (outs (ppl n pe) g).length := by
  have hp := far_in (n := n) (d := d) h
  have hlt := outs_lt hp
  have e : outs (ppl n pe) (ffS n d (ppl n pe) g) = (outs (ppl n pe) g).filter fun x => decide (x ≠ far n d (ppl n pe) g) := by
    unfold ffS outs
    rw [List.filter_filter]
    refine List.filter_congr fun q hq => ?_
    rw [or_bit n hn g hg _ hlt q (ppl_lt hq)]
    show (!(g.testBit q || decide (q = far n d (ppl n pe) g))) = (decide (q ≠ far n d (ppl n pe) g) && !g.testBit q)
    by_cases c : q = far n d (ppl n pe) g
    · rw [decide_eq_true c, decide_eq_false (by simpa using c)]
      simp
    · rw [decide_eq_false c, decide_eq_true c]
      simp
  rw [e]
  exact nodup_drop (((List.nodup_range).filter _).filter _) hp
theorem ffS_lt (hn : n ≤ 7) {g : Nat} (hg : g < 2 ^ n) (h : outs (ppl n pe) g ≠ []) : ffS n d (ppl n pe) g < 2 ^ n := or_lt n hn g hg _ (outs_lt (far_in h))
/-- the specification's search -/
theorem farFold (f : Nat → Nat) : ∀ (r : List Nat) (x : Nat),
    r.foldl (fun (best : Option Nat) (p : Nat) => match best with
      | none => some p
      | some other => if f other < f p then some p else some other) (some x) = some (argm (fun p => 1000 - (f p : Int)) x r)
  | [], _ => rfl
  | z :: r, x => by
    rw [List.foldl_cons]
    show r.foldl _ (if f x < f z then some z else some x) = some (argm _ (if 1000 - (f z : Int) < 1000 - (f x : Int) then z else x) r)
    by_cases c : f x < f z
    · rw [if_pos c, if_pos (by omega)]
      exact farFold f r z
    · rw [if_neg c, if_neg (by omega)]
      exact farFold f r x
theorem far_is (T : MRel net n pe d mx) (g : Nat) : Km548.farthestPlace net mx g = if outs (ppl n pe) g = [] then none else some (far n d (ppl n pe) g) := by
  unfold Km548.farthestPlace
  rw [T.pc]
  have e : (List.range n).foldl (fun (best : Option Nat) (p : Nat) =>
      if Km548.peopleAt net p = 0 ∨ g.testBit p = true then best else match best with
      | none => some p
      | some other => if Km548.storeDistance net mx g other < Km548.storeDistance net mx g p then some p else some other) none =
      (outs (ppl n pe) g).foldl (fun (best : Option Nat) (p : Nat) => match best with
      | none => some p
      | some other => if Km548.storeDistance net mx g other < Km548.storeDistance net mx g p then some p else some other) none := by
    unfold outs ppl
    rw [List.filter_filter, ← fold_if]
    refine foldl_ext _ _ fun b x hx => ?_
    have hx := List.mem_range.mp hx
    rw [T.pa x hx]
    by_cases c : pe x = 0 ∨ g.testBit x = true
    · rw [if_pos c, if_neg]
      simp only [Bool.and_eq_true, Bool.not_eq_true', decide_eq_true_eq]
      rcases c with c | c
      · omega
      · rw [c]; simp
    · rw [if_neg c, if_pos]
      simp only [Bool.and_eq_true, Bool.not_eq_true', decide_eq_true_eq]
      refine ⟨?_, by omega⟩
      cases q : g.testBit x with
      | true => exact absurd (.inr q) c
      | false => rfl
  refine e.trans ?_
  have hs : ∀ p ∈ outs (ppl n pe) g, Km548.storeDistance net mx g p = cap (sd n d g p) := fun p hp => sd_is T (outs_lt hp)
  unfold far
  cases hl : outs (ppl n pe) g with
  | nil => rfl
  | cons x l =>
    rw [if_neg (by simp), fwl_argm]
    show l.foldl _ (some x) = _
    refine (farFold (Km548.storeDistance net mx g) l x).trans ?_
    rw [argm_alike (g := fun p => 1000 - (sd n d g p : Int)) l x fun a ha b hb => ?_]
    rw [hs a (by rw [hl]; exact ha), hs b (by rw [hl]; exact hb)]
    have := cap_lt (sd_good T g b) (sd_good T g a)
    omega
theorem sff_is (T : MRel net n pe d mx) : ∀ c g, g < 2 ^ n → Km548.farthestFirst net mx c g = ffIt n d (ppl n pe) (min c (outs (ppl n pe) g).length) g ∧ Km548.farthestFirst net mx c g < 2 ^ n
  | 0, g, hg => by
    rw [Nat.zero_min]
    exact ⟨rfl, hg⟩
  | c + 1, g, hg => by
    have u : Km548.farthestFirst net mx (c + 1) g = match Km548.farthestPlace net mx g with
      | none => g
      | some p => Km548.farthestFirst net mx c (g ||| (1 <<< p)) := rfl
    rw [u, far_is T]
    by_cases h : outs (ppl n pe) g = []
    · rw [if_pos h, h, List.length_nil, Nat.min_zero]
      exact ⟨rfl, hg⟩
    · rw [if_neg h]
      have s := outs_step (d := d) T.hi hg h
      obtain ⟨e1, e2⟩ := sff_is T c _ (ffS_lt (d := d) T.hi hg h)
      have e3 : min (c + 1) (outs (ppl n pe) g).length = min c (outs (ppl n pe) (ffS n d (ppl n pe) g)).length + 1 := by omega
      rw [e3]
      exact ⟨e1, e2⟩
theorem ff_is (T : MRel net n pe d mx) (k : Nat) : Km548.farthestFirst net mx k 0 = ff n d pe k ∧ ff n d pe k < 2 ^ n := by
  obtain ⟨e1, e2⟩ := sff_is T k 0 (Nat.two_pow_pos n)
  have e : outs (ppl n pe) 0 = ppl n pe := List.filter_eq_self.mpr fun x _ => by rw [Nat.zero_testBit]; rfl
  rw [e] at e1
  unfold ff
  rw [ffK_it, ← e1]
  exact ⟨rfl, e2⟩
/-- while some place is left, each turn's set is nonempty and small -/
theorem ffIt_lt (hn : n ≤ 7) : ∀ k g, g < 2 ^ n → k ≤ (outs (ppl n pe) g).length → ffIt n d (ppl n pe) k g < 2 ^ n ∧ (outs (ppl n pe) (ffIt n d (ppl n pe) k g)).length + k = (outs (ppl n pe) g).length
  | 0, g, hg, _ => ⟨hg, rfl⟩
  | k + 1, g, hg, hk => by
    have h : outs (ppl n pe) g ≠ [] := fun e => by rw [e] at hk; simp at hk
    have s := outs_step (d := d) hn hg h
    obtain ⟨a, b⟩ := ffIt_lt hn k _ (ffS_lt (d := d) hn hg h) (by omega)
    show ffIt n d (ppl n pe) k (ffS n d (ppl n pe) g) < 2 ^ n ∧ (outs (ppl n pe) (ffIt n d (ppl n pe) k (ffS n d (ppl n pe) g))).length + (k + 1) = _
    exact ⟨a, by omega⟩
theorem ffK_ok (hn : n ≤ 7) {k : Nat} (hk : k < (ppl n pe).length) : ffK n d pe k < 2 ^ n ∧ outs (ppl n pe) (ffK n d pe k) ≠ [] := by
  have e : outs (ppl n pe) 0 = ppl n pe := List.filter_eq_self.mpr fun x _ => by rw [Nat.zero_testBit]; rfl
  obtain ⟨a, b⟩ := ffIt_lt (d := d) hn k 0 (Nat.two_pow_pos n) (by rw [e]; omega)
  rw [e] at b
  rw [ffK_it]
  exact ⟨a, fun z => by rw [z] at b; simp at b; omega⟩
theorem ff_gd (T : MRel net n pe d mx) (c : conn n d = true) {k : Nat} (hk : 1 ≤ k) : gd n d pe (ff n d pe k) < 1000 := by
  by_cases h : ppl n pe = []
  · unfold gd
    rw [h]
    show (0 : Nat) < 1000
    omega
  · have hp : 0 < (ppl n pe).length := by
      cases e : ppl n pe with
      | nil => exact absurd e h
      | cons _ _ => simp
    refine gd_conn c ?_
    unfold ff
    obtain ⟨j, hj⟩ : ∃ j, min k (ppl n pe).length = j + 1 := ⟨min k (ppl n pe).length - 1, by omega⟩
    obtain ⟨a, b⟩ := ffK_ok (d := d) T.hi (pe := pe) (k := j) (by omega)
    rw [hj, ffK_it, ffIt_succ, ← ffK_it]
    have hin := outs_lt (far_in (n := n) (d := d) b)
    have bit := or_bit n T.hi _ a _ hin _ hin
    rw [decide_eq_true rfl, Bool.or_true] at bit
    intro z
    have : far n d (ppl n pe) (ffK n d pe j) ∈ mem n (ffS n d (ppl n pe) (ffK n d pe j)) := mem_of hin bit
    rw [z] at this
    cases this
end
section
variable {net : Network} {m : M}
theorem ag_ff (R : Rel net m) (O : Ok m) (k : Nat) : Agree net (Km548.step (some net) (.farthestFirst k)) (dFf m [k]) := by
  have hn := R.n
  have T := mrel R O
  obtain ⟨e, hlt⟩ := ff_is T k
  refine ag_sizedA R O (k = 0 ∨ net.placeCount < k) (by omega) fun h c => ?_
  refine ag_ask R ?_
  show ((Km548.greatestDistance net (Km548.distances net) (Km548.farthestFirst net (Km548.distances net) k 0) : Nat) : Int) :: Km548.toInts (Km548.members (Km548.farthestFirst net (Km548.distances net) k 0)) = _
  rw [e, members_is O.hi hlt, gd_is T, cap_of (ff_gd T c (by omega)) (gd_good T _)]
  rfl
end
end Ns

/-! ### 2h. Calls, one behind another -/
namespace Ns
open Km548 (Network Result)
/-- both states -/
inductive SRel : Option Network → Option M → Prop where
  | none : SRel none none
  | some {net : Network} {m : M} (R : Rel net m) (O : Ok m) : SRel (some net) (some m)
def OkS : Option M → Prop
  | none => True
  | some m => Ok m
theorem SRel.ok {s : Option Network} {ms : Option M} (h : SRel s ms) : OkS ms := by
  cases h with
  | none => exact True.intro
  | some R O => exact O
theorem fresh_ok {c : Nat} (h : 1 ≤ c ∧ c ≤ 7) : Ok (M.fresh c) :=
  ⟨h.1, h.2, Nat.two_pow_pos c, fun _ => by show 1 ≤ 99; omega, fun _ _ => by show 0 ≤ 50; omega, fun _ _ => rfl, fun _ => rfl⟩
theorem fresh_rel {c : Nat} : Rel ⟨c, List.replicate c 1, List.replicate (c * c) 0, 0⟩ (M.fresh c) := by
  refine ⟨rfl, ?_, rfl, ?_⟩
  · show List.replicate c 1 = (List.range c).map fun _ => 1
    rw [List.map_const', List.length_range]
  · show List.replicate (c * c) 0 = (List.range (c * c)).map fun i => if i / c < i % c then 0 else 0
    have e : ((List.range (c * c)).map fun i => if i / c < i % c then (0 : Nat) else 0) = (List.range (c * c)).map fun _ => 0 := map_ext' fun i _ => by split <;> rfl
    rw [e, List.map_const', List.length_range]
/-- what a deed leaves is well made -/
def RGood (r : Res) : Prop := ∀ x, r = .ok x → Ok x.1
theorem rg_err {c : Int} : RGood (.error c) := fun _ h => by cases h
theorem rg_ok {m : M} {out : List Int} (O : Ok m) : RGood (.ok (m, out)) := fun x h => by
  cases h
  exact O
theorem rg_if {c : Prop} [Decidable c] {a b : Res} (h1 : c → RGood a) (h2 : ¬ c → RGood b) : RGood (if c then a else b) := by
  by_cases h : c
  · rw [if_pos h]; exact h1 h
  · rw [if_neg h]; exact h2 h
theorem rg_defd {m : M} {x : Nat} (O : Ok m) : RGood (defd m x) := rg_if (fun _ => rg_ok O) fun _ => rg_err
theorem ok_g {m : M} (O : Ok m) {g : Nat} (h : g < 2 ^ m.n) : Ok { m with g := g } := ⟨O.lo, O.hi, h, O.pe, O.t, O.sym, O.diag⟩
theorem groups_in {n : Nat} (hn : n ≤ 7) {k : Nat} (hk : k ≤ n) (f : Nat → Nat) : bestOf n k f ∈ groups n k := fwl_mem (fun g => (f g : Int)) (groups_some n hn k hk)
theorem rg_use {m : M} (O : Ok m) {lo k : Nat} {f : Nat → Nat} {out : List Int} : RGood (sized m lo k (.ok ({ m with g := orAll (mem m.n (bestOf m.n k f)) }, out))) :=
  rg_if (fun h => rg_if (fun _ => by
    have hm := groups_lt (groups_in O.hi h.2 f)
    rw [orAll_mem m.n O.hi _ hm]
    exact rg_ok (ok_g O hm)) fun _ => rg_err) fun _ => rg_err
theorem rg_sized {m : M} {lo k : Nat} {r : Res} (h : RGood r) : RGood (sized m lo k r) := rg_if (fun _ => rg_if (fun _ => h) fun _ => rg_err) fun _ => rg_err
theorem rg_place {m : M} {p : Nat} {r : Res} (h : p < m.n → RGood r) : RGood (placeOk m p r) := rg_if h fun _ => rg_err
theorem rg_road {m : M} {a b v : Nat} {r : Res} (h : a ≠ b → v ≤ 50 → RGood r) : RGood (roadOk m a b v r) := rg_if (fun _ => rg_if (fun q => h q.1 q.2) fun _ => rg_err) fun _ => rg_err
theorem deed_ok {m : M} (O : Ok m) (op : Nat) (args : List Nat) : RGood (deed op m args) := by
  unfold deed
  split
  · unfold dPeople; split
    · refine rg_place fun _ => rg_if (fun hc => rg_ok ⟨O.lo, O.hi, O.g, fun q => ?_, O.t, O.sym, O.diag⟩) fun _ => rg_err
      show setV m.pe _ _ q ≤ 99
      unfold setV
      split
      · exact hc
      · exact O.pe q
    · exact rg_err
  · unfold dRoad; split
    · exact rg_road fun h1 h2 => rg_ok (setM_ok O h1 h2)
    · exact rg_err
  · unfold dStore; split
    · refine rg_place fun hp => rg_if (fun _ => rg_ok (ok_g O ?_)) fun _ => rg_err
      split
      · exact or_lt m.n O.hi _ O.g _ hp
      · split
        · exact sub_lt O.g
        · exact O.g
    · exact rg_err
  · unfold dDist; split
    · exact rg_if (fun _ => rg_defd O) fun _ => rg_err
    · exact rg_err
  · unfold dMatrix; split
    · exact rg_ok O
    · exact rg_err
  · unfold dConn; split
    · exact rg_ok O
    · exact rg_err
  · unfold dSd; split
    · exact rg_place fun _ => rg_defd O
    · exact rg_err
  · unfold dNear; split
    · exact rg_place fun _ => rg_if (fun _ => rg_err) fun _ => rg_ok O
    · exact rg_err
  · unfold dGreatest; split
    · exact rg_defd O
    · exact rg_err
  · unfold dTotal; split
    · exact rg_if (fun _ => rg_ok O) fun _ => rg_err
    · exact rg_err
  · unfold dPps; split
    · exact rg_ok O
    · exact rg_err
  · unfold dWithout; split
    · exact rg_place fun _ => rg_if (fun _ => rg_defd O) fun _ => rg_err
    · exact rg_err
  · unfold dLoss; split
    · exact rg_if (fun _ => rg_err) fun _ => rg_defd O
    · exact rg_err
  · unfold dCenters; split
    · exact rg_sized (rg_ok O)
    · exact rg_err
  · unfold dMedians; split
    · exact rg_sized (rg_ok O)
    · exact rg_err
  · unfold dRobust; split
    · exact rg_sized (rg_ok O)
    · exact rg_err
  · unfold dCover; split
    · exact rg_ok O
    · exact rg_err
  · unfold dFf; split
    · exact rg_sized (rg_ok O)
    · exact rg_err
  · unfold dUseC; split
    · exact rg_use O
    · exact rg_err
  · unfold dUseM; split
    · exact rg_use O
    · exact rg_err
  · unfold dUseR; split
    · exact rg_use O
    · exact rg_err
  · unfold dWith; split
    · exact rg_place fun _ => rg_if (fun _ => rg_err) fun _ => rg_defd O
    · exact rg_err
  · unfold dAdd; split
    · exact rg_if (fun _ => rg_ok O) fun _ => rg_err
    · exact rg_err
  · unfold dWithRoad; split
    · exact rg_road fun _ _ => rg_defd O
    · exact rg_err
  · unfold dWithin; split
    · exact rg_ok O
    · exact rg_err
  · unfold dSummary; split
    · exact rg_ok O
    · exact rg_err
  · exact rg_err
/-- one call: the mirror's turn by the call's numbers -/
def turnI (s : Option M) (p : Int) (xs : List Int) : Option M × List Int := turn s p.toNat (xs.map Int.toNat)
def outOf (o : Option Network × Result) : Option Network × List Int := (o.1, o.2.num :: o.2.nums)
def Both (o : Option Network × List Int) (t : Option M × List Int) : Prop := o.2 = t.2 ∧ SRel o.1 t.1
theorem both_deed {net : Network} {m : M} {op : Nat} {args : List Nat} {c : Km548.Call} (R : Rel net m) (O : Ok m) (h0 : op ≠ 0) (h : Agree net (Km548.step (some net) c) (deed op m args)) :
    Both (outOf (Km548.step (some net) c)) (turn (some m) op args) := by
  have g := deed_ok O op args
  unfold turn perform
  rw [if_neg h0]
  show Both _ (match (match deed op m args with
      | .error c => Except.error c
      | .ok r => .ok (some r.1, r.2) : Except Int (Option M × List Int)) with
    | .error c => (some m, [c])
    | .ok r => r)
  cases e : deed op m args with
  | error cc =>
    rw [e] at h
    obtain ⟨h1, h2, h3⟩ := h
    refine ⟨?_, ?_⟩
    · show (Km548.step (some net) c).2.num :: (Km548.step (some net) c).2.nums = [cc]
      rw [h2, h3]
    · show SRel (Km548.step (some net) c).1 (some m)
      rw [h1]
      exact .some R O
  | ok r =>
    rw [e] at h
    obtain ⟨⟨net', h1, h2⟩, h3⟩ := h
    refine ⟨h3, ?_⟩
    show SRel (Km548.step (some net) c).1 (some r.1)
    rw [h1]
    exact .some h2 (g r e)
theorem both_none {op : Nat} {args : List Nat} {o : Option Network × Result} (h0 : op ≠ 0) (h : o = (none, Km548.error (-11))) : Both (outOf o) (turn none op args) := by
  rw [h]
  unfold turn perform
  rw [if_neg h0]
  exact ⟨rfl, .none⟩
theorem both_create {s : Option Network} {ms : Option M} (h : SRel s ms) (c : Nat) : Both (outOf (Km548.step s (.create c))) (turn ms 0 [c]) := by
  show Both (outOf (if c = 0 ∨ Km548.maxPlaces < c then (s, Km548.error (-22)) else (some ⟨c, List.replicate c 1, List.replicate (c * c) 0, 0⟩, Km548.number 0)))
    (match (if 1 ≤ c ∧ c ≤ 7 then .ok (some (M.fresh c), [0]) else .error (-22) : Except Int (Option M × List Int)) with
    | .error c => (ms, [c])
    | .ok r => r)
  unfold Km548.maxPlaces
  by_cases q : 1 ≤ c ∧ c ≤ 7
  · rw [if_pos q, if_neg (by omega)]
    exact ⟨rfl, .some fresh_rel (fresh_ok q)⟩
  · rw [if_neg q, if_pos (by omega)]
    exact ⟨rfl, h⟩
theorem whole_is (c : List (List Int)) : PyKm548.whole c = c := by
  unfold PyKm548.whole
  split <;> rfl
/-- a call that the interface lets be handed in -/
def Fits (p : Int) (xs : List Int) : Prop := PyKm548.shape p = some (xs.length, 0)
theorem len0 {xs : List Int} (h : xs.length = 0) : xs = [] := List.length_eq_zero_iff.mp h
theorem len1 {xs : List Int} (h : xs.length = 1) : ∃ a, xs = [a] := List.length_eq_one_iff.mp h
theorem len2 : ∀ {xs : List Int}, xs.length = 2 → ∃ a b, xs = [a, b]
  | [a, b], _ => ⟨a, b, rfl⟩
theorem len3 : ∀ {xs : List Int}, xs.length = 3 → ∃ a b c, xs = [a, b, c]
  | [a, b, c], _ => ⟨a, b, c, rfl⟩
def ar : List Nat := [1, 2, 3, 2, 2, 0, 0, 1, 1, 0, 0, 0, 1, 0, 1, 1, 1, 1, 1, 1, 1, 1, 1, 0, 3, 1, 0]
theorem shape_is {p : Int} {k j : Nat} (h : PyKm548.shape p = some (k, j)) : j = 0 ∧ ∃ i : Nat, p = (i : Int) ∧ i < 27 ∧ arity.getD i 0 = k := by
  have key : ∀ i : Fin 27, PyKm548.shape ((i.1 : Nat) : Int) = some (arity.getD i.1 0, 0) := by decide
  by_cases hp : 0 ≤ p ∧ p ≤ 26
  · have q := key ⟨p.toNat, by omega⟩
    have e : ((p.toNat : Nat) : Int) = p := by omega
    rw [show (((⟨p.toNat, by omega⟩ : Fin 27).1 : Nat) : Int) = p from e, h] at q
    have q1 := Option.some.inj q
    exact ⟨(Prod.mk.inj q1).2, p.toNat, e.symm, by omega, (Prod.mk.inj q1).1.symm⟩
  · exfalso
    unfold PyKm548.shape at h
    repeat (rw [if_neg (by omega)] at h)
    cases h
theorem step_one {s : Option Network} {ms : Option M} (S : SRel s ms) {p : Int} {xs : List Int} (h : Fits p xs) : Both (Km548Neutral.step s (PyKm548.whole [p :: xs])) (turnI ms p xs) := by
  rw [whole_is]
  obtain ⟨_, i, rfl, hi, hk⟩ := shape_is h
  unfold turnI
  rw [Int.toNat_natCast]
  have c0 : i = 0 ∨ i = 1 ∨ i = 2 ∨ i = 3 ∨ i = 4 ∨ i = 5 ∨ i = 6 ∨ i = 7 ∨ i = 8 ∨ i = 9 ∨ i = 10 ∨ i = 11 ∨ i = 12 ∨ i = 13 ∨ i = 14 ∨ i = 15 ∨ i = 16 ∨ i = 17 ∨ i = 18 ∨ i = 19 ∨ i = 20 ∨ i = 21 ∨ i = 22 ∨ i = 23 ∨ i = 24 ∨ i = 25 ∨ i = 26 := by omega
  rcases c0 with rfl | rfl | rfl | rfl | rfl | rfl | rfl | rfl | rfl | rfl | rfl | rfl | rfl | rfl | rfl | rfl | rfl | rfl | rfl | rfl | rfl | rfl | rfl | rfl | rfl | rfl | rfl
  · obtain ⟨a, rfl⟩ := len1 hk.symm
    exact both_create S a.toNat
  · obtain ⟨a, b, rfl⟩ := len2 hk.symm
    cases S with
    | none => exact both_none (o := Km548.step none (.setPeople a.toNat b.toNat)) (by decide) rfl
    | some R O => exact both_deed R O (by decide) (ag_people R a.toNat b.toNat)
  · obtain ⟨a, b, c, rfl⟩ := len3 hk.symm
    cases S with
    | none => exact both_none (o := Km548.step none (.setRoad a.toNat b.toNat c.toNat)) (by decide) rfl
    | some R O => exact both_deed R O (by decide) (ag_road R O a.toNat b.toNat c.toNat)
  · obtain ⟨a, b, rfl⟩ := len2 hk.symm
    cases S with
    | none => exact both_none (o := Km548.step none (.setStore a.toNat b.toNat)) (by decide) rfl
    | some R O => exact both_deed R O (by decide) (ag_store R a.toNat b.toNat)
  · obtain ⟨a, b, rfl⟩ := len2 hk.symm
    cases S with
    | none => exact both_none (o := Km548.step none (.distance a.toNat b.toNat)) (by decide) rfl
    | some R O => exact both_deed R O (by decide) (ag_dist R O a.toNat b.toNat)
  · obtain rfl := len0 hk.symm
    cases S with
    | none => exact both_none (o := Km548.step none .distanceMatrix) (by decide) rfl
    | some R O => exact both_deed R O (by decide) (ag_matrix R O)
  · obtain rfl := len0 hk.symm
    cases S with
    | none => exact both_none (o := Km548.step none .isConnected) (by decide) rfl
    | some R O => exact both_deed R O (by decide) (ag_conn R O)
  · obtain ⟨a, rfl⟩ := len1 hk.symm
    cases S with
    | none => exact both_none (o := Km548.step none (.storeDistance a.toNat)) (by decide) rfl
    | some R O => exact both_deed R O (by decide) (ag_sd R O a.toNat)
  · obtain ⟨a, rfl⟩ := len1 hk.symm
    cases S with
    | none => exact both_none (o := Km548.step none (.nearestStore a.toNat)) (by decide) rfl
    | some R O => exact both_deed R O (by decide) (ag_near R O a.toNat)
  · obtain rfl := len0 hk.symm
    cases S with
    | none => exact both_none (o := Km548.step none .greatestDistance) (by decide) rfl
    | some R O => exact both_deed R O (by decide) (ag_greatest R O)
  · obtain rfl := len0 hk.symm
    cases S with
    | none => exact both_none (o := Km548.step none .totalDistance) (by decide) rfl
    | some R O => exact both_deed R O (by decide) (ag_total R O)
  · obtain rfl := len0 hk.symm
    cases S with
    | none => exact both_none (o := Km548.step none .peoplePerStore) (by decide) rfl
    | some R O => exact both_deed R O (by decide) (ag_pps R O)
  · obtain ⟨a, rfl⟩ := len1 hk.symm
    cases S with
    | none => exact both_none (o := Km548.step none (.greatestDistanceWithout a.toNat)) (by decide) rfl
    | some R O => exact both_deed R O (by decide) (ag_without R O a.toNat)
  · obtain rfl := len0 hk.symm
    cases S with
    | none => exact both_none (o := Km548.step none .greatestAfterLoss) (by decide) rfl
    | some R O => exact both_deed R O (by decide) (ag_loss R O)
  · obtain ⟨a, rfl⟩ := len1 hk.symm
    cases S with
    | none => exact both_none (o := Km548.step none (.bestCenters a.toNat)) (by decide) rfl
    | some R O => exact both_deed R O (by decide) (ag_centers R O a.toNat)
  · obtain ⟨a, rfl⟩ := len1 hk.symm
    cases S with
    | none => exact both_none (o := Km548.step none (.bestMedians a.toNat)) (by decide) rfl
    | some R O => exact both_deed R O (by decide) (ag_medians R O a.toNat)
  · obtain ⟨a, rfl⟩ := len1 hk.symm
    cases S with
    | none => exact both_none (o := Km548.step none (.bestRobustCenters a.toNat)) (by decide) rfl
    | some R O => exact both_deed R O (by decide) (ag_robust R O a.toNat)
  · obtain ⟨a, rfl⟩ := len1 hk.symm
    cases S with
    | none => exact both_none (o := Km548.step none (.smallestCover a.toNat)) (by decide) rfl
    | some R O => exact both_deed R O (by decide) (ag_cover R O a.toNat)
  · obtain ⟨a, rfl⟩ := len1 hk.symm
    cases S with
    | none => exact both_none (o := Km548.step none (.farthestFirst a.toNat)) (by decide) rfl
    | some R O => exact both_deed R O (by decide) (ag_ff R O a.toNat)
  · obtain ⟨a, rfl⟩ := len1 hk.symm
    cases S with
    | none => exact both_none (o := Km548.step none (.useBestCenters a.toNat)) (by decide) rfl
    | some R O => exact both_deed R O (by decide) (ag_useC R O a.toNat)
  · obtain ⟨a, rfl⟩ := len1 hk.symm
    cases S with
    | none => exact both_none (o := Km548.step none (.useBestMedians a.toNat)) (by decide) rfl
    | some R O => exact both_deed R O (by decide) (ag_useM R O a.toNat)
  · obtain ⟨a, rfl⟩ := len1 hk.symm
    cases S with
    | none => exact both_none (o := Km548.step none (.useBestRobustCenters a.toNat)) (by decide) rfl
    | some R O => exact both_deed R O (by decide) (ag_useR R O a.toNat)
  · obtain ⟨a, rfl⟩ := len1 hk.symm
    cases S with
    | none => exact both_none (o := Km548.step none (.greatestDistanceWith a.toNat)) (by decide) rfl
    | some R O => exact both_deed R O (by decide) (ag_with R O a.toNat)
  · obtain rfl := len0 hk.symm
    cases S with
    | none => exact both_none (o := Km548.step none .bestAdditionalStore) (by decide) rfl
    | some R O => exact both_deed R O (by decide) (ag_add R O)
  · obtain ⟨a, b, c, rfl⟩ := len3 hk.symm
    cases S with
    | none => exact both_none (o := Km548.step none (.greatestDistanceWithRoad a.toNat b.toNat c.toNat)) (by decide) rfl
    | some R O => exact both_deed R O (by decide) (ag_withRoad R O a.toNat b.toNat c.toNat)
  · obtain ⟨a, rfl⟩ := len1 hk.symm
    cases S with
    | none => exact both_none (o := Km548.step none (.placesWithin a.toNat)) (by decide) rfl
    | some R O => exact both_deed R O (by decide) (ag_within R O a.toNat)
  · obtain rfl := len0 hk.symm
    cases S with
    | none => exact both_none (o := Km548.step none .summary) (by decide) rfl
    | some R O => exact both_deed R O (by decide) (ag_summary R O)
/-! #### the flat list -/
/-- one call of the flat list -/
theorem calls_cons {f : Nat} {p : Int} {r : List Int} {cs : List (List (List Int))} (h : PyFlat.calls PyKm548.shape f (p :: r) = some cs) :
    ∃ f' k cs', PyKm548.shape p = some (k, 0) ∧ k ≤ r.length ∧ cs = [p :: r.take k] :: cs' ∧ PyFlat.calls PyKm548.shape f' (r.drop k) = some cs' := by
  cases f with
  | zero => cases h
  | succ f =>
    have u : PyFlat.calls PyKm548.shape (f + 1) (p :: r) = match PyFlat.call PyKm548.shape (p :: r) with
      | none => none
      | some (c, t) => match PyFlat.calls PyKm548.shape f t with
        | none => none
        | some cs => some (c :: cs) := rfl
    rw [u] at h
    have v : PyFlat.call PyKm548.shape (p :: r) = match PyKm548.shape p with
      | none => none
      | some (n, k) => if r.length < n then none else match PyFlat.rows k (r.drop n) with
        | none => none
        | some (xs, t) => some ((p :: r.take n) :: xs, t) := rfl
    rw [v] at h
    cases e : PyKm548.shape p with
    | none => rw [e] at h; cases h
    | some q =>
      obtain ⟨n, k⟩ := q
      obtain ⟨rfl, _⟩ := shape_is e
      rw [e] at h
      dsimp only at h
      by_cases c : r.length < n
      · rw [if_pos c] at h; cases h
      · rw [if_neg c] at h
        have w : PyFlat.rows 0 (r.drop n) = some ([], r.drop n) := rfl
        rw [w] at h
        dsimp only at h
        cases e2 : PyFlat.calls PyKm548.shape f (r.drop n) with
        | none => rw [e2] at h; cases h
        | some cs' =>
          rw [e2] at h
          exact ⟨f, n, cs', rfl, by omega, (Option.some.inj h).symm, e2⟩
theorem calls_nil {f : Nat} {cs : List (List (List Int))} (h : PyFlat.calls PyKm548.shape f [] = some cs) : cs = [] := by
  cases f <;> exact (Option.some.inj h).symm
/-- the mirror, call by call -/
def playM : Option M → List (List (List Int)) → List (List Int)
  | _, [] => []
  | s, c :: r => (match c with
    | (p :: xs) :: _ => (turnI s p xs).2 :: playM (turnI s p xs).1 r
    | _ => [])
theorem play_is : ∀ (f : Nat) (l : List Int) (cs : List (List (List Int))) (s : Option Network) (ms : Option M), PyFlat.calls PyKm548.shape f l = some cs → SRel s ms →
    PyFlat.played Km548Neutral.step s (cs.map PyKm548.whole) = playM ms cs
  | f, [], cs, s, ms, h, _ => by
    rw [calls_nil h]
    rfl
  | f, p :: r, cs, s, ms, h, S => by
    obtain ⟨f', k, cs', h1, h2, rfl, h3⟩ := calls_cons h
    have hF : Fits p (r.take k) := by
      unfold Fits
      rw [List.length_take, Nat.min_eq_left h2]
      exact h1
    obtain ⟨e1, e2⟩ := step_one S hF
    show (Km548Neutral.step s (PyKm548.whole [p :: r.take k])).2 :: PyFlat.played Km548Neutral.step (Km548Neutral.step s (PyKm548.whole [p :: r.take k])).1 (cs'.map PyKm548.whole) =
      (turnI ms p (r.take k)).2 :: playM (turnI ms p (r.take k)).1 cs'
    rw [e1, play_is f' (r.drop k) cs' _ _ h3 e2]
termination_by _ l => l.length
decreasing_by
  simp only [List.length_drop, List.length_cons]
  omega
theorem answers_is {l : List Int} {cs : List (List (List Int))} (h : PyFlat.calls PyKm548.shape l.length l = some cs) : PyKm548.answers l = PyFlat.told (playM none cs) := by
  unfold PyKm548.answers PyKm548.calls
  rw [h]
  exact congrArg PyFlat.told (play_is l.length l cs none none h .none)
/-- each number of a call within its bounds -/
theorem asked_calls {l : List Int} (h : PyKm548.answers_asked l = true) : ∃ cs, PyFlat.calls PyKm548.shape l.length l = some cs := by
  unfold PyKm548.answers_asked at h
  cases e : PyFlat.calls PyKm548.shape l.length l with
  | none => rw [e] at h; cases h
  | some cs => exact ⟨cs, rfl⟩
/-! #### how long an answer is -/
theorem turn_ok {s : Option M} (h : OkS s) (op : Nat) (args : List Nat) : OkS (turn s op args).1 := by
  unfold turn perform
  by_cases c : op = 0
  · rw [if_pos c]
    split
    · rename_i e; exact h
    · rename_i r e
      split at e
      · split at e
        · rename_i q
          cases e
          exact fresh_ok q
        · cases e
      · cases e
  · rw [if_neg c]
    cases s with
    | none => exact True.intro
    | some m =>
      have g := deed_ok (show Ok m from h) op args
      show OkS (match (match deed op m args with
        | .error c => Except.error c
        | .ok r => .ok (some r.1, r.2) : Except Int (Option M × List Int)) with
        | .error c => (some m, [c])
        | .ok r => r).1
      cases e : deed op m args with
      | error _ => exact h
      | ok r => exact g r e
def RLen (r : Res) : Prop := ∀ x, r = .ok x → x.2.length ≤ 50
theorem rl_err {c : Int} : RLen (.error c) := fun _ h => by cases h
theorem rl_ok {m : M} {out : List Int} (h : out.length ≤ 50) : RLen (.ok (m, out)) := fun x e => by
  cases e
  exact h
theorem rl_if {c : Prop} [Decidable c] {a b : Res} (h1 : c → RLen a) (h2 : ¬ c → RLen b) : RLen (if c then a else b) := by
  by_cases h : c
  · rw [if_pos h]; exact h1 h
  · rw [if_neg h]; exact h2 h
theorem rl_defd {m : M} {x : Nat} : RLen (defd m x) := rl_if (fun _ => rl_ok (by show 1 ≤ 50; decide)) fun _ => rl_err
theorem rl_sized {m : M} {lo k : Nat} {r : Res} (h : RLen r) : RLen (sized m lo k r) := rl_if (fun _ => rl_if (fun _ => h) fun _ => rl_err) fun _ => rl_err
theorem rl_place {m : M} {p : Nat} {r : Res} (h : RLen r) : RLen (placeOk m p r) := rl_if (fun _ => h) fun _ => rl_err
theorem rl_road {m : M} {a b v : Nat} {r : Res} (h : RLen r) : RLen (roadOk m a b v r) := rl_if (fun _ => rl_if (fun _ => h) fun _ => rl_err) fun _ => rl_err
theorem mem_short (n g : Nat) : (mem n g).length ≤ n := by
  have h := List.length_filter_le (fun p => g.testBit p) (List.range n)
  rw [List.length_range] at h
  exact h
theorem rl_mem {m m' : M} (O : Ok m) {x : Int} {g : Nat} : RLen (.ok (m', x :: toI (mem m.n g))) := rl_ok (by
  have := mem_short m.n g
  have := O.hi
  unfold toI
  rw [List.length_cons, List.length_map]
  omega)
theorem flat_len (f : Nat → List Int) (k : Nat) (h : ∀ a, (f a).length ≤ k) : ∀ l : List Nat, (l.flatMap f).length ≤ l.length * k
  | [] => by simp
  | x :: r => by
    have := flat_len f k h r
    have := h x
    rw [List.flatMap_cons, List.length_append, List.length_cons, Nat.succ_mul]
    omega
theorem deed_len {m : M} (O : Ok m) (op : Nat) (args : List Nat) : RLen (deed op m args) := by
  have hi := O.hi
  unfold deed
  split
  · unfold dPeople; split
    · exact rl_place (rl_if (fun _ => rl_ok (by show 1 ≤ 50; decide)) fun _ => rl_err)
    · exact rl_err
  · unfold dRoad; split
    · exact rl_road (rl_ok (by show 1 ≤ 50; decide))
    · exact rl_err
  · unfold dStore; split
    · exact rl_place (rl_if (fun _ => rl_ok (by show 1 ≤ 50; decide)) fun _ => rl_err)
    · exact rl_err
  · unfold dDist; split
    · exact rl_if (fun _ => rl_defd) fun _ => rl_err
    · exact rl_err
  · unfold dMatrix; split
    · refine rl_ok ?_
      have h := flat_len (fun a => (List.range m.n).map fun b => told (m.d a b)) m.n (fun a => by rw [List.length_map, List.length_range]; exact Nat.le_refl _) (List.range m.n)
      rw [List.length_range] at h
      have h2 : m.n * m.n ≤ 7 * 7 := Nat.mul_le_mul hi hi
      rw [List.length_cons]
      omega
    · exact rl_err
  · unfold dConn; split
    · exact rl_ok (by show 1 ≤ 50; decide)
    · exact rl_err
  · unfold dSd; split
    · exact rl_place rl_defd
    · exact rl_err
  · unfold dNear; split
    · exact rl_place (rl_if (fun _ => rl_err) fun _ => rl_ok (by show 1 ≤ 50; decide))
    · exact rl_err
  · unfold dGreatest; split
    · exact rl_defd
    · exact rl_err
  · unfold dTotal; split
    · exact rl_if (fun _ => rl_ok (by show 1 ≤ 50; decide)) fun _ => rl_err
    · exact rl_err
  · unfold dPps; split
    · refine rl_ok ?_
      have := mem_short m.n m.g
      rw [List.length_cons, List.length_map]
      omega
    · exact rl_err
  · unfold dWithout; split
    · exact rl_place (rl_if (fun _ => rl_defd) fun _ => rl_err)
    · exact rl_err
  · unfold dLoss; split
    · exact rl_if (fun _ => rl_err) fun _ => rl_defd
    · exact rl_err
  · unfold dCenters; split
    · exact rl_sized (rl_mem O)
    · exact rl_err
  · unfold dMedians; split
    · exact rl_sized (rl_mem O)
    · exact rl_err
  · unfold dRobust; split
    · exact rl_sized (rl_mem O)
    · exact rl_err
  · unfold dCover; split
    · exact rl_mem O
    · exact rl_err
  · unfold dFf; split
    · exact rl_sized (rl_mem O)
    · exact rl_err
  · unfold dUseC; split
    · exact rl_sized (rl_ok (by show 1 ≤ 50; decide))
    · exact rl_err
  · unfold dUseM; split
    · exact rl_sized (rl_ok (by show 1 ≤ 50; decide))
    · exact rl_err
  · unfold dUseR; split
    · exact rl_sized (rl_ok (by show 1 ≤ 50; decide))
    · exact rl_err
  · unfold dWith; split
    · exact rl_place (rl_if (fun _ => rl_err) fun _ => rl_defd)
    · exact rl_err
  · unfold dAdd; split
    · exact rl_if (fun _ => rl_ok (by show 2 ≤ 50; decide)) fun _ => rl_err
    · exact rl_err
  · unfold dWithRoad; split
    · exact rl_road rl_defd
    · exact rl_err
  · unfold dWithin; split
    · refine rl_ok ?_
      unfold listed toI within
      rw [List.length_cons, List.length_map]
      refine Nat.le_trans (Nat.succ_le_succ (List.length_filter_le _ _)) ?_
      rw [List.length_range]
      omega
    · exact rl_err
  · unfold dSummary; split
    · exact rl_ok (by show 4 ≤ 50; decide)
    · exact rl_err
  · exact rl_err
theorem turn_len {s : Option M} (h : OkS s) (op : Nat) (args : List Nat) : (turn s op args).2.length ≤ 50 := by
  unfold turn perform
  by_cases c : op = 0
  · rw [if_pos c]
    split
    · show 1 ≤ 50; decide
    · rename_i r e
      split at e
      · split at e
        · cases e
          show 1 ≤ 50; decide
        · cases e
      · cases e
  · rw [if_neg c]
    cases s with
    | none => show 1 ≤ 50; decide
    | some m =>
      have g := deed_len (show Ok m from h) op args
      show (match (match deed op m args with
        | .error c => Except.error c
        | .ok r => .ok (some r.1, r.2) : Except Int (Option M × List Int)) with
        | .error c => (some m, [c])
        | .ok r => r).2.length ≤ 50
      cases e : deed op m args with
      | error _ => show 1 ≤ 50; decide
      | ok r => exact g r e
end Ns

/-! ### 3a. Rules that the hand layer lacks: min, max with default=; a written dict with int keys; a comprehension of new lists -/
namespace Nw
open PySem PySem.Spec PyProof.Rows L2 Evl
/-! #### min(list, default=d), max(list, default=d) -/
def minI : List Int → Int → Int
  | [], d => d
  | x :: r, _ => r.foldl (fun a y => if y < a then y else a) x
def maxI : List Int → Int → Int
  | [], d => d
  | x :: r, _ => r.foldl (fun a y => if a < y then y else a) x
def rMinD (K : PySem.W.Frag) : List V → List V → Hp → VK → Prop := fun vs zs H Q => ∃ (a : Addr) (ns : List Int) (d : Int), vs = [V.ref a] ∧ zs = [.int d] ∧ SqL K H a (ns.map V.int) ∧ Q (.int (minI ns d)) H
def rMaxD (K : PySem.W.Frag) : List V → List V → Hp → VK → Prop := fun vs zs H Q => ∃ (a : Addr) (ns : List Int) (d : Int), vs = [V.ref a] ∧ zs = [.int d] ∧ SqL K H a (ns.map V.int) ∧ Q (.int (maxI ns d)) H
theorem reads_int {h : Heap} {v : Value} {n : Int} (x : PySem.W.Holds h v n) : ∃ t, v = .int n t := by
  obtain ⟨as, r⟩ := x
  cases r with
  | int n t => exact ⟨t, rfl⟩
theorem one_val {zs : List V} {ws : List Value} {d : Int} (r : Vals zs ws) (e : zs = [.int d]) : ∃ t, ws = [.int d t] := by
  subst e
  cases r with
  | cons a b =>
    cases b
    obtain ⟨t, rfl⟩ := a
    exact ⟨t, rfl⟩
theorem minOf_int (x : Int) (xs : List Int) : PySem.W.minOf x xs = minI (x :: xs) 0 := by
  unfold PySem.W.minOf minI
  congr 1
  funext a y
  show (if decide (y < a) = true then y else a) = if y < a then y else a
  by_cases h : y < a
  · rw [if_pos (decide_eq_true h), if_pos h]
  · rw [if_neg (by simpa using h), if_neg h]
theorem maxOf_int (x : Int) (xs : List Int) : PySem.W.maxOf x xs = maxI (x :: xs) 0 := by
  unfold PySem.W.maxOf maxI
  congr 1
  funext a y
  show (if decide (a < y) = true then y else a) = if a < y then y else a
  by_cases h : a < y
  · rw [if_pos (decide_eq_true h), if_pos h]
  · rw [if_neg (by simpa using h), if_neg h]
section
variable {X : Cx}
theorem cr_minD (hc : X.calm = true) (hu : X.A.units + 64 < cLine) : CallRK X (.builtin "min") [Str.ofString "default"] (rMinD X.K) := by
  intro pins s σ H vs zs us ws Q I r rz h
  obtain ⟨a, ns, d, rfl, ez, hs, q⟩ := h
  obtain ⟨its, rv, hl, _⟩ := I.list hs
  obtain ⟨t, rfl⟩ := one_val rz ez
  rw [Vals.ref1 r]
  have hi := PySem.W.HoldAll.of_ints (h := s.heap) rv.ints
  refine PySem.W.min_list_datum_default (α := Int) (I.ok.hd hc) hl.isList (xs := ns) hi (Nat.lt_of_le_of_lt (by show X.A.units + 1 + 0 ≤ X.A.units + 64; omega) hu) (fun e h' tk hk => ?_) fun y ys i v h' tk e hv hh hk => ?_
  · subst e
    exact ⟨.int d, H, I.kept (t' := tk) hk, ⟨_, rfl⟩, q⟩
  · subst e
    obtain ⟨t2, rfl⟩ := reads_int hh
    rw [minOf_int]
    exact ⟨.int _, H, I.kept (t' := tk) hk, ⟨_, rfl⟩, q⟩
theorem cr_maxD (hc : X.calm = true) (hu : X.A.units + 64 < cLine) : CallRK X (.builtin "max") [Str.ofString "default"] (rMaxD X.K) := by
  intro pins s σ H vs zs us ws Q I r rz h
  obtain ⟨a, ns, d, rfl, ez, hs, q⟩ := h
  obtain ⟨its, rv, hl, _⟩ := I.list hs
  obtain ⟨t, rfl⟩ := one_val rz ez
  rw [Vals.ref1 r]
  have hi := PySem.W.HoldAll.of_ints (h := s.heap) rv.ints
  refine PySem.W.max_list_datum_default (α := Int) (I.ok.hd hc) hl.isList (xs := ns) hi (Nat.lt_of_le_of_lt (by show X.A.units + 1 + 0 ≤ X.A.units + 64; omega) hu) (fun e h' tk hk => ?_) fun y ys i v h' tk e hv hh hk => ?_
  · subst e
    exact ⟨.int d, H, I.kept (t' := tk) hk, ⟨_, rfl⟩, q⟩
  · subst e
    obtain ⟨t2, rfl⟩ := reads_int hh
    rw [maxOf_int]
    exact ⟨.int _, H, I.kept (t' := tk) hk, ⟨_, rfl⟩, q⟩
/-! #### d[k] of a written dict with int keys -/
def keyInt (es : List DictEntry) : Bool := es.all fun e => match e.key with
  | .int i _ => decide (hashInt i = e.hash)
  | _ => false
def KInt (K : PySem.W.Frag) (a : Addr) (i : Int) (v : V) : Prop := ∃ es n u, K.lookup a = some ⟨.type "dict", none, .dict es n, #[]⟩ ∧ keyInt es.toList = true ∧ findBy Value.isInt es i = some u ∧ RelV v u
def rIxKI (K : PySem.W.Frag) : R2 := fun x y H Q => ∃ p i v, x = .ref p ∧ y = .int i ∧ KInt K p i v ∧ Q v H
theorem ix_kint : IxR X (rIxKI X.K) := by
  intro value slice pins s σ H x y v u Q I rx ry h hs
  obtain ⟨p, i, r, rfl, rfl, ⟨es, n, u0, hl, hk, e, ru⟩, q⟩ := h
  obtain rfl : v = Value.ref p := rx
  obtain ⟨t, rfl⟩ := ry
  have hks : PySem.KeysOf (intKind X.prog X.w) es := fun e he => by
    unfold keyInt at hk
    have q := List.all_eq_true.mp hk e (Array.mem_toList_iff.mpr he)
    cases ek : e.key <;> rw [ek] at q <;> first | cases q | exact ⟨_, by simp [intKind, Value.isInt], (of_decide_eq_true q).symm⟩
  have hm : s.heap.MapOf (intKind X.prog X.w) p (fun k => findBy Value.isInt es k) := ⟨_, es, n, I.kIn _ _ hl, ⟨rfl, rfl, rfl⟩, rfl, hks, fun _ => rfl⟩
  exact tail_any hm.typeIs slot_dict_getitem.lookup (wpAny_getItem_of (knd := intKind X.prog X.w) (k := i) (by simp [intKind, Value.isInt]) hm e ⟨r, H, I.tok _, ru, q⟩) hs
end
/-! #### numbers in lists -/
abbrev iV (x : Nat) : V := V.int (x : Int)
abbrev nV (l : List Nat) : List V := l.map iV
theorem nV_int (l : List Nat) : nV l = (l.map fun x : Nat => (x : Int)).map V.int := by rw [List.map_map]; rfl
theorem minI_nat (l : List Nat) (d : Nat) : minI (l.map fun x : Nat => (x : Int)) (d : Int) = ((Ns.minD l d : Nat) : Int) := by
  cases l with
  | nil => rfl
  | cons x r =>
    show (r.map fun x : Nat => (x : Int)).foldl (fun a y => if y < a then y else a) (x : Int) = ((r.foldl min x : Nat) : Int)
    induction r generalizing x with
    | nil => rfl
    | cons y r ih =>
      show (r.map fun x : Nat => (x : Int)).foldl (fun a y => if y < a then y else a) (if (y : Int) < (x : Int) then (y : Int) else (x : Int)) = ((r.foldl min (min x y) : Nat) : Int)
      rw [← ih (min x y)]
      congr 1
      by_cases h : y < x
      · rw [if_pos (by omega), Nat.min_eq_right (by omega)]
      · rw [if_neg (by omega), Nat.min_eq_left (by omega)]
theorem maxI_nat (l : List Nat) (d : Nat) : maxI (l.map fun x : Nat => (x : Int)) (d : Int) = ((Ns.maxD l d : Nat) : Int) := by
  cases l with
  | nil => rfl
  | cons x r =>
    show (r.map fun x : Nat => (x : Int)).foldl (fun a y => if a < y then y else a) (x : Int) = ((r.foldl max x : Nat) : Int)
    induction r generalizing x with
    | nil => rfl
    | cons y r ih =>
      show (r.map fun x : Nat => (x : Int)).foldl (fun a y => if a < y then y else a) (if (x : Int) < (y : Int) then (y : Int) else (x : Int)) = ((r.foldl max (max x y) : Nat) : Int)
      rw [← ih (max x y)]
      congr 1
      by_cases h : x < y
      · rw [if_pos (by omega), Nat.max_eq_right (by omega)]
      · rw [if_neg (by omega), Nat.max_eq_left (by omega)]
theorem nV_at {l : List Nat} {i x : Nat} (h : l[i]? = some x) : atI (nV l) (i : Int) = some (iV x) := atI_nat (by rw [List.getElem?_map, h]; rfl)
theorem list_self (l : List Nat) : (List.range l.length).map (fun i => l.getD i 0) = l := by
  apply List.ext_getElem?
  intro i
  rw [List.getElem?_map]
  by_cases h : i < l.length
  · rw [List.getElem?_range h, List.getElem?_eq_getElem h]
    show some (l.getD i 0) = _
    rw [List.getD_eq_getElem?_getD, List.getElem?_eq_getElem h]
    rfl
  · rw [List.getElem?_eq_none (by simpa using h), List.getElem?_eq_none (by simpa using h)]
    rfl
theorem given_list (l : List Nat) (F : Nat → Bool) (G : Nat → V) : given l.length (fun i => F (l.getD i 0)) (fun i => G (l.getD i 0)) = (l.filter F).map G := by
  have h : ∀ r : List Nat, (r.filter fun i => F (l.getD i 0)).map (fun i => G (l.getD i 0)) = ((r.map fun i => l.getD i 0).filter F).map G := by
    intro r
    induction r with
    | nil => rfl
    | cons x r ih =>
      rw [List.map_cons, List.filter_cons, List.filter_cons]
      by_cases c : F (l.getD x 0) = true
      · rw [if_pos c, if_pos c, List.map_cons, List.map_cons, ih]
      · rw [if_neg c, if_neg c, ih]
  unfold given
  rw [h, list_self]
theorem at_getD {l : List Nat} {i : Nat} {x : V} (h : (nV l)[i]? = some x) : x = iV (l.getD i 0) ∧ l.getD i 0 ∈ l := by
  rw [List.getElem?_map] at h
  cases e : l[i]? with
  | none => rw [e] at h; cases h
  | some y =>
    rw [e] at h
    have q : l.getD i 0 = y := by rw [List.getD_eq_getElem?_getD, e]; rfl
    rw [q]
    exact ⟨(Option.some.inj h).symm, List.mem_of_getElem? e⟩
section
variable {K : PySem.W.Frag} {σ : L2.St} {H H' : Hp} {ta tb tc te tl tk : TE} {t : TT} {j : Nat} {vs : List Nat}
/-! #### comprehensions over numbers -/
theorem el_is {xs ys : List V} (h : EvL te σ H xs) (e : xs = ys) : EvL te σ H ys := by
  rw [← e]
  exact h
theorem el_rng {ta : TA} {n : Nat} (F : Nat → Bool) (G : Nat → V) (h : EvA ta σ H [iV n]) (hn : n ≤ 40000) (hw : ∀ x, wipe ((wipe σ vs).set j (some x)) vs = wipe σ vs)
    (ht : ∀ i, i < n → ∀ H1, Ex H H1 → EvT t ((wipe σ vs).set j (some (iV i))) H1 (F i)) (he : ∀ i, i < n → F i = true → ∀ H1, Ex H H1 → Ev te ((wipe σ vs).set j (some (iV i))) H1 (G i)) :
    EvL (tLc (iRng1 ta) (gName j) t te vs) σ H (((List.range n).filter F).map G) :=
  el_is (el_lcR1 F G h ⟨by omega, by omega⟩ hw (fun i H1 e hi => ht i (by omega) H1 e) fun i H1 e hi hf => he i (by omega) hf H1 e) (by rw [Int.toNat_natCast]; rfl)
theorem el_lcN {a : Addr} {l : List Nat} (F : Nat → Bool) (G : Nat → V) (h : Ev tl σ H (.ref a)) (hx : SqL K H a (nV l)) (hz : l.length ≤ 40000) (hw : ∀ x, wipe ((wipe σ vs).set j (some x)) vs = wipe σ vs)
    (ht : ∀ x ∈ l, ∀ H1, Ex H H1 → EvT t ((wipe σ vs).set j (some (iV x))) H1 (F x)) (he : ∀ x ∈ l, F x = true → ∀ H1, Ex H H1 → Ev te ((wipe σ vs).set j (some (iV x))) H1 (G x)) :
    EvL (tLc (iList K tl) (gName j) t te vs) σ H ((l.filter F).map G) :=
  el_is (el_lcL (fun i => F (l.getD i 0)) (fun i => G (l.getD i 0)) h hx (by rw [List.length_map]; exact hz) hw
    (fun i x H1 e hi => by obtain ⟨rfl, q⟩ := at_getD hi; exact ht _ q H1 e) fun i x H1 e hi hf => by obtain ⟨rfl, q⟩ := at_getD hi; exact he _ q hf H1 e)
    (by rw [List.length_map]; exact given_list l F G)
theorem el_lcNN {l : List Nat} (F : Nat → Bool) (G : Nat → V) (h : EvL tl σ H (nV l)) (hz : l.length ≤ 40000) (hw : ∀ x, wipe ((wipe σ vs).set j (some x)) vs = wipe σ vs)
    (ht : ∀ x ∈ l, ∀ H1, Ex H H1 → EvT t ((wipe σ vs).set j (some (iV x))) H1 (F x)) (he : ∀ x ∈ l, F x = true → ∀ H1, Ex H H1 → Ev te ((wipe σ vs).set j (some (iV x))) H1 (G x)) :
    EvL (tLc (iList K tl) (gName j) t te vs) σ H ((l.filter F).map G) :=
  el_is (el_lcNL (fun i => F (l.getD i 0)) (fun i => G (l.getD i 0)) h (by rw [List.length_map]; exact hz) hw
    (fun i x H1 e hi => by obtain ⟨rfl, q⟩ := at_getD hi; exact ht _ q H1 e) fun i x H1 e hi hf => by obtain ⟨rfl, q⟩ := at_getD hi; exact he _ q hf H1 e)
    (by rw [List.length_map]; exact given_list l F G)
theorem et_yes : EvT tYes σ H true := fun H1 _ _ q => q H1 (Ex.refl H1)
theorem filter_yes {l : List Nat} {G : Nat → V} : (l.filter fun _ => true).map G = l.map G := by rw [List.filter_eq_self.mpr fun _ _ => rfl]
/-! #### a comprehension of new lists -/
def EvLL (te : TE) (σ : L2.St) (H : Hp) (k : Nat) (f : Nat → List V) : Prop := ∀ H1, Ex H H1 → ∀ Q : VK,
  (∀ (p : Addr) (as : Nat → Addr) H2, H1 p = none → Ex H1 H2 → H2 p = some (.lst ((List.range k).map fun i => V.ref (as i))) → (∀ i, i < k → H1 (as i) = none ∧ as i ≠ p ∧ H2 (as i) = some (.lst (f i))) →
    (∀ i i', i < k → i' < k → as i = as i' → i = i') → Q (.ref p) H2) → te σ H1 Q
def Cm (H : Hp) (f : Nat → List V) (Dl : Addr) (i : Nat) (H' : Hp) : Prop := H Dl = none ∧ Ex H H' ∧ ∃ as : Nat → Addr, H' Dl = some (.lst ((List.range i).map fun k => V.ref (as k))) ∧
  (∀ k, k < i → H (as k) = none ∧ as k ≠ Dl ∧ H' (as k) = some (.lst (f k))) ∧ ∀ k k', k < i → k' < i → as k = as k' → k = k'
theorem cm_start {f : Nat → List V} {Dl : Addr} (h : H Dl = none) : Cm H f Dl 0 (upd H Dl (.lst [])) := ⟨h, Ex.new h, fun _ => 0, upd_same, fun k hk => absurd hk (Nat.not_lt_zero _), fun k _ hk => absurd hk (Nat.not_lt_zero _)⟩
theorem cm_turn {f : Nat → List V} {Dl : Addr} {i : Nat} {σ2 : L2.St} (p : Cm H f Dl i H') (hi : i < 50000) (he : EvL te σ2 H (f i)) :
    te σ2 H' fun y H4 => ∃ acc, H4 Dl = some (.lst acc) ∧ acc.length < sizeLine ∧ Cm H f Dl (i + 1) (upd H4 Dl (.lst (acc ++ [y]))) := by
  obtain ⟨p1, p2, as, p3, p4, p5⟩ := p
  refine he H' p2 _ fun q H4 hq e4 h4 => ⟨(List.range i).map fun k => V.ref (as k), e4 Dl _ p3, sz_lt (by rw [List.length_map, List.length_range]; omega), p1, Ex.mut (p2.trans e4) p1, fun k => if k = i then q else as k, ?_, ?_, ?_⟩
  · rw [upd_same, List.range_succ, List.map_append, List.map_cons, List.map_nil]
    congr 2
    congr 1
    · refine List.map_congr_left fun k hk => ?_
      have := List.mem_range.mp hk
      show V.ref (as k) = V.ref (if k = i then q else as k)
      rw [if_neg (by omega)]
    · show [V.ref q] = [V.ref (if i = i then q else as i)]
      rw [if_pos rfl]
  · intro k hk
    have hqD : q ≠ Dl := fun z => by rw [z, p3] at hq; cases hq
    show H (if k = i then q else as k) = none ∧ (if k = i then q else as k) ≠ Dl ∧ upd H4 Dl _ (if k = i then q else as k) = some (.lst (f k))
    by_cases c : k = i
    · rw [if_pos c, upd_ne hqD, c]
      exact ⟨fresh_back p2 hq, hqD, h4⟩
    · rw [if_neg c]
      obtain ⟨a1, a2, a3⟩ := p4 k (by omega)
      rw [upd_ne a2]
      exact ⟨a1, a2, e4 _ _ a3⟩
  · intro k k' hk hk' e
    have nq : ∀ m, m < i → as m ≠ q := fun m hm z => by
      obtain ⟨_, _, a3⟩ := p4 m hm
      rw [z, hq] at a3
      cases a3
    have e' : (if k = i then q else as k) = if k' = i then q else as k' := e
    by_cases c : k = i
    · by_cases c' : k' = i
      · omega
      · rw [if_pos c, if_neg c'] at e'
        exact absurd e'.symm (nq k' (by omega))
    · by_cases c' : k' = i
      · rw [if_neg c, if_pos c'] at e'
        exact absurd e' (nq k (by omega))
      · rw [if_neg c, if_neg c'] at e'
        exact p5 k k' (by omega) (by omega) e'
theorem ell_rng {ta : TA} {n : Nat} (f : Nat → List V) (h : EvA ta σ H [iV n]) (hn : n ≤ 40000) (hw : ∀ x, wipe ((wipe σ vs).set j (some x)) vs = wipe σ vs)
    (he : ∀ i, i < n → ∀ H1, Ex H H1 → EvL te ((wipe σ vs).set j (some (iV i))) H1 (f i)) : EvLL (tLc (iRng1 ta) (gName j) tYes te vs) σ H n f := fun H0 e Q q => h H0 e _ fun H1 e1 => ⟨(n : Int), rfl, by omega, by omega, fun Dl hD =>
  lc_range (lo := 0) (n := (n : Int).toNat) (Cm H1 f Dl) (cm_start hD) (fun i H' hi p => by
    have e0 : (0 : Int) + (i : Int) = (i : Int) := Int.zero_add _
    show wipe ((wipe σ vs).set j (some (.int ((0 : Int) + (i : Int))))) vs = wipe σ vs ∧ te ((wipe σ vs).set j (some (.int ((0 : Int) + (i : Int))))) H' fun y H4 => ∃ acc, H4 Dl = some (.lst acc) ∧ acc.length < sizeLine ∧ Cm H1 f Dl (i + 1) (upd H4 Dl (.lst (acc ++ [y])))
    rw [e0]
    exact ⟨hw _, cm_turn p (by omega) (he i (by omega) H1 (e.trans e1))⟩) (fun H' p => by
      obtain ⟨p1, p2, as, p3, p4, p5⟩ := p
      rw [Int.toNat_natCast] at p3 p4 p5
      exact q Dl as H' (fresh_back e1 p1) (e1.trans p2) p3 (fun i hi => ⟨fresh_back e1 (p4 i hi).1, (p4 i hi).2⟩) p5)⟩
theorem ell_lcL {a : Addr} {xs : List V} (f : Nat → List V) (h : Ev tl σ H (.ref a)) (hx : SqL K H a xs) (hz : xs.length ≤ 40000) (hw : ∀ x, wipe ((wipe σ vs).set j (some x)) vs = wipe σ vs)
    (he : ∀ i x, xs[i]? = some x → ∀ H1, Ex H H1 → EvL te ((wipe σ vs).set j (some x)) H1 (f i)) : EvLL (tLc (iList K tl) (gName j) tYes te vs) σ H xs.length f := fun H0 e Q q => h H0 e _ fun H1 e1 => ⟨a, rfl, ⟨xs, ex_l (e.trans e1) hx⟩, fun Dl hD =>
  lc_list (xs := xs) (Cm H1 f Dl) (cm_start hD) (fun i H' _ p => ex_l ((e.trans e1).trans p.2.1) hx) (fun i x H' hi p => ⟨hw x, cm_turn p (by have := (List.getElem?_eq_some_iff.mp hi).1; omega) (he i x hi H1 (e.trans e1))⟩)
    (fun H' p => by
      obtain ⟨p1, p2, as, p3, p4, p5⟩ := p
      exact q Dl as H' (fresh_back e1 p1) (e1.trans p2) p3 (fun i hi => ⟨fresh_back e1 (p4 i hi).1, (p4 i hi).2⟩) p5)⟩
/-! #### matrices -/
abbrev rV (n : Nat) (v : Nat → Nat) : List V := (List.range n).map fun i => iV (v i)
def Mx (H : Hp) (p : Addr) (n : Nat) (d : Nat → Nat → Nat) : Prop := ∃ as : Nat → Addr, H p = some (.lst ((List.range n).map fun i => V.ref (as i))) ∧ ∀ i, i < n → H (as i) = some (.lst (rV n (d i)))
theorem Mx.mono {p : Addr} {n : Nat} {d : Nat → Nat → Nat} (e : Ex H H') (h : Mx H p n d) : Mx H' p n d := by
  obtain ⟨as, h1, h2⟩ := h
  exact ⟨as, e _ _ h1, fun i hi => e _ _ (h2 i hi)⟩
theorem rV_at {n i : Nat} (v : Nat → Nat) (h : i < n) : atI (rV n v) (i : Int) = some (iV (v i)) := atI_nat (by rw [List.getElem?_map, List.getElem?_range h]; rfl)
theorem rV_nV (n : Nat) (v : Nat → Nat) : rV n v = nV ((List.range n).map v) := by unfold nV rV; rw [List.map_map]; rfl
theorem rV_ext {n : Nat} {v w : Nat → Nat} (h : ∀ i, i < n → v i = w i) : rV n v = rV n w := List.map_congr_left fun i hi => by rw [h i (List.mem_range.mp hi)]
def EvMx (te : TE) (σ : L2.St) (H : Hp) (n : Nat) (d : Nat → Nat → Nat) : Prop := ∀ H1, Ex H H1 → ∀ Q : VK, (∀ p H2, H1 p = none → Ex H1 H2 → Mx H2 p n d → Q (.ref p) H2) → te σ H1 Q
theorem emx_of {n : Nat} {d : Nat → Nat → Nat} (h : EvLL te σ H n fun i => rV n (d i)) : EvMx te σ H n d := fun H1 e Q q => h H1 e Q fun p as H2 hp e2 h2 h3 _ => q p H2 hp e2 ⟨as, h2, fun i hi => (h3 i hi).2.2⟩
theorem ev_at {p : Addr} {n i : Nat} {v : Nat → Nat} (h : H p = some (.lst (rV n v))) (ha : Ev ta σ H (.ref p)) (hb : Ev tb σ H (iV i)) (hi : i < n) : Ev (tOp (rIxL K) ta tb) σ H (iV (v i)) := ev_op ha hb (rv_ixL (sq_of h) (rV_at v hi))
theorem ev_nat {p : Addr} {l : List Nat} {i x : Nat} (h : SqL K H p (nV l)) (ha : Ev ta σ H (.ref p)) (hb : Ev tb σ H (iV i)) (hi : l[i]? = some x) : Ev (tOp (rIxL K) ta tb) σ H (iV x) := ev_op ha hb (rv_ixL h (nV_at hi))
theorem ev_mx {p : Addr} {n a b : Nat} {d : Nat → Nat → Nat} (h : Mx H p n d) (hp : Ev ta σ H (.ref p)) (ha : Ev tb σ H (iV a)) (hb : Ev tc σ H (iV b)) (ia : a < n) (ib : b < n) : Ev (tOp (rIxL K) (tOp (rIxL K) ta tb) tc) σ H (iV (d a b)) := by
  obtain ⟨as, h1, h2⟩ := h
  exact ev_at (h2 a ia) (ev_op hp ha (rv_ixL (sq_of h1) (atI_nat (by rw [List.getElem?_map, List.getElem?_range ia]; rfl)))) hb ib
/-! #### built-ins over new lists of numbers -/
theorem ev_minD {l : List Nat} {d : Nat} (h : EvL te σ H (nV l)) (hk : ∀ H1, Ex H H1 → Ev tk σ H1 (iV d)) : Ev (tCKw (rMinD K) (tCons te tNil) (tCons tk tNil)) σ H (iV (Ns.minD l d)) := fun H1 e Q q =>
  h H1 e _ fun p H2 _ e2 hp => hk H2 (e.trans e2) H2 (Ex.refl H2) _ fun H3 e3 => ⟨p, l.map fun x : Nat => (x : Int), (d : Int), rfl, rfl, by rw [← nV_int]; exact sq_of (e3 p _ hp), by
    have z := q H3 (e2.trans e3)
    rw [minI_nat]
    exact z⟩
theorem ev_maxD {l : List Nat} {d : Nat} (h : EvL te σ H (nV l)) (hk : ∀ H1, Ex H H1 → Ev tk σ H1 (iV d)) : Ev (tCKw (rMaxD K) (tCons te tNil) (tCons tk tNil)) σ H (iV (Ns.maxD l d)) := fun H1 e Q q =>
  h H1 e _ fun p H2 _ e2 hp => hk H2 (e.trans e2) H2 (Ex.refl H2) _ fun H3 e3 => ⟨p, l.map fun x : Nat => (x : Int), (d : Int), rfl, rfl, by rw [← nV_int]; exact sq_of (e3 p _ hp), by
    have z := q H3 (e2.trans e3)
    rw [maxI_nat]
    exact z⟩
theorem sum_nat : ∀ l : List Nat, (l.map fun x : Nat => (x : Int)).sum = ((l.sum : Nat) : Int)
  | [] => rfl
  | x :: r => by
    rw [List.map_cons, List.sum_cons, List.sum_cons, sum_nat r]
    omega
theorem ev_sumN {l : List Nat} (h : EvL te σ H (nV l)) : Ev (tCB (rSum K) (tCons te tNil)) σ H (iV l.sum) := fun H1 e Q q =>
  h H1 e _ fun p H2 _ e2 hp => ⟨p, l.map fun x : Nat => (x : Int), rfl, by rw [← nV_int]; exact sq_of hp, by
    have z := q H2 e2
    rw [sum_nat]
    exact z⟩
theorem ev_sum {p : Addr} {l : List Nat} (ha : Ev ta σ H (.ref p)) (h : SqL K H p (nV l)) : Ev (tCB (rSum K) (tCons ta tNil)) σ H (iV l.sum) := fun H1 e Q q =>
  ha H1 e _ fun H2 e2 => ⟨p, l.map fun x : Nat => (x : Int), rfl, by rw [← nV_int]; exact ex_l (e.trans e2) h, by
    have z := q H2 e2
    rw [sum_nat]
    exact z⟩
theorem ev_all {bs : List Bool} (h : EvL te σ H (bs.map V.bl)) : Ev (tCB (rAll K) (tCons te tNil)) σ H (.bl (bs.all id)) := fun H1 e Q q =>
  h H1 e _ fun p H2 _ e2 hp => ⟨p, bs, rfl, sq_of hp, q H2 e2⟩
theorem foldmax_ge : ∀ (l : List Nat) (a : Nat), a ≤ l.foldl max a ∧ (∀ x ∈ l, x ≤ l.foldl max a) ∧ (l.foldl max a = a ∨ l.foldl max a ∈ l)
  | [], a => ⟨Nat.le_refl _, ⟨fun x hx => by simp at hx, .inl rfl⟩⟩
  | y :: r, a => by
    obtain ⟨h1, h2, h3⟩ := foldmax_ge r (max a y)
    rw [List.foldl_cons]
    refine ⟨by omega, fun x hx => ?_, ?_⟩
    · rcases List.mem_cons.mp hx with e | hx
      · subst e; omega
      · exact h2 x hx
    · rcases h3 with e | e
      · by_cases c : a ≤ y
        · rw [Nat.max_eq_right c] at e ⊢
          rw [e]
          exact .inr List.mem_cons_self
        · rw [Nat.max_eq_left (by omega)] at e ⊢
          exact .inl e
      · exact .inr (List.mem_cons_of_mem _ e)
theorem foldmin_ge : ∀ (l : List Nat) (a : Nat), l.foldl min a ≤ a ∧ (∀ x ∈ l, l.foldl min a ≤ x) ∧ (l.foldl min a = a ∨ l.foldl min a ∈ l)
  | [], a => ⟨Nat.le_refl _, ⟨fun x hx => by simp at hx, .inl rfl⟩⟩
  | y :: r, a => by
    obtain ⟨h1, h2, h3⟩ := foldmin_ge r (min a y)
    rw [List.foldl_cons]
    refine ⟨by omega, fun x hx => ?_, ?_⟩
    · rcases List.mem_cons.mp hx with e | hx
      · subst e; omega
      · exact h2 x hx
    · rcases h3 with e | e
      · by_cases c : y ≤ a
        · rw [Nat.min_eq_right c] at e ⊢
          rw [e]
          exact .inr List.mem_cons_self
        · rw [Nat.min_eq_left (by omega)] at e ⊢
          exact .inl e
      · exact .inr (List.mem_cons_of_mem _ e)
theorem max_one {x : Nat} {r : List Nat} {m : Int} (h1 : m ∈ ((x :: r).map fun x : Nat => (x : Int))) (h2 : ∀ y ∈ ((x :: r).map fun x : Nat => (x : Int)), y ≤ m) : m = ((r.foldl max x : Nat) : Int) := by
  obtain ⟨k, hk, rfl⟩ := List.mem_map.mp h1
  obtain ⟨a, b, c⟩ := foldmax_ge r x
  have h3 : r.foldl max x ∈ x :: r := by
    rcases c with c | c
    · rw [c]; exact List.mem_cons_self
    · exact List.mem_cons_of_mem _ c
  have h4 : ((r.foldl max x : Nat) : Int) ≤ (k : Int) := h2 _ (List.mem_map.mpr ⟨_, h3, rfl⟩)
  have h5 : k ≤ r.foldl max x := by
    rcases List.mem_cons.mp hk with e | hk
    · subst e; exact a
    · exact b k hk
  show (k : Int) = _
  omega
theorem min_one {x : Nat} {r : List Nat} {m : Int} (h1 : m ∈ ((x :: r).map fun x : Nat => (x : Int))) (h2 : ∀ y ∈ ((x :: r).map fun x : Nat => (x : Int)), m ≤ y) : m = ((r.foldl min x : Nat) : Int) := by
  obtain ⟨k, hk, rfl⟩ := List.mem_map.mp h1
  obtain ⟨a, b, c⟩ := foldmin_ge r x
  have h3 : r.foldl min x ∈ x :: r := by
    rcases c with c | c
    · rw [c]; exact List.mem_cons_self
    · exact List.mem_cons_of_mem _ c
  have h4 : (k : Int) ≤ ((r.foldl min x : Nat) : Int) := h2 _ (List.mem_map.mpr ⟨_, h3, rfl⟩)
  have h5 : r.foldl min x ≤ k := by
    rcases List.mem_cons.mp hk with e | hk
    · subst e; exact a
    · exact b k hk
  show (k : Int) = _
  omega
theorem ev_maxN {x : Nat} {r : List Nat} (h : EvL te σ H (nV (x :: r))) : Ev (tCB (rMax K) (tCons te tNil)) σ H (iV (r.foldl max x)) := fun H1 e Q q =>
  h H1 e _ fun p H2 _ e2 hp => ⟨p, (x :: r).map fun x : Nat => (x : Int), rfl, by rw [← nV_int]; exact sq_of hp, by simp, fun m h1 h2 => by
    rw [max_one h1 h2]
    exact q H2 e2⟩
theorem ev_max1 {p : Addr} {x : Nat} {r : List Nat} (ha : Ev ta σ H (.ref p)) (h : SqL K H p (nV (x :: r))) : Ev (tCB (rMax K) (tCons ta tNil)) σ H (iV (r.foldl max x)) := fun H1 e Q q =>
  ha H1 e _ fun H2 e2 => ⟨p, (x :: r).map fun x : Nat => (x : Int), rfl, by rw [← nV_int]; exact ex_l (e.trans e2) h, by simp, fun m h1 h2 => by
    rw [max_one h1 h2]
    exact q H2 e2⟩
theorem ev_minN {x : Nat} {r : List Nat} (h : EvL te σ H (nV (x :: r))) : Ev (tCB (rMin K) (tCons te tNil)) σ H (iV (r.foldl min x)) := fun H1 e Q q =>
  h H1 e _ fun p H2 _ e2 hp => ⟨p, (x :: r).map fun x : Nat => (x : Int), rfl, by rw [← nV_int]; exact sq_of hp, by simp, fun m h1 h2 => by
    rw [min_one h1 h2]
    exact q H2 e2⟩
def rMin2 : List V → Hp → VK → Prop := fun xs H Q => ∃ i j, xs = [.int i, .int j] ∧ Q (.int (if j < i then j else i)) H
theorem ev_min2 {x y : Nat} (ha : Ev ta σ H (iV x)) (hb : Ev tb σ H (iV y)) : Ev (tCB rMin2 (tCons ta (tCons tb tNil))) σ H (iV (min x y)) := fun H1 e Q q =>
  ha H1 e _ fun H2 e2 => hb H2 (e.trans e2) _ fun H3 e3 => ⟨(x : Int), (y : Int), rfl, by
    have z := q H3 (e2.trans e3)
    have eq : (if (y : Int) < (x : Int) then (y : Int) else (x : Int)) = ((min x y : Nat) : Int) := by
      by_cases c : y < x
      · rw [if_pos (by omega), Nat.min_eq_right (by omega)]
      · rw [if_neg (by omega), Nat.min_eq_left (by omega)]
    rw [eq]
    exact z⟩
end
end Nw

/-! ### 3b. The defs of the text; promises -/
namespace Nw
open PySem PySem.Spec PyProof.Rows L2 Evl
open Ns (Vec Mat)
def top (i : Nat) : Stmt := PySem.Challenge.pw_nearstores_s01_answers.main.body.getD i (.Pass ⟨0, 0, 0, 0⟩)
/-- a def of the module under its name -/
structure Df (K : PySem.W.Frag) (mg : Str → Option Value) (x : Str) (st : Stmt) : Prop where
  ex : ∃ (f : Addr) (fd : FuncData), Fun K x x st f fd ∧ mg x = some (.ref f)
/-- a def that may be called by its name and raises nothing -/
structure Cal (P : Program) (w : World) (K : PySem.W.Frag) (mg : Str → Option Value) (base : Heap) (k : Nat) (x : Str) (sp : Sp) : Prop where
  ex : ∃ (f : Addr) (fd : FuncData) (ps : List Str), FnOk P w K mg base CX0 k f fd ps sp ∧ mg x = some (.ref f) ∧ PySem.W.keepIn K (.ref f) = true ∧ Binds K fd ps []
/-- .. that may raise -/
structure CalX (P : Program) (w : World) (K : PySem.W.Frag) (mg : Str → Option Value) (base : Heap) (k : Nat) (x : Str) (sp : Sp) : Prop where
  ex : ∃ (f : Addr) (fd : FuncData) (ps : List Str), FnOk P w K mg base (L2.CX P w) k f fd ps sp ∧ mg x = some (.ref f) ∧ PySem.W.keepIn K (.ref f) = true ∧ Binds K fd ps []
section
variable {P : Program} {w : World} {K : PySem.W.Frag} {mg : Str → Option Value} {base : Heap}
abbrev BindsBy (x : Str) (st : Stmt) (ps : List Str) : Prop := ∀ (kV doc pm : Value) (an : Option Addr) (cdv ct : Value) (us : List Value), us.length = ps.length → bindArgs (PySem.W.fnOf x x (defArgs st) (defBody st) (defScope st) .none kV doc pm an cdv ct) ⟨us, []⟩ = pure (ps.zip us)
theorem cal_of {x : Str} {st : Stmt} {N ps : List Str} {k : Nat} {sp : Sp} (d : Df K mg x st) (S : FnScope N ps (defScope st)) (b : BindsBy x st ps) (len : ∀ vs H Q E, sp vs H Q E → vs.length = ps.length)
    (hbody : ∀ (f : Addr) (cdv : Value) (A : Around) (outer : List Env) (s : Shared) (H : Hp) (vs : List V) (Q : VK) (E : XK), Room k (A.deeper (envOfC x (defScope st) s.heap.objs.size f cdv)) → sp vs H Q E →
      ∃ t, PSs (cxOf CX0 P w K mg base N x (defScope st) f cdv A outer s H E).nox (defBody st) t ∧ t { nx := fun _ H' => Q .non H', rt := Q } (start N vs) H) : Cal P w K mg base (k + 1) x sp := by
  obtain ⟨f, fd, F, hm⟩ := d.ex
  exact ⟨f, fd, ps, F.ok S len fun cdv A outer s H vs Q E hr h => hbody f cdv A outer s H vs Q E hr h, hm, F.kp, F.binds b⟩
theorem calX_of {x : Str} {st : Stmt} {N ps : List Str} {k : Nat} {sp : Sp} (d : Df K mg x st) (S : FnScope N ps (defScope st)) (b : BindsBy x st ps) (len : ∀ vs H Q E, sp vs H Q E → vs.length = ps.length)
    (hbody : ∀ (f : Addr) (cdv : Value) (A : Around) (outer : List Env) (s : Shared) (H : Hp) (vs : List V) (Q : VK) (E : XK), Room k (A.deeper (envOfC x (defScope st) s.heap.objs.size f cdv)) → sp vs H Q E →
      ∃ t, PSs (cxOf (L2.CX P w) P w K mg base N x (defScope st) f cdv A outer s H E) (defBody st) t ∧ t { nx := fun _ H' => Q .non H', rt := Q } (start N vs) H) : CalX P w K mg base (k + 1) x sp := by
  obtain ⟨f, fd, F, hm⟩ := d.ex
  exact ⟨f, fd, ps, F.okX S len fun cdv A outer s H vs Q E hr h => hbody f cdv A outer s H vs Q E hr h, hm, F.kp, F.binds b⟩
end
section
variable {X : Cx} {k j : Nat} {x : Str} {sp : Sp} {p pos : Pos} {e : Expr} {es : List Expr} {t : TA} {E : XK}
theorem pe_cl (c : Cal X.prog X.w X.K X.mg X.base k x sp) (hr : Room j X.A) (hk : k ≤ j) (ha : PA X (e :: es) t) (hg : Gl X x := by rfl)
    (hdb : (x == ("__debug__" : Str)) = false := by decide) (he : starEach (e :: es) X.env = (false, eval e X.env) :: starEach es X.env := by rfl) (hpl : (backTo pos (starEach es X.env)).any (·.1) = false := by rfl) :
    PE X (.Call (.Name x p) (e :: es) [] pos) (tCall sp [] E0 t) := by
  obtain ⟨f, fd, ps, F, hm, kp, b⟩ := c.ex
  exact pe_call F (hr.mono hk) hg hm kp b .nil pass0 ha hdb he hpl
/-- within a def that may raise, outside of a try -/
theorem pe_clX (c : CalX X.prog X.w X.K X.mg X.base k x sp) (hr : Room j X.A) (hk : k ≤ j) (tk : Takes X (fun cls d _ H => E cls d H)) (ha : PA X (e :: es) t) (hg : Gl X x := by rfl)
    (hdb : (x == ("__debug__" : Str)) = false := by decide) (he : starEach (e :: es) X.env = (false, eval e X.env) :: starEach es X.env := by rfl) (hpl : (backTo pos (starEach es X.env)).any (·.1) = false := by rfl) :
    PE X (.Call (.Name x p) (e :: es) [] pos) (tCall sp [] E t) := by
  obtain ⟨f, fd, ps, F, hm, kp, b⟩ := c.ex
  exact pe_call F (hr.mono hk) hg hm kp b .nil (passes_call tk fun _ _ _ _ h => h) ha hdb he hpl
end
/-! #### promises that read and make, and change nothing -/
/-- a value | a new list | a new matrix -/
def spV (pre : List V → Hp → V → Prop) : Sp := fun vs H Q _ => ∃ z, pre vs H z ∧ ∀ H', Ex H H' → Q z H'
def spL (pre : List V → Hp → List V → Prop) : Sp := fun vs H Q _ => ∃ xs, pre vs H xs ∧ ∀ p H', H p = none → Ex H H' → H' p = some (.lst xs) → Q (.ref p) H'
def spM (pre : List V → Hp → Nat → Mat → Prop) : Sp := fun vs H Q _ => ∃ n d, pre vs H n d ∧ ∀ p H', H p = none → Ex H H' → Mx H' p n d → Q (.ref p) H'
/-- a new matrix whose rows are new, too -/
def spMF (pre : List V → Hp → Nat → Mat → Prop) : Sp := fun vs H Q _ => ∃ n d, pre vs H n d ∧ ∀ p (as : Nat → Addr) H', H p = none → Ex H H' → H' p = some (.lst ((List.range n).map fun i => V.ref (as i))) → (∀ i, i < n → H (as i) = none ∧ H' (as i) = some (.lst (rV n (d i)))) → Q (.ref p) H'
def EvMF (te : TE) (σ : L2.St) (H : Hp) (n : Nat) (d : Mat) : Prop := ∀ H1, Ex H H1 → ∀ Q : VK, (∀ p (as : Nat → Addr) H2, H1 p = none → Ex H1 H2 → H2 p = some (.lst ((List.range n).map fun i => V.ref (as i))) → (∀ i, i < n → H1 (as i) = none ∧ H2 (as i) = some (.lst (rV n (d i)))) → Q (.ref p) H2) → te σ H1 Q
theorem emf_of {te : TE} {σ : L2.St} {H : Hp} {n : Nat} {d : Mat} (h : EvLL te σ H n fun i => rV n (d i)) : EvMF te σ H n d := fun H1 e Q q => h H1 e Q fun p as H2 hp e2 h2 h3 _ => q p as H2 hp e2 h2 fun i hi => ⟨(h3 i hi).1, (h3 i hi).2.2⟩
theorem EvMF.mx {te : TE} {σ : L2.St} {H : Hp} {n : Nat} {d : Mat} (h : EvMF te σ H n d) : EvMx te σ H n d := fun H1 e Q q => h H1 e Q fun p as H2 hp e2 h2 h3 => q p H2 hp e2 ⟨as, h2, fun i hi => (h3 i hi).2⟩
section
variable {K : PySem.W.Frag} {σ : L2.St} {H : Hp} {ta : TA} {vs : List V} {E : XK}
theorem emf_cv {pre : List V → Hp → Nat → Mat → Prop} {n : Nat} {d : Mat} (h : EvA ta σ H vs) (hp : ∀ H1, Ex H H1 → pre vs H1 n d) : EvMF (tCall (spMF pre) [] E ta) σ H n d := fun H1 e Q q =>
  h H1 e _ fun H2 e2 => ⟨n, d, by rw [List.append_nil]; exact hp H2 (e.trans e2), fun p as H3 hn e3 h3 h4 => q p as H3 (fresh_back e2 hn) (e2.trans e3) h3 fun i hi => ⟨fresh_back e2 (h4 i hi).1, (h4 i hi).2⟩⟩
theorem ev_cv {pre : List V → Hp → V → Prop} {z : V} (h : EvA ta σ H vs) (hp : ∀ H1, Ex H H1 → pre vs H1 z) : Ev (tCall (spV pre) [] E ta) σ H z := fun H1 e Q q =>
  h H1 e _ fun H2 e2 => ⟨z, by rw [List.append_nil]; exact hp H2 (e.trans e2), fun H3 e3 => q H3 (e2.trans e3)⟩
theorem el_cv {pre : List V → Hp → List V → Prop} {xs : List V} (h : EvA ta σ H vs) (hp : ∀ H1, Ex H H1 → pre vs H1 xs) : EvL (tCall (spL pre) [] E ta) σ H xs := fun H1 e Q q =>
  h H1 e _ fun H2 e2 => ⟨xs, by rw [List.append_nil]; exact hp H2 (e.trans e2), fun p H3 hn e3 h3 => q p H3 (fresh_back e2 hn) (e2.trans e3) h3⟩
theorem em_cv {pre : List V → Hp → Nat → Mat → Prop} {n : Nat} {d : Mat} (h : EvA ta σ H vs) (hp : ∀ H1, Ex H H1 → pre vs H1 n d) : EvMx (tCall (spM pre) [] E ta) σ H n d := fun H1 e Q q =>
  h H1 e _ fun H2 e2 => ⟨n, d, by rw [List.append_nil]; exact hp H2 (e.trans e2), fun p H3 hn e3 h3 => q p H3 (fresh_back e2 hn) (e2.trans e3) h3⟩
theorem ea1 {te : TE} {x : V} (h : Ev te σ H x) : EvA (tCons te tNil) σ H [x] := ea_cons h ea_nil
theorem ea2 {t1 t2 : TE} {x y : V} (h1 : Ev t1 σ H x) (h2 : Ev t2 σ H y) : EvA (tCons t1 (tCons t2 tNil)) σ H [x, y] := ea_cons h1 (ea1 h2)
theorem ea3 {t1 t2 t3 : TE} {x y z : V} (h1 : Ev t1 σ H x) (h2 : Ev t2 σ H y) (h3 : Ev t3 σ H z) : EvA (tCons t1 (tCons t2 (tCons t3 tNil))) σ H [x, y, z] := ea_cons h1 (ea2 h2 h3)
theorem ea4 {t1 t2 t3 t4 : TE} {x y z u : V} (h1 : Ev t1 σ H x) (h2 : Ev t2 σ H y) (h3 : Ev t3 σ H z) (h4 : Ev t4 σ H u) : EvA (tCons t1 (tCons t2 (tCons t3 (tCons t4 tNil)))) σ H [x, y, z, u] := ea_cons h1 (ea3 h2 h3 h4)
theorem v0 {i : Nat} {v : V} (h : σ[i]? = some (some v)) : Ev (tVar i) σ H v := ev_var h
end
/-! #### bits -/
theorem shr_nat (g p : Nat) : (g : Int) / 2 ^ ((p : Int)).toNat = ((g / 2 ^ p : Nat) : Int) := by
  rw [Int.toNat_natCast, PyProof.Rows.two_pow_cast]
  exact (Int.natCast_ediv g (2 ^ p)).symm
theorem has_val (g p : Nat) : decide (V.int (Builtin.bitAnd ((g : Int) / 2 ^ ((p : Int)).toNat) 1) = V.int 1) = g.testBit p := by
  rw [shr_nat, PyProof.Rows.bitAnd_m1]
  have e : (((g / 2 ^ p : Nat) : Int) % 2) = ((g / 2 ^ p % 2 : Nat) : Int) := by omega
  rw [e, Nat.testBit_eq_decide_div_mod_eq]
  refine decide_eq_decide.mpr ⟨fun h => ?_, fun h => ?_⟩
  · have h' := V.int.inj h
    omega
  · rw [h]
    rfl
theorem one_shl (p : Nat) : (1 : Int) * 2 ^ ((p : Int)).toNat = ((2 ^ p : Nat) : Int) := by
  rw [Int.toNat_natCast, PyProof.Rows.two_pow_cast, Int.one_mul]
theorem with_val (g p : Nat) : Builtin.bitOr (g : Int) ((1 : Int) * 2 ^ ((p : Int)).toNat) = ((g ||| 1 <<< p : Nat) : Int) := by
  rw [one_shl, Bits.bitOr_pp (Int.natCast_nonneg _) (Int.natCast_nonneg _), Int.toNat_natCast, Int.toNat_natCast, Nat.one_shiftLeft]
end Nw

/-! ### 3d. More of what evaluates to what -/
namespace Nw
open PySem PySem.Spec PyProof.Rows L2 Evl
open Ns (Vec Mat)
/-- a constant of the module -/
abbrev Gc (mg : Str → Option Value) (x : Str) (v : V) : Prop := ∃ u, mg x = some u ∧ RelV v u
theorem pe_g {X : Cx} {x : Str} {v : V} {pos : Pos} (h : Gc X.mg x v) (hg : Gl X x := by rfl) (hd : (x == ("__debug__" : Str)) = false := by decide) : PE X (.Name x pos) (tC v) := by
  obtain ⟨u, hm, r⟩ := h
  exact pe_glob hg hm r hd
/-! rules with the written part named (within a comprehension's block) -/
section
variable {X : Cx} {K : PySem.W.Frag}
theorem kr_len (e : X.K = K := by rfl) : CallR X (.builtin "len") (rLenS K) := by
  subst e
  exact call_len_seq
theorem kr_list (e : X.K = K := by rfl) : CallR X (.type "list") (rListS K) := by
  subst e
  exact call_list_of
theorem kr_ix (e : X.K = K := by rfl) : IxR X (rIxL K) := by
  subst e
  exact ix_list
theorem kr_max (hc : X.calm = true := by rfl) (e : X.K = K := by rfl) : CallR X (.builtin "max") (rMax K) := by
  subst e
  exact cr_max hc
theorem kr_min (hc : X.calm = true := by rfl) (e : X.K = K := by rfl) : CallR X (.builtin "min") (rMin K) := by
  subst e
  exact cr_min hc
theorem kr_sum (hc : X.calm = true := by rfl) (e : X.K = K := by rfl) : CallR X (.builtin "sum") (rSum K) := by
  subst e
  exact cr_sum hc
theorem kr_all (hc : X.calm = true := by rfl) (e : X.K = K := by rfl) : CallR X (.builtin "all") (rAll K) := by
  subst e
  exact cr_all hc
theorem kr_minD (hu : X.A.units + 64 < cLine) (hc : X.calm = true := by rfl) (e : X.K = K := by rfl) : CallRK X (.builtin "min") [Str.ofString "default"] (rMinD K) := by
  subst e
  exact cr_minD hc hu
theorem kr_maxD (hu : X.A.units + 64 < cLine) (hc : X.calm = true := by rfl) (e : X.K = K := by rfl) : CallRK X (.builtin "max") [Str.ofString "default"] (rMaxD K) := by
  subst e
  exact cr_maxD hc hu
theorem kr_min2 (hc : X.calm = true := by rfl) : CallR X (.builtin "min") rMin2 := call_min2 hc
theorem pk_list {tg xs : Expr} {tl : TE} (h : PE X xs tl) (e : X.K = K := by rfl) : PI X tg xs (iList K tl) := by
  subst e
  exact pi_list h
end
/-- what the top leaves of names and constants -/
structure Gb (mg : Str → Option Value) : Prop where
  range : mg "range" = none
  len : mg "len" = none
  min : mg "min" = none
  max : mg "max" = none
  sum : mg "sum" = none
  all : mg "all" = none
  list : mg "list" = none
  ve : mg "ValueError" = none
  far : Gc mg "FAR" (.int 1000)
  nowhere : Gc mg "NOWHERE" (.int (-1))
  noInstance : Gc mg "NO_INSTANCE" (.int (-11))
  noPlace : Gc mg "NO_PLACE" (.int (-2))
  notInRange : Gc mg "NOT_IN_RANGE" (.int (-22))
  noStore : Gc mg "NO_STORE" (.int (-6))
  storeThere : Gc mg "STORE_THERE" (.int (-17))
  noPlaceLeft : Gc mg "NO_PLACE_LEFT" (.int (-28))
  undefined : Gc mg "UNDEFINED" (.int (-33))
  mostPeople : Gc mg "MOST_PEOPLE" (.int 99)
  mostTime : Gc mg "MOST_TIME" (.int 50)
  create : Gc mg "CREATE" (.int 0)
  mostPlaces : Gc mg "MOST_PLACES" (.int 7)
section
variable {K : PySem.W.Frag} {σ : L2.St} {H H' : Hp} {t1 t2 t3 ta tb tc te tl tk : TE} {tr : TA} {E : XK} {D : Ends} {tz : TS}
theorem ev_lenM {p : Addr} {n : Nat} {d : Mat} (ha : Ev ta σ H (.ref p)) (h : Mx H p n d) : Ev (tCB (rLenS K) (tCons ta tNil)) σ H (iV n) := by
  obtain ⟨as, h1, _⟩ := h
  exact ev_is (ev_len ha (sq_of h1)) (by rw [List.length_map, List.length_range])
theorem ev_lenR {p : Addr} {n : Nat} {v : Vec} (ha : Ev ta σ H (.ref p)) (h : H p = some (.lst (rV n v))) : Ev (tCB (rLenS K) (tCons ta tNil)) σ H (iV n) :=
  ev_is (ev_len ha (sq_of h)) (by rw [List.length_map, List.length_range])
theorem ev_lenV {p : Addr} {l : List Nat} (ha : Ev ta σ H (.ref p)) (h : SqL K H p (nV l)) : Ev (tCB (rLenS K) (tCons ta tNil)) σ H (iV l.length) := ev_is (ev_len ha h) (by rw [List.length_map])
theorem ev_lenNV {l : List Nat} (h : EvL te σ H (nV l)) : Ev (tCB (rLenS K) (tCons te tNil)) σ H (iV l.length) := ev_is (ev_lenN h) (by rw [List.length_map])
theorem flat_rep (v : V) : ∀ n, (List.replicate n [v]).flatten = List.replicate n v
  | 0 => rfl
  | n + 1 => by rw [List.replicate_succ, List.flatten_cons, flat_rep v n]; rfl
/-- [v] * n -/
theorem el_rep {v : V} {n : Nat} (h : EvL ta σ H [v]) (hb : ∀ H1, Ex H H1 → Ev tb σ H1 (iV n)) (hn : n ≤ 1000) : EvL (tOp rRep ta tb) σ H (List.replicate n v) := fun H1 e Q q =>
  h H1 e _ fun p H2 hp e2 h2 => hb H2 (e.trans e2) H2 (Ex.refl H2) _ fun H3 e3 => ⟨p, (n : Int), [v], rfl, rfl, e3 p _ h2, by omega, by omega, by
      rw [Int.toNat_natCast]
      exact sz_of (by show 1 * n ≤ 100000; omega), fun r hr => by
    rw [Int.toNat_natCast]
    rw [flat_rep]
    exact q r _ (fresh_back (e2.trans e3) hr) ((e2.trans e3).trans (Ex.new hr)) upd_same⟩
theorem rep_rV (n x : Nat) : List.replicate n (iV x) = rV n fun _ => x := by
  unfold rV
  rw [List.map_const', List.length_range]
/-! arguments of which one is new -/
def EvAP (ta : TA) (σ : L2.St) (H : Hp) (R : List V → Hp → Prop) : Prop := ∀ H1, Ex H H1 → ∀ Q : List V → Hp → Prop, (∀ vs H2, Ex H1 H2 → R vs H2 → Q vs H2) → ta σ H1 Q
theorem ap_M {n : Nat} {d : Mat} {vs : List V} (h : EvMx te σ H n d) (hr : ∀ H1, Ex H H1 → EvA tr σ H1 vs) : EvAP (tCons te tr) σ H fun us H' => ∃ p, us = .ref p :: vs ∧ Mx H' p n d := fun H1 e Q q =>
  h H1 e _ fun p H2 _ e2 h2 => hr H2 (e.trans e2) H2 (Ex.refl H2) _ fun H3 e3 => q _ H3 (e2.trans e3) ⟨p, rfl, h2.mono e3⟩
theorem ap_L {xs vs : List V} (h : EvL te σ H xs) (hr : ∀ H1, Ex H H1 → EvA tr σ H1 vs) : EvAP (tCons te tr) σ H fun us H' => ∃ p, us = .ref p :: vs ∧ H' p = some (.lst xs) := fun H1 e Q q =>
  h H1 e _ fun p H2 _ e2 h2 => hr H2 (e.trans e2) H2 (Ex.refl H2) _ fun H3 e3 => q _ H3 (e2.trans e3) ⟨p, rfl, e3 p _ h2⟩
theorem ap_2L {x : V} {xs : List V} (h0 : Ev t1 σ H x) (h : EvL te σ H xs) : EvAP (tCons t1 (tCons te tNil)) σ H fun us H' => ∃ p, us = [x, .ref p] ∧ H' p = some (.lst xs) := fun H1 e Q q =>
  h0 H1 e _ fun H2 e2 => h H2 (e.trans e2) _ fun p H3 _ e3 h3 => q _ H3 (e2.trans e3) ⟨p, rfl, h3⟩
theorem ev_cvP {pre : List V → Hp → V → Prop} {z : V} {R : List V → Hp → Prop} (h : EvAP tr σ H R) (hp : ∀ vs H1, Ex H H1 → R vs H1 → pre vs H1 z) : Ev (tCall (spV pre) [] E tr) σ H z := fun H1 e Q q =>
  h H1 e _ fun vs H2 e2 r => ⟨z, by rw [List.append_nil]; exact hp vs H2 (e.trans e2) r, fun H3 e3 => q H3 (e2.trans e3)⟩
theorem el_cvP {pre : List V → Hp → List V → Prop} {xs : List V} {R : List V → Hp → Prop} (h : EvAP tr σ H R) (hp : ∀ vs H1, Ex H H1 → R vs H1 → pre vs H1 xs) : EvL (tCall (spL pre) [] E tr) σ H xs := fun H1 e Q q =>
  h H1 e _ fun vs H2 e2 r => ⟨xs, by rw [List.append_nil]; exact hp vs H2 (e.trans e2) r, fun p H3 hn e3 h3 => q p H3 (fresh_back e2 hn) (e2.trans e3) h3⟩
/-! statements that bind a new matrix -/
theorem q_asgM {i n : Nat} {d : Mat} (h : EvMx te σ H n d) (k : ∀ p H1, H p = none → Ex H H1 → Mx H1 p n d → tz D (σ.set i (some (.ref p))) H1) : tSeq (tAsg te (gName i)) tz D σ H := h H (Ex.refl H) _ fun p H1 hp e h1 => k p H1 hp e h1
theorem q_asgLL {i k : Nat} {f : Nat → List V} (h : EvLL te σ H k f) (c : ∀ (p : Addr) (as : Nat → Addr) H1, H p = none → Ex H H1 → H1 p = some (.lst ((List.range k).map fun i => V.ref (as i))) → (∀ i, i < k → H (as i) = none ∧ as i ≠ p ∧ H1 (as i) = some (.lst (f i))) →
    (∀ i i', i < k → i' < k → as i = as i' → i = i') → tz D (σ.set i (some (.ref p))) H1) : tSeq (tAsg te (gName i)) tz D σ H := h H (Ex.refl H) _ fun p as H1 hp e h1 h2 h3 => c p as H1 hp e h1 h2 h3
theorem s_asgM {i n : Nat} {d : Mat} (h : EvMx te σ H n d) (k : ∀ p H1, H p = none → Ex H H1 → Mx H1 p n d → D.nx (σ.set i (some (.ref p))) H1) : tAsg te (gName i) D σ H := h H (Ex.refl H) _ fun p H1 hp e h1 => k p H1 hp e h1
theorem s_retMF {n : Nat} {d : Mat} (h : EvMF te σ H n d) (k : ∀ p (as : Nat → Addr) H1, H p = none → Ex H H1 → H1 p = some (.lst ((List.range n).map fun i => V.ref (as i))) → (∀ i, i < n → H (as i) = none ∧ H1 (as i) = some (.lst (rV n (d i)))) → D.rt (.ref p) H1) : tRet te D σ H := h H (Ex.refl H) _ k
theorem s_retM {n : Nat} {d : Mat} (h : EvMx te σ H n d) (k : ∀ p H1, H p = none → Ex H H1 → Mx H1 p n d → D.rt (.ref p) H1) : tRet te D σ H := h H (Ex.refl H) _ k
/-! a list of numbers compared with [] -/
theorem dp_ints : ∀ l : List Nat, DpAll K H (nV l) (l.map fun x : Nat => PyData.int (x : Int))
  | [] => .nil
  | _ :: r => .cons (.int _) (dp_ints r)
theorem ne_nil_val (l : List Nat) : (!PyData.eqv (.list (l.map fun x : Nat => PyData.int (x : Int))) (.list [])) = decide (l ≠ []) := by
  cases l with
  | nil => simp [PyData.eqv, PyData.eqvAll]
  | cons x r => simp [PyData.eqv, PyData.eqvAll]
theorem shaped_nat (l : List Nat) : SeqAt.shaped (.list (l.map fun x : Nat => PyData.int (x : Int))) = true := by
  have h := PySem.W.ke_shaped_ints (l.map fun x : Nat => (x : Int))
  rw [List.map_map] at h
  exact h
theorem ev_neNil {p : Addr} {l : List Nat} (ha : Ev ta σ H (.ref p)) (h : SqL K H p (nV l)) : Ev (tOp (rNeD K) ta (tLst tNil)) σ H (.bl (decide (l ≠ []))) :=
  ev_opL ha (el_lst ea_nil (by decide)) fun q H1 hq e H2 e2 Q k => ⟨_, _, .lst (ex_l (e.trans e2) h) (dp_ints l), .lst (ex_l e2 (sq_of hq)) .nil, shaped_nat l, shaped_nat [], by
    rw [ne_nil_val]
    exact k H2 (Ex.refl H2)⟩
end
end Nw

/-! ### 3e. The walk: sets -/
namespace Nw
open PySem PySem.Spec PyProof.Rows L2 Evl
open Ns (Vec Mat)
section
variable {P : Program} {w : World} {K : PySem.W.Frag} {mg : Str → Option Value} {base : Heap}
def spHas : Sp := spV fun vs _ z => ∃ g p : Nat, vs = [iV g, iV p] ∧ z = .bl (g.testBit p)
def spWith : Sp := spV fun vs _ z => ∃ g p : Nat, vs = [iV g, iV p] ∧ p ≤ 7 ∧ z = iV (g ||| 1 <<< p)
def spWithout : Sp := spV fun vs _ z => ∃ g p : Nat, vs = [iV g, iV p] ∧ p ≤ 7 ∧ g.testBit p = true ∧ z = iV (g - 2 ^ p)
def spMembers : Sp := spL fun vs _ xs => ∃ g n : Nat, vs = [iV g, iV n] ∧ n ≤ 7 ∧ xs = nV (Ns.mem n g)
def spGroups : Sp := spL fun vs _ xs => ∃ n k : Nat, vs = [iV n, iV k] ∧ n ≤ 7 ∧ xs = nV (Ns.groups n k)
def spFwl (K : PySem.W.Frag) : Sp := spV fun vs H z => ∃ (p r : Addr) (ts : List Nat) (ws : List Int), vs = [.ref p, .ref r] ∧ SqL K H p (nV ts) ∧ SqL K H r (ws.map V.int) ∧ ts.length = ws.length ∧ 0 < ts.length ∧ ts.length ≤ 1000 ∧ z = iV (Ns.fwl ts ws)
theorem sc_has : FnScope ["group", "place"] ["group", "place"] (defScope (top 15)) := ⟨rfl, rfl, rfl, by decide +kernel, rfl, by decide +kernel, by decide +kernel⟩
theorem cal_has (d : Df K mg "has" (top 15))  : Cal P w K mg base 1 "has" spHas := by
  refine cal_of d sc_has (fun _ _ _ _ _ _ us hl => match us, hl with | [_, _], _ => rfl) (fun vs H Q E h => ?_) fun f cdv A outer s H vs Q E hr h => ?_
  · obtain ⟨z, ⟨g, p, rfl, _⟩, _⟩ := h
    rfl
  · refine ⟨_, (pss_one (ps_ret (pe_cmpR op_eq (pe_op op_and (pe_op op_shr (pv 0) (pv 1)) pe_int) pe_int (nomark _)))), ?_⟩
    obtain ⟨z, ⟨g, p, rfl, rfl⟩, k⟩ := h
    exact s_ret (ev_is (ev_op (ev_op (ev_op (ev_var rfl) (ev_var rfl) (rv_I (by omega))) ev_c rv_I0) ev_c (rv_eq rfl)) (congrArg V.bl (has_val g p))) k
theorem sc_with_place : FnScope ["group", "place"] ["group", "place"] (defScope (top 16)) := ⟨rfl, rfl, rfl, by decide +kernel, rfl, by decide +kernel, by decide +kernel⟩
theorem cal_with_place (d : Df K mg "with_place" (top 16))  : Cal P w K mg base 1 "with_place" spWith := by
  refine cal_of d sc_with_place (fun _ _ _ _ _ _ us hl => match us, hl with | [_, _], _ => rfl) (fun vs H Q E h => ?_) fun f cdv A outer s H vs Q E hr h => ?_
  · obtain ⟨z, ⟨g, p, rfl, _⟩, _⟩ := h
    rfl
  · refine ⟨_, (pss_one (ps_ret (pe_op op_or (pv 0) (pe_op op_shl pe_int (pv 1))))), ?_⟩
    obtain ⟨z, ⟨g, p, rfl, hp, rfl⟩, k⟩ := h
    exact s_ret (ev_is (ev_op (ev_var rfl) (ev_op ev_c (ev_var rfl) (rv_I ⟨by omega, by omega, by decide⟩)) rv_I0) (congrArg V.int (with_val g p))) k
theorem without_val {g p : Nat} (h : g.testBit p = true) : (g : Int) - (1 : Int) * 2 ^ ((p : Int)).toNat = ((g - 2 ^ p : Nat) : Int) := by
  rw [one_shl]
  have := Nat.ge_two_pow_of_testBit h
  omega
theorem sc_without_place : FnScope ["group", "place"] ["group", "place"] (defScope (top 17)) := ⟨rfl, rfl, rfl, by decide +kernel, rfl, by decide +kernel, by decide +kernel⟩
theorem cal_without_place (d : Df K mg "without_place" (top 17))  : Cal P w K mg base 1 "without_place" spWithout := by
  refine cal_of d sc_without_place (fun _ _ _ _ _ _ us hl => match us, hl with | [_, _], _ => rfl) (fun vs H Q E h => ?_) fun f cdv A outer s H vs Q E hr h => ?_
  · obtain ⟨z, ⟨g, p, rfl, _⟩, _⟩ := h
    rfl
  · refine ⟨_, (pss_one (ps_ret (pe_op op_sub (pv 0) (pe_op op_shl pe_int (pv 1))))), ?_⟩
    obtain ⟨z, ⟨g, p, rfl, hp, hb, rfl⟩, k⟩ := h
    exact s_ret (ev_is (ev_op (ev_var rfl) (ev_op ev_c (ev_var rfl) (rv_I ⟨by omega, by omega, by decide⟩)) rv_I0) (congrArg V.int (without_val hb))) k
theorem sc_members : FnScope ["group", "place_count", "place"] ["group", "place_count"] (defScope (top 18)) := ⟨rfl, rfl, rfl, by decide +kernel, rfl, by decide +kernel, by decide +kernel⟩
theorem cal_members (d : Df K mg "members" (top 18)) (G : Gb mg) (cH : Cal P w K mg base 1 "has" spHas) : Cal P w K mg base 2 "members" spMembers := by
  refine cal_of d sc_members (fun _ _ _ _ _ _ us hl => match us, hl with | [_, _], _ => rfl) (fun vs H Q E h => ?_) fun f cdv A outer s H vs Q E hr h => ?_
  · obtain ⟨z, ⟨g, p, rfl, _⟩, _⟩ := h
    rfl
  · refine ⟨_, (pss_one (ps_ret (pe_lc (own := [("place", 2)]) (g := gName 2) rfl sc_members.nd (pi_range1 rfl G.range (pa_cons (pv 1) pa_nil)) (blkOk_by (N := ["group", "place_count", "place"]) (sc := defScope (top 18)) (by decide +kernel)) (fun _ _ _ _ _ => pg_name (i := 2) sc_members.nd rfl (Or.inl rfl)) (fun _ _ _ _ _ => pts_one (pt_val (pe_cl cH hr (by decide) (pa_cons (pv 0) (pa_cons (pv 2) pa_nil))))) (fun _ _ _ _ _ => (pv 2))))), ?_⟩
    obtain ⟨z, ⟨g, n, rfl, hn, rfl⟩, k⟩ := h
    exact s_retL (el_rng (fun i => g.testBit i) iV (ea1 (ev_var rfl)) (by omega) (fun _ => rfl) (fun i hi H1 e => et_B (ev_cv (ea2 (ev_var rfl) (ev_var rfl)) fun H2 _ => ⟨g, i, rfl, rfl⟩)) fun i hi _ H1 e => ev_var rfl) k
theorem pow_le7 {n : Nat} (h : n ≤ 7) : 2 ^ n ≤ 128 := Nat.pow_le_pow_right (by omega) h
theorem int_dec {a b : Nat} : decide (V.int (a : Int) = V.int (b : Int)) = decide (a = b) := decide_eq_decide.mpr ⟨fun h => by have := V.int.inj h; omega, fun h => by rw [h]⟩
theorem sc_groups_of : FnScope ["place_count", "size", "group"] ["place_count", "size"] (defScope (top 19)) := ⟨rfl, rfl, rfl, by decide +kernel, rfl, by decide +kernel, by decide +kernel⟩
theorem cal_groups_of (d : Df K mg "groups_of" (top 19)) (G : Gb mg) (cM : Cal P w K mg base 2 "members" spMembers) : Cal P w K mg base 3 "groups_of" spGroups := by
  refine cal_of d sc_groups_of (fun _ _ _ _ _ _ us hl => match us, hl with | [_, _], _ => rfl) (fun vs H Q E h => ?_) fun f cdv A outer s H vs Q E hr h => ?_
  · obtain ⟨z, ⟨g, p, rfl, _⟩, _⟩ := h
    rfl
  · refine ⟨_, (pss_one (ps_ret (pe_lc (own := [("group", 2)]) (g := gName 2) rfl sc_groups_of.nd (pi_range1 rfl G.range (pa_cons (pe_op op_shl pe_int (pv 0)) pa_nil)) (blkOk_by (N := ["place_count", "size", "group"]) (sc := defScope (top 19)) (by decide +kernel)) (fun _ _ _ _ _ => pg_name (i := 2) sc_groups_of.nd rfl (Or.inl rfl)) (fun _ _ _ _ _ => pts_one (pt_cmpR op_eq (pe_callB (kr_len (K := K)) rfl G.len PySem.boot_len (pa_cons (pe_cl cM hr (by decide) (pa_cons (pv 2) (pa_cons (pv 0) pa_nil))) pa_nil)) (pv 1) (nomark _))) (fun _ _ _ _ _ => (pv 2))))), ?_⟩
    obtain ⟨z, ⟨n, k0, rfl, hn, rfl⟩, k⟩ := h
    have h2 := pow_le7 hn
    exact s_retL (el_rng (fun g => decide ((Ns.mem n g).length = k0)) iV (ea1 (ev_is (ev_op ev_c (ev_var rfl) (rv_I ⟨by omega, by omega, by decide⟩)) (congrArg V.int (one_shl n)))) (by omega) (fun _ => rfl)
      (fun i hi H1 e => et_is (et_test (ev_op (ev_lenNV (el_cv (ea2 (ev_var rfl) (ev_var rfl)) fun H2 _ => ⟨i, n, rfl, hn, rfl⟩)) (ev_var rfl) (rv_eq rfl))) int_dec) fun i hi _ H1 e => ev_var rfl) k
theorem least_lt (ws : List Int) (i : Nat) (h : 0 < ws.length) (hi : i ≤ ws.length) : Ns.leastAt ws i < ws.length := by
  cases i with
  | zero => exact h
  | succ i =>
    have := Ns.leastAt_lt ws i
    omega
theorem getD_at {ws : List Int} {i : Nat} (h : i < ws.length) : (ws.map V.int)[i]? = some (V.int (ws.getD i 0)) := by
  rw [List.getElem?_map, List.getD_eq_getElem?_getD, List.getElem?_eq_getElem h]
  rfl
theorem getD_nat {ts : List Nat} {i : Nat} (h : i < ts.length) : ts[i]? = some (ts.getD i 0) := by
  rw [List.getD_eq_getElem?_getD, List.getElem?_eq_getElem h]
  rfl
theorem sc_first_with_least : FnScope ["things", "worths", "at", "position"] ["things", "worths"] (defScope (top 20)) := ⟨rfl, rfl, rfl, by decide +kernel, rfl, by decide +kernel, by decide +kernel⟩
theorem cal_first_with_least (d : Df K mg "first_with_least" (top 20)) (G : Gb mg) : Cal P w K mg base 1 "first_with_least" (spFwl K) := by
  refine cal_of d sc_first_with_least (fun _ _ _ _ _ _ us hl => match us, hl with | [_, _], _ => rfl) (fun vs H Q E h => ?_) fun f cdv A outer s H vs Q E hr h => ?_
  · obtain ⟨z, ⟨p, r, ts, ws, rfl, _⟩, _⟩ := h
    rfl
  · refine ⟨_, (pss_cons (ps_set (i := 2) sc_first_with_least.nd rfl (Or.inl rfl) pe_int)
      (pss_cons (ps_for PassesOwn.never rfl (pi_range1 rfl G.range (pa_cons (pe_callB (kr_len (K := K)) rfl G.len PySem.boot_len (pa_cons (pv 1) pa_nil)) pa_nil)) (pg_name (i := 3) sc_first_with_least.nd rfl (Or.inl rfl)) (pss_one (ps_if (pt_cmpR op_lt (pe_ix (kr_ix (K := K)) (pv 1) (pv 3) (fun _ _ => rfl)) (pe_ix (kr_ix (K := K)) (pv 1) (pv 2) (fun _ _ => rfl)) (nomark _)) (pss_one (ps_set (i := 2) sc_first_with_least.nd rfl (Or.inl rfl) (pv 3))) pss_nil)))
      (pss_one (ps_ret (pe_ix (kr_ix (K := K)) (pv 0) (pv 2) (fun _ _ => rfl)))))), ?_⟩
    obtain ⟨z, ⟨p, r, ts, ws, rfl, hp, hw, hl, h0, hz, rfl⟩, k⟩ := h
    refine q_asg ev_c fun H1 e1 => ?_
    refine q_forR1 (n := (ws.length : Int)) (ea1 (ev_is (ev_len (ev_var rfl) (ex_l e1 hw)) (by rw [List.length_map]))) ⟨by omega, by omega⟩
      (fun i σ' H' => ∃ v : Option V, σ' = [some (.ref p), some (.ref r), some (iV (Ns.leastAt ws i)), v] ∧ Ex H H') (fun H2 e2 => ⟨none, rfl, e1.trans e2⟩) ?_ ?_
    · rintro i σ' H' hi ⟨v, rfl, e⟩
      have hi' : i < ws.length := by omega
      have hlt := least_lt ws i (by omega) (by omega)
      have e0 := Ns.leastAt_succ ws i
      refine s_ifAsg (et_test (ev_op (ev_op (ev_var rfl) (ev_var rfl) (rv_ixL (ex_l e hw) (atI_nat (getD_at hi')))) (ev_op (ev_var rfl) (ev_var rfl) (rv_ixL (ex_l e hw) (atI_nat (getD_at hlt)))) rv_I0)) (v := iV (Ns.leastAt ws (i + 1))) ?_ ?_ ?_
      · intro hb
        rw [e0, if_pos (of_decide_eq_true hb)]
        exact ev_var rfl
      · intro hb
        rw [e0, if_neg (of_decide_eq_false hb)]
        rfl
      · exact fun H2 e2 => ⟨some (iV i), rfl, e.trans e2⟩
    · rintro σ' H' ⟨v, rfl, e⟩
      rw [Int.toNat_natCast]
      refine s_ret (ev_nat (ex_l e hp) (ev_var rfl) (ev_var rfl) (getD_nat ?_)) fun H2 e2 => k H2 (e.trans e2)
      rw [hl]
      exact least_lt ws ws.length (by omega) (Nat.le_refl _)
end
end Nw

/-! ### 3f. The walk: the network -/
namespace Nw
open PySem PySem.Spec PyProof.Rows L2 Evl
open Ns (Vec Mat)
section
variable {P : Program} {w : World} {K : PySem.W.Frag} {mg : Str → Option Value} {base : Heap}
def spNoRoads : Sp := spMF fun vs _ n t => vs = [iV n] ∧ n ≤ 7 ∧ t = fun _ _ => 0
def spTimesWith : Sp := spMF fun vs H n t' => ∃ (p : Addr) (t : Mat) (a b v : Nat), vs = [.ref p, iV a, iV b, iV v] ∧ Mx H p n t ∧ n ≤ 7 ∧ a < n ∧ b < n ∧ a ≠ b ∧ t' = Ns.setM t a b v
def spRoads : Sp := spV fun vs H z => ∃ (p : Addr) (n : Nat) (t : Mat), vs = [.ref p] ∧ Mx H p n t ∧ n ≤ 7 ∧ z = iV (Ns.roadsN n t)
def spDirectD : Sp := spV fun vs H z => ∃ (p : Addr) (n : Nat) (t : Mat) (a b : Nat), vs = [.ref p, iV a, iV b] ∧ Mx H p n t ∧ a < n ∧ b < n ∧ z = iV (Ns.direct t a b)
def spDirectRow : Sp := spL fun vs H xs => ∃ (p : Addr) (n : Nat) (t : Mat) (a : Nat), vs = [.ref p, iV a] ∧ Mx H p n t ∧ n ≤ 7 ∧ a < n ∧ xs = rV n (Ns.direct t a)
def spDirectRows : Sp := spM fun vs H n d => ∃ (p : Addr) (t : Mat), vs = [.ref p] ∧ Mx H p n t ∧ n ≤ 7 ∧ d = Ns.direct t
def spRowThrough : Sp := spL fun vs H xs => ∃ (p : Addr) (n : Nat) (d : Mat) (a m : Nat), vs = [.ref p, iV a, iV m] ∧ Mx H p n d ∧ n ≤ 7 ∧ a < n ∧ m < n ∧ xs = rV n (Ns.thru d m a)
def spDistRows : Sp := spM fun vs H n d => ∃ (p : Addr) (t : Mat), vs = [.ref p] ∧ Mx H p n t ∧ n ≤ 7 ∧ d = Ns.distK t n
def spConn : Sp := spV fun vs H z => ∃ (p : Addr) (n : Nat) (d : Mat), vs = [.ref p] ∧ Mx H p n d ∧ 1 ≤ n ∧ n ≤ 7 ∧ z = .bl (Ns.conn n d)
theorem sc_no_roads : FnScope ["place_count", "place"] ["place_count"] (defScope (top 2)) := ⟨rfl, rfl, rfl, by decide +kernel, rfl, by decide +kernel, by decide +kernel⟩
theorem cal_no_roads (d : Df K mg "no_roads" (top 2)) (G : Gb mg) : Cal P w K mg base 1 "no_roads" spNoRoads := by
  refine cal_of d sc_no_roads (fun _ _ _ _ _ _ us hl => match us, hl with | [_], _ => rfl) (fun vs H Q E h => ?_) fun f cdv A outer s H vs Q E hr h => ?_
  · obtain ⟨n, t, ⟨rfl, _⟩, _⟩ := h
    rfl
  · refine ⟨_, (pss_one (ps_ret (pe_lc (own := [("place", 1)]) (g := gName 1) rfl sc_no_roads.nd (pi_range1 rfl G.range (pa_cons (pv 0) pa_nil)) (blkOk_by (N := ["place_count", "place"]) (sc := defScope (top 2)) (by decide +kernel)) (fun _ _ _ _ _ => pg_name (i := 1) sc_no_roads.nd rfl (Or.inl rfl)) (fun _ _ _ _ _ => pts_nil) (fun _ _ _ _ _ => (pe_op op_rep (pe_lst (pa_cons pe_int pa_nil)) (pv 0)))))), ?_⟩
    obtain ⟨n, t, ⟨rfl, hn, rfl⟩, k⟩ := h
    exact s_retMF (emf_of (ell_rng (fun _ => rV n fun _ => 0) (ea1 (ev_var rfl)) (by omega) (fun _ => rfl) fun i hi H1 e => el_is (el_rep (el_lst (ea1 ev_c) (by decide)) (fun H2 e2 => ev_var rfl) (by omega)) (rep_rV n 0))) k
theorem rV_set {n j x : Nat} (v : Vec) : (rV n v).set j (iV x) = rV n fun i => if i = j then x else v i := by
  apply List.ext_getElem?
  intro i
  rw [List.getElem?_set]
  by_cases hi : i < n
  · by_cases e : j = i
    · subst e
      rw [if_pos rfl, if_pos (by rw [List.length_map, List.length_range]; exact hi), List.getElem?_map, List.getElem?_range hi]
      show some (iV x) = some (iV (if j = j then x else v j))
      rw [if_pos rfl]
    · rw [if_neg e, List.getElem?_map, List.getElem?_range hi, List.getElem?_map, List.getElem?_range hi]
      show some (iV (v i)) = some (iV (if i = j then x else v i))
      rw [if_neg fun z => e z.symm]
  · rw [List.getElem?_eq_none (l := rV n _) (by rw [List.length_map, List.length_range]; omega)]
    split
    · rename_i e
      subst e
      rw [if_neg (by rw [List.length_map, List.length_range]; exact hi), List.getElem?_eq_none (by rw [List.length_map, List.length_range]; omega)]
    · rw [List.getElem?_eq_none (by rw [List.length_map, List.length_range]; omega)]
theorem ref_at {n a : Nat} (as : Nat → Addr) (h : a < n) : atI ((List.range n).map fun i => V.ref (as i)) (a : Int) = some (V.ref (as a)) := atI_nat (by rw [List.getElem?_map, List.getElem?_range h]; rfl)
theorem ref_of {n i : Nat} {as : Nat → Addr} {x : V} (h : ((List.range n).map fun i => V.ref (as i))[i]? = some x) : i < n ∧ x = V.ref (as i) := by
  by_cases c : i < n
  · rw [List.getElem?_map, List.getElem?_range c] at h
    exact ⟨c, (Option.some.inj h).symm⟩
  · rw [List.getElem?_eq_none (by rw [List.length_map, List.length_range]; omega)] at h
    cases h
theorem row_of {n i : Nat} {v : Vec} {x : V} (h : (rV n v)[i]? = some x) : i < n ∧ x = iV (v i) := by
  by_cases c : i < n
  · rw [List.getElem?_map, List.getElem?_range c] at h
    exact ⟨c, (Option.some.inj h).symm⟩
  · rw [List.getElem?_eq_none (by rw [List.length_map, List.length_range]; omega)] at h
    cases h
theorem refs_len {n : Nat} {as : Nat → Addr} : ((List.range n).map fun i => V.ref (as i)).length = n := by rw [List.length_map, List.length_range]
theorem sc_times_with : FnScope ["times", "a", "b", "time", "rows", "row"] ["times", "a", "b", "time"] (defScope (top 3)) := ⟨rfl, rfl, rfl, by decide +kernel, rfl, by decide +kernel, by decide +kernel⟩
theorem cal_times_with (d : Df K mg "times_with" (top 3)) (G : Gb mg) : Cal P w K mg base 1 "times_with" spTimesWith := by
  refine cal_of d sc_times_with (fun _ _ _ _ _ _ us hl => match us, hl with | [_, _, _, _], _ => rfl) (fun vs H Q E h => ?_) fun f cdv A outer s H vs Q E hr h => ?_
  · obtain ⟨n, t, ⟨p, t0, a, b, v, rfl, _⟩, _⟩ := h
    rfl
  · refine ⟨_, (pss_cons (ps_setLc (i := 4) (own := [("row", 5)]) (g := gName 5) rfl sc_times_with.nd rfl rfl (sw_true rfl rfl rfl (by decide +kernel)) (pk_list (K := K) (pv 0)) (blkOk_by (N := ["times", "a", "b", "time", "rows", "row"]) (sc := defScope (top 3)) (by decide +kernel)) (fun _ _ _ _ _ => pg_name (i := 5) sc_times_with.nd rfl (Or.inl rfl)) (fun _ _ _ _ _ => pts_nil) (fun _ _ _ _ _ => (pe_callTy (kr_list (K := K)) rfl G.list (by decide +kernel) (pa_cons (pv 5) pa_nil))))
      (pss_cons (ps_asg (pv 3) (pg_sub (pe_ix (kr_ix (K := K)) (pv 4) (pv 1) (fun _ _ => rfl)) (pv 2) set_list))
      (pss_cons (ps_asg (pv 3) (pg_sub (pe_ix (kr_ix (K := K)) (pv 4) (pv 2) (fun _ _ => rfl)) (pv 1) set_list))
      (pss_one (ps_ret (pv 4)))))), ?_⟩
    obtain ⟨n, t', ⟨p, t, a, b, v, rfl, ⟨as, h1, h2⟩, hn, ha, hb, hab, rfl⟩, k⟩ := h
    refine q_asgLL (ell_lcL (fun i => rV n (t i)) (ev_var rfl) (sq_of h1) (by rw [refs_len]; omega) (fun _ => rfl) (fun i x hx H1 e => ?_)) fun q bs H1 hq e1 k1 k2 k3 => ?_
    · obtain ⟨hi, rfl⟩ := ref_of hx
      exact el_list (ev_var rfl) (sq_of (e _ _ (h2 i hi)))
    rw [refs_len] at k1 k2 k3
    obtain ⟨fa, na, ca⟩ := k2 a ha
    obtain ⟨fb, nb, cb⟩ := k2 b hb
    refine q_setL (l := bs a) ca (ev_var rfl) (ev_op (ev_var rfl) (ev_var rfl) (rv_ixL (sq_of k1) (ref_at bs ha))) (ev_var rfl) (by rw [List.length_map, List.length_range]; exact hb) fun H2 e2 => ?_
    have hba : bs b ≠ bs a := fun z => hab (k3 b a hb ha z).symm
    have hqa : q ≠ bs a := fun z => na z.symm
    have hqb : q ≠ bs b := fun z => nb z.symm
    have c2 : upd H2 (bs a) (.lst ((rV n (t a)).set b (iV v))) (bs b) = some (.lst (rV n (t b))) := by
      rw [upd_ne hba]
      exact e2 _ _ cb
    have q2 : upd H2 (bs a) (.lst ((rV n (t a)).set b (iV v))) q = some (.lst ((List.range n).map fun i => V.ref (bs i))) := by
      rw [upd_ne hqa]
      exact e2 _ _ k1
    refine q_setL (l := bs b) c2 (ev_var rfl) (ev_op (ev_var rfl) (ev_var rfl) (rv_ixL (sq_of q2) (ref_at bs hb))) (ev_var rfl) (by rw [List.length_map, List.length_range]; exact ha) fun H3 e3 => ?_
    have x1 : Ex H (upd H2 (bs a) (.lst ((rV n (t a)).set b (iV v)))) := Ex.mut (e1.trans e2) fa
    have x2 : Ex H (upd H3 (bs b) (.lst ((rV n (t b)).set a (iV v)))) := Ex.mut (x1.trans e3) fb
    have q3 : upd H3 (bs b) (.lst ((rV n (t b)).set a (iV v))) q = some (.lst ((List.range n).map fun i => V.ref (bs i))) := by
      rw [upd_ne hqb]
      exact e3 _ _ q2
    refine s_ret (ev_var rfl) fun H4 e4 => k q bs H4 hq (x2.trans e4) (e4 _ _ q3) fun i hi => ⟨(k2 i hi).1, e4 _ _ ?_⟩
    obtain ⟨fi, ni, ci⟩ := k2 i hi
    by_cases eb : i = b
    · subst eb
      rw [upd_same, rV_set]
      congr 2
      refine rV_ext fun j hj => ?_
      unfold Ns.setM
      by_cases c : j = a
      · rw [if_pos c, if_pos (.inr ⟨rfl, c⟩)]
      · rw [if_neg c, if_neg (by omega)]
    · rw [upd_ne fun z => eb (k3 i b hi hb z)]
      refine e3 _ _ ?_
      by_cases ea : i = a
      · subst ea
        rw [upd_same, rV_set]
        congr 2
        refine rV_ext fun j hj => ?_
        unfold Ns.setM
        by_cases c : j = b
        · rw [if_pos c, if_pos (.inl ⟨rfl, c⟩)]
        · rw [if_neg c, if_neg (by omega)]
      · rw [upd_ne fun z => ea (k3 i a hi ha z)]
        refine (e2 _ _ ci).trans ?_
        congr 2
        refine rV_ext fun j hj => ?_
        unfold Ns.setM
        rw [if_neg (by omega)]
theorem sc_road_count : FnScope ["times", "row", "time"] ["times"] (defScope (top 4)) := ⟨rfl, rfl, rfl, by decide +kernel, rfl, by decide +kernel, by decide +kernel⟩
theorem cal_road_count (d : Df K mg "road_count" (top 4)) (G : Gb mg) : Cal P w K mg base 1 "road_count" spRoads := by
  refine cal_of d sc_road_count (fun _ _ _ _ _ _ us hl => match us, hl with | [_], _ => rfl) (fun vs H Q E h => ?_) fun f cdv A outer s H vs Q E hr h => ?_
  · obtain ⟨z, ⟨p, n, t, rfl, _⟩, _⟩ := h
    rfl
  · refine ⟨_, (pss_one (ps_ret (pe_op op_fdiv (pe_callB (kr_sum (K := K)) rfl G.sum boot_sum (pa_cons (pe_lc (own := [("row", 1)]) (g := gName 1) rfl sc_road_count.nd (pk_list (K := K) (pv 0)) (blkOk_by (N := ["times", "row", "time"]) (sc := defScope (top 4)) (by decide +kernel)) (fun _ _ _ _ _ => pg_name (i := 1) sc_road_count.nd rfl (Or.inl rfl)) (fun _ _ _ _ _ => pts_nil) (fun _ _ _ _ _ => (pe_callB (kr_len (K := K)) rfl G.len PySem.boot_len (pa_cons (pe_lc (own := [("time", 2)]) (g := gName 2) rfl sc_road_count.nd (pk_list (K := K) (pv 1)) (blkOk_by (N := ["times", "row", "time"]) (sc := _) rfl) (fun _ _ _ _ _ => pg_name (i := 2) sc_road_count.nd rfl (Or.inl rfl)) (fun _ _ _ _ _ => pts_one (pt_cmpR op_gt (pv 2) pe_int (nomark _))) (fun _ _ _ _ _ => (pv 2))) pa_nil)))) pa_nil)) pe_int))), ?_⟩
    obtain ⟨z, ⟨p, n, t, rfl, ⟨as, h1, h2⟩, hn, rfl⟩, k⟩ := h
    have ht : ∀ (x : Nat), (decide ((0 : Int) < (x : Int))) = decide (0 < x) := fun x => decide_eq_decide.mpr (by omega)
    refine s_ret (ev_is (ev_op (ev_sumN (l := (List.range n).map fun a => ((List.range n).filter fun b => decide (0 < t a b)).length) (el_is (el_lcL (fun _ => true) (fun a => iV ((List.range n).filter fun b => decide (0 < t a b)).length) (ev_var rfl) (sq_of h1) (by rw [refs_len]; omega) (fun _ => rfl) (fun i x H1 e hx => et_yes) fun i x H1 e hx _ => ?_) ?_)) ev_c (rv_I ⟨by decide, by decide⟩)) ?_) k
    · obtain ⟨hi, rfl⟩ := ref_of hx
      have hr := e _ _ (h2 i hi)
      refine ev_is (ev_lenN (el_lcL (xs := rV n (t i)) (fun b => decide (0 < t i b)) (fun b => iV (t i b)) (ev_var rfl) (sq_of hr) (by rw [List.length_map, List.length_range]; omega) (fun _ => rfl) (fun j y H2 e2 hy => ?_) fun j y H2 e2 hy _ => ?_)) ?_
      · obtain ⟨hj, rfl⟩ := row_of hy
        exact et_is (et_test (ev_op (ev_var rfl) ev_c rv_I0)) (ht _)
      · obtain ⟨hj, rfl⟩ := row_of hy
        exact ev_var rfl
      · unfold given
        rw [List.length_map, List.length_map, List.length_range]
    · unfold given nV
      rw [refs_len, filter_yes, List.map_map]
      rfl
    · rw [Ns.roadsN]
      rfl
theorem sc_direct_distance : FnScope ["times", "a", "b"] ["times", "a", "b"] (defScope (top 5)) := ⟨rfl, rfl, rfl, by decide +kernel, rfl, by decide +kernel, by decide +kernel⟩
theorem cal_direct_distance (d : Df K mg "direct_distance" (top 5)) (G : Gb mg) : Cal P w K mg base 1 "direct_distance" spDirectD := by
  refine cal_of d sc_direct_distance (fun _ _ _ _ _ _ us hl => match us, hl with | [_, _, _], _ => rfl) (fun vs H Q E h => ?_) fun f cdv A outer s H vs Q E hr h => ?_
  · obtain ⟨z, ⟨p, n, t, a, b, rfl, _⟩, _⟩ := h
    rfl
  · refine ⟨_, (pss_cons (ps_if (pt_cmpR op_eq (pv 1) (pv 2) (nomark _)) (pss_one (ps_ret pe_int)) pss_nil)
      (pss_one (ps_ret (pe_ifExp (pt_cmpR op_gt (pe_ix (kr_ix (K := K)) (pe_ix (kr_ix (K := K)) (pv 0) (pv 1) (fun _ _ => rfl)) (pv 2) (fun _ _ => rfl)) pe_int (nomark _)) (pe_ix (kr_ix (K := K)) (pe_ix (kr_ix (K := K)) (pv 0) (pv 1) (fun _ _ => rfl)) (pv 2) (fun _ _ => rfl)) (pe_g G.far))))), ?_⟩
    obtain ⟨z, ⟨p, n, t, a, b, rfl, hm, ha, hb, rfl⟩, k⟩ := h
    refine q_when (et_is (et_test (ev_op (ev_var rfl) (ev_var rfl) (rv_eq rfl))) int_dec) (fun c H1 e => s_ret (ev_is ev_c ?_) fun H2 e2 => k H2 (e.trans e2)) fun c H1 e => s_ret (ev_if (et_test (ev_op (ev_mx (hm.mono e) (ev_var rfl) (ev_var rfl) (ev_var rfl) ha hb) ev_c rv_I0)) (fun c2 => ev_is (ev_mx (hm.mono e) (ev_var rfl) (ev_var rfl) (ev_var rfl) ha hb) ?_) fun c2 => ev_is ev_c ?_) fun H2 e2 => k H2 (e.trans e2)
    · unfold Ns.direct
      rw [if_pos (of_decide_eq_true c)]
      rfl
    · have c3 := of_decide_eq_true c2
      unfold Ns.direct
      rw [if_neg (of_decide_eq_false c), if_pos (by omega)]
    · have c3 := of_decide_eq_false c2
      unfold Ns.direct
      rw [if_neg (of_decide_eq_false c), if_neg (by omega)]
      rfl
theorem sc_direct_row : FnScope ["times", "a", "b"] ["times", "a"] (defScope (top 6)) := ⟨rfl, rfl, rfl, by decide +kernel, rfl, by decide +kernel, by decide +kernel⟩
theorem cal_direct_row (d : Df K mg "direct_row" (top 6)) (G : Gb mg) (cD : Cal P w K mg base 1 "direct_distance" spDirectD) : Cal P w K mg base 2 "direct_row" spDirectRow := by
  refine cal_of d sc_direct_row (fun _ _ _ _ _ _ us hl => match us, hl with | [_, _], _ => rfl) (fun vs H Q E h => ?_) fun f cdv A outer s H vs Q E hr h => ?_
  · obtain ⟨z, ⟨p, n, t, a, rfl, _⟩, _⟩ := h
    rfl
  · refine ⟨_, (pss_one (ps_ret (pe_lc (own := [("b", 2)]) (g := gName 2) rfl sc_direct_row.nd (pi_range1 rfl G.range (pa_cons (pe_callB (kr_len (K := K)) rfl G.len PySem.boot_len (pa_cons (pv 0) pa_nil)) pa_nil)) (blkOk_by (N := ["times", "a", "b"]) (sc := defScope (top 6)) (by decide +kernel)) (fun _ _ _ _ _ => pg_name (i := 2) sc_direct_row.nd rfl (Or.inl rfl)) (fun _ _ _ _ _ => pts_nil) (fun _ _ _ _ _ => (pe_cl cD hr (by decide) (pa_cons (pv 0) (pa_cons (pv 1) (pa_cons (pv 2) pa_nil)))))))), ?_⟩
    obtain ⟨z, ⟨p, n, t, a, rfl, hm, hn, ha, rfl⟩, k⟩ := h
    exact s_retL (el_is (el_rng (fun _ => true) (fun b => iV (Ns.direct t a b)) (ea1 (ev_lenM (ev_var rfl) hm)) (by omega) (fun _ => rfl) (fun i hi H1 e => et_yes) fun i hi _ H1 e => ev_cv (ea3 (ev_var rfl) (ev_var rfl) (ev_var rfl)) fun H2 e2 => ⟨p, n, t, a, i, rfl, hm.mono (e.trans e2), ha, hi, rfl⟩) filter_yes) k
theorem sc_direct_rows : FnScope ["times", "a"] ["times"] (defScope (top 7)) := ⟨rfl, rfl, rfl, by decide +kernel, rfl, by decide +kernel, by decide +kernel⟩
theorem cal_direct_rows (d : Df K mg "direct_rows" (top 7)) (G : Gb mg) (cD : Cal P w K mg base 2 "direct_row" spDirectRow) : Cal P w K mg base 3 "direct_rows" spDirectRows := by
  refine cal_of d sc_direct_rows (fun _ _ _ _ _ _ us hl => match us, hl with | [_], _ => rfl) (fun vs H Q E h => ?_) fun f cdv A outer s H vs Q E hr h => ?_
  · obtain ⟨n, t, ⟨p, t0, rfl, _⟩, _⟩ := h
    rfl
  · refine ⟨_, (pss_one (ps_ret (pe_lc (own := [("a", 1)]) (g := gName 1) rfl sc_direct_rows.nd (pi_range1 rfl G.range (pa_cons (pe_callB (kr_len (K := K)) rfl G.len PySem.boot_len (pa_cons (pv 0) pa_nil)) pa_nil)) (blkOk_by (N := ["times", "a"]) (sc := defScope (top 7)) (by decide +kernel)) (fun _ _ _ _ _ => pg_name (i := 1) sc_direct_rows.nd rfl (Or.inl rfl)) (fun _ _ _ _ _ => pts_nil) (fun _ _ _ _ _ => (pe_cl cD hr (by decide) (pa_cons (pv 0) (pa_cons (pv 1) pa_nil))))))), ?_⟩
    obtain ⟨n, dd, ⟨p, t, rfl, hm, hn, rfl⟩, k⟩ := h
    exact s_retM (emx_of (ell_rng (fun a => rV n (Ns.direct t a)) (ea1 (ev_lenM (ev_var rfl) hm)) (by omega) (fun _ => rfl) fun i hi H1 e => el_cv (ea2 (ev_var rfl) (ev_var rfl)) fun H2 e2 => ⟨p, n, t, i, rfl, hm.mono (e.trans e2), hn, hi, rfl⟩)) k
theorem sc_row_through : FnScope ["rows", "a", "middle", "b"] ["rows", "a", "middle"] (defScope (top 8)) := ⟨rfl, rfl, rfl, by decide +kernel, rfl, by decide +kernel, by decide +kernel⟩
theorem cal_row_through (d : Df K mg "row_through" (top 8)) (G : Gb mg) : Cal P w K mg base 1 "row_through" spRowThrough := by
  refine cal_of d sc_row_through (fun _ _ _ _ _ _ us hl => match us, hl with | [_, _, _], _ => rfl) (fun vs H Q E h => ?_) fun f cdv A outer s H vs Q E hr h => ?_
  · obtain ⟨z, ⟨p, n, t, a, m, rfl, _⟩, _⟩ := h
    rfl
  · refine ⟨_, (pss_one (ps_ret (pe_lc (own := [("b", 3)]) (g := gName 3) rfl sc_row_through.nd (pi_range1 rfl G.range (pa_cons (pe_callB (kr_len (K := K)) rfl G.len PySem.boot_len (pa_cons (pv 0) pa_nil)) pa_nil)) (blkOk_by (N := ["rows", "a", "middle", "b"]) (sc := defScope (top 8)) (by decide +kernel)) (fun _ _ _ _ _ => pg_name (i := 3) sc_row_through.nd rfl (Or.inl rfl)) (fun _ _ _ _ _ => pts_nil) (fun _ _ _ _ _ => (pe_callB (kr_min2) rfl G.min boot_min (pa_cons (pe_ix (kr_ix (K := K)) (pe_ix (kr_ix (K := K)) (pv 0) (pv 1) (fun _ _ => rfl)) (pv 3) (fun _ _ => rfl)) (pa_cons (pe_op op_add (pe_ix (kr_ix (K := K)) (pe_ix (kr_ix (K := K)) (pv 0) (pv 1) (fun _ _ => rfl)) (pv 2) (fun _ _ => rfl)) (pe_ix (kr_ix (K := K)) (pe_ix (kr_ix (K := K)) (pv 0) (pv 2) (fun _ _ => rfl)) (pv 3) (fun _ _ => rfl))) pa_nil))))))), ?_⟩
    obtain ⟨z, ⟨p, n, dd, a, m, rfl, hm, hn, ha, hmm, rfl⟩, k⟩ := h
    exact s_retL (el_is (el_rng (fun _ => true) (fun b => iV (Ns.thru dd m a b)) (ea1 (ev_lenM (ev_var rfl) hm)) (by omega) (fun _ => rfl) (fun i hi H1 e => et_yes) fun i hi _ H1 e =>
      ev_min2 (ev_mx (hm.mono e) (ev_var rfl) (ev_var rfl) (ev_var rfl) ha hi) (ev_is (ev_op (ev_mx (hm.mono e) (ev_var rfl) (ev_var rfl) (ev_var rfl) ha hmm) (ev_mx (hm.mono e) (ev_var rfl) (ev_var rfl) (ev_var rfl) hmm hi) rv_I0) (congrArg V.int (Int.natCast_add _ _).symm))) filter_yes) k
theorem sc_distance_rows : FnScope ["times", "rows", "middle", "a"] ["times"] (defScope (top 9)) := ⟨rfl, rfl, rfl, by decide +kernel, rfl, by decide +kernel, by decide +kernel⟩
theorem cal_distance_rows (d : Df K mg "distance_rows" (top 9)) (G : Gb mg) (cD : Cal P w K mg base 3 "direct_rows" spDirectRows) (cT : Cal P w K mg base 1 "row_through" spRowThrough) : Cal P w K mg base 4 "distance_rows" spDistRows := by
  refine cal_of d sc_distance_rows (fun _ _ _ _ _ _ us hl => match us, hl with | [_], _ => rfl) (fun vs H Q E h => ?_) fun f cdv A outer s H vs Q E hr h => ?_
  · obtain ⟨n, t, ⟨p, t0, rfl, _⟩, _⟩ := h
    rfl
  · refine ⟨_, (pss_cons (ps_set (i := 1) sc_distance_rows.nd rfl (Or.inr rfl) (pe_cl cD hr (by decide) (pa_cons (pv 0) pa_nil)))
      (pss_cons (ps_for PassesOwn.never rfl (pi_range1 rfl G.range (pa_cons (pe_callB (kr_len (K := K)) rfl G.len PySem.boot_len (pa_cons (pv 0) pa_nil)) pa_nil)) (pg_name (i := 2) sc_distance_rows.nd rfl (Or.inr rfl)) (pss_one (ps_set (i := 1) sc_distance_rows.nd rfl (Or.inr rfl) (pe_lc (own := [("a", 3)]) (g := gName 3) rfl sc_distance_rows.nd (pi_range1 rfl G.range (pa_cons (pe_callB (kr_len (K := K)) rfl G.len PySem.boot_len (pa_cons (pv 0) pa_nil)) pa_nil)) (blkOk_by (N := ["times", "rows", "middle", "a"]) (sc := defScope (top 9)) (by decide +kernel)) (fun _ _ _ _ _ => pg_name (i := 3) sc_distance_rows.nd rfl (Or.inl rfl)) (fun _ _ _ _ _ => pts_nil) (fun _ _ _ _ _ => (pe_cl cT hr (by decide) (pa_cons (pv 1) (pa_cons (pv 3) (pa_cons (pv 2) pa_nil)))))))))
      (pss_one (ps_ret (pv 1))))), ?_⟩
    obtain ⟨n, dd, ⟨p, t, rfl, hm, hn, rfl⟩, k⟩ := h
    refine q_asgM (em_cv (ea1 (ev_var rfl)) fun H1 e => ⟨p, t, rfl, hm.mono e, hn, rfl⟩) fun r0 H1 hr0 e1 hm1 => ?_
    refine q_forR1 (n := (n : Int)) (ea1 (ev_lenM (ev_var rfl) (hm.mono e1))) ⟨by omega, by omega⟩ (fun i σ' H' => ∃ (v : Option V) (r : Addr), σ' = [some (.ref p), some (.ref r), v, none] ∧ H r = none ∧ Ex H H' ∧ Mx H' r n (Ns.distK t i))
      (fun H2 e2 => ⟨none, r0, rfl, hr0, e1.trans e2, hm1.mono e2⟩) ?_ ?_
    · rintro i σ' H' hi ⟨v, r, rfl, hr, e, hr1⟩
      have hi' : i < n := by omega
      refine s_asgM (emx_of (ell_rng (fun a => rV n (Ns.thru (Ns.distK t i) i a)) (ea1 (ev_lenM (ev_var rfl) (hm.mono e))) (by omega) (fun _ => rfl) fun a ha H2 e2 => el_cv (ea3 (ev_var rfl) (ev_var rfl) (ev_var rfl)) fun H3 e3 => ⟨r, n, Ns.distK t i, a, i, rfl, hr1.mono (e2.trans e3), hn, ha, hi', rfl⟩)) fun r2 H2 hr2 e2 hm2 => ?_
      refine ⟨some (iV i), r2, rfl, fresh_back e hr2, e.trans e2, ?_⟩
      rw [Ns.distK_succ]
      exact hm2
    · rintro σ' H' ⟨v, r, rfl, hr, e, hr1⟩
      rw [Int.toNat_natCast] at hr1
      exact s_ret (ev_var rfl) fun H2 e2 => k r H2 hr (e.trans e2) (hr1.mono e2)
theorem sc_is_connected : FnScope ["rows", "row"] ["rows"] (defScope (top 10)) := ⟨rfl, rfl, rfl, by decide +kernel, rfl, by decide +kernel, by decide +kernel⟩
theorem cal_is_connected (d : Df K mg "is_connected" (top 10)) (G : Gb mg) : Cal P w K mg base 1 "is_connected" spConn := by
  refine cal_of d sc_is_connected (fun _ _ _ _ _ _ us hl => match us, hl with | [_], _ => rfl) (fun vs H Q E h => ?_) fun f cdv A outer s H vs Q E hr h => ?_
  · obtain ⟨z, ⟨p, n, t, rfl, _⟩, _⟩ := h
    rfl
  · refine ⟨_, (pss_one (ps_ret (pe_callB (kr_all (K := K)) rfl G.all boot_all (pa_cons (pe_lc (own := [("row", 1)]) (g := gName 1) rfl sc_is_connected.nd (pk_list (K := K) (pv 0)) (blkOk_by (N := ["rows", "row"]) (sc := defScope (top 10)) (by decide +kernel)) (fun _ _ _ _ _ => pg_name (i := 1) sc_is_connected.nd rfl (Or.inl rfl)) (fun _ _ _ _ _ => pts_nil) (fun _ _ _ _ _ => (pe_cmpR op_lt (pe_callB (kr_max (K := K)) rfl G.max boot_max (pa_cons (pv 1) pa_nil)) (pe_g G.far) (nomark _)))) pa_nil)))), ?_⟩
    obtain ⟨z, ⟨p, n, dd, rfl, ⟨as, h1, h2⟩, h0, hn, rfl⟩, k⟩ := h
    refine s_ret (ev_is (ev_all (bs := (List.range n).map fun a => decide (Ns.maxD ((List.range n).map (dd a)) 0 < 1000)) (el_is (el_lcL (fun _ => true) (fun a => V.bl (decide (Ns.maxD ((List.range n).map (dd a)) 0 < 1000))) (ev_var rfl) (sq_of h1) (by rw [refs_len]; omega) (fun _ => rfl) (fun i x H1 e hx => et_yes) fun i x H1 e hx _ => ?_) ?_)) ?_) k
    · obtain ⟨hi, rfl⟩ := ref_of hx
      have hr := e _ _ (h2 i hi)
      cases el : (List.range n).map (dd i) with
      | nil =>
        have := congrArg List.length el
        rw [List.length_map, List.length_range, List.length_nil] at this
        omega
      | cons x r =>
        rw [rV_nV, el] at hr
        exact ev_is (ev_op (ev_max1 (ev_var rfl) (sq_of hr)) ev_c rv_I0) (congrArg V.bl (decide_eq_decide.mpr (by show ((r.foldl max x : Nat) : Int) < 1000 ↔ r.foldl max x < 1000; omega)))
    · unfold given
      rw [refs_len, filter_yes, List.map_map]
      rfl
    · unfold Ns.conn
      rw [List.all_map]
      rfl
end
end Nw

/-! ### 3g. The walk: measures -/
namespace Nw
open PySem PySem.Spec PyProof.Rows L2 Evl
open Ns (Vec Mat)
section
variable {P : Program} {w : World} {K : PySem.W.Frag} {mg : Str → Option Value} {base : Heap}
def spSd : Sp := spV fun vs H z => ∃ (p : Addr) (n : Nat) (dd : Mat) (g a : Nat), vs = [.ref p, iV g, iV a] ∧ Mx H p n dd ∧ n ≤ 7 ∧ a < n ∧ z = iV (Ns.sd n dd g a)
def spNear : Sp := spV fun vs H z => ∃ (p : Addr) (n : Nat) (dd : Mat) (g a : Nat), vs = [.ref p, iV g, iV a] ∧ Mx H p n dd ∧ n ≤ 7 ∧ a < n ∧ z = .int (Ns.near n dd g a)
def spGd : Sp := spV fun vs H z => ∃ (p r : Addr) (n : Nat) (dd : Mat) (pe : Vec) (g : Nat), vs = [.ref p, .ref r, iV g] ∧ Mx H p n dd ∧ H r = some (.lst (rV n pe)) ∧ n ≤ 7 ∧ z = iV (Ns.gd n dd pe g)
def spTd : Sp := spV fun vs H z => ∃ (p r : Addr) (n : Nat) (dd : Mat) (pe : Vec) (g : Nat), vs = [.ref p, .ref r, iV g] ∧ Mx H p n dd ∧ H r = some (.lst (rV n pe)) ∧ n ≤ 7 ∧ (∀ p, pe p ≤ 99) ∧ z = iV (Ns.td n dd pe g)
def spLoss : Sp := spV fun vs H z => ∃ (p r : Addr) (n : Nat) (dd : Mat) (pe : Vec) (g : Nat), vs = [.ref p, .ref r, iV g] ∧ Mx H p n dd ∧ H r = some (.lst (rV n pe)) ∧ n ≤ 7 ∧ Ns.mem n g ≠ [] ∧ z = iV (Ns.loss n dd pe g)
def spPos : Sp := spV fun vs H z => ∃ (p r : Addr) (n : Nat) (dd : Mat) (pe : Vec) (g s : Nat), vs = [.ref p, .ref r, iV g, iV s] ∧ Mx H p n dd ∧ H r = some (.lst (rV n pe)) ∧ n ≤ 7 ∧ z = iV (Ns.pos n dd pe g s)
def spWithin : Sp := spL fun vs H xs => ∃ (p : Addr) (n : Nat) (dd : Mat) (g r : Nat), vs = [.ref p, iV g, iV r] ∧ Mx H p n dd ∧ n ≤ 7 ∧ xs = nV (Ns.within n dd g r)
theorem mem_len (n g : Nat) : (Ns.mem n g).length ≤ n := Ns.mem_short n g
theorem nV_map {α : Type} (l : List α) (f : α → Nat) : (l.map fun x => iV (f x)) = nV (l.map f) := by
  unfold nV
  rw [List.map_map]
  rfl
theorem dec_gt (x : Nat) : decide ((0 : Int) < (x : Int)) = decide (0 < x) := decide_eq_decide.mpr (by omega)
theorem ppl_len (n : Nat) (pe : Vec) : (Ns.ppl n pe).length ≤ n := by
  have h := List.length_filter_le (fun p => decide (0 < pe p)) (List.range n)
  rw [List.length_range] at h
  exact h
theorem sc_store_distance : FnScope ["rows", "group", "place", "store"] ["rows", "group", "place"] (defScope (top 23)) := ⟨rfl, rfl, rfl, by decide +kernel, rfl, by decide +kernel, by decide +kernel⟩
theorem cal_store_distance (d : Df K mg "store_distance" (top 23)) (G : Gb mg) (cM : Cal P w K mg base 2 "members" spMembers) : Cal P w K mg base 3 "store_distance" spSd := by
  refine cal_of d sc_store_distance (fun _ _ _ _ _ _ us hl => match us, hl with | [_, _, _], _ => rfl) (fun vs H Q E h => ?_) fun f cdv A outer s H vs Q E hr h => ?_
  · obtain ⟨z, ⟨p, n, dd, g, a, rfl, _⟩, _⟩ := h
    rfl
  · refine ⟨_, (pss_one (ps_ret (pe_callBK (kr_minD (K := K) hr.units) rfl G.min boot_min (pa_cons (pe_lc (own := [("store", 3)]) (g := gName 3) rfl sc_store_distance.nd (pk_list (K := K) (pe_cl cM hr (by decide) (pa_cons (pv 1) (pa_cons (pe_callB (kr_len (K := K)) rfl G.len PySem.boot_len (pa_cons (pv 0) pa_nil)) pa_nil)))) (blkOk_by (N := ["rows", "group", "place", "store"]) (sc := defScope (top 23)) (by decide +kernel)) (fun _ _ _ _ _ => pg_name (i := 3) sc_store_distance.nd rfl (Or.inl rfl)) (fun _ _ _ _ _ => pts_nil) (fun _ _ _ _ _ => (pe_ix (kr_ix (K := K)) (pe_ix (kr_ix (K := K)) (pv 0) (pv 2) (fun _ _ => rfl)) (pv 3) (fun _ _ => rfl)))) pa_nil) (pk_cons (pe_g G.far) pk_nil)))), ?_⟩
    obtain ⟨z, ⟨p, n, dd, g, a, rfl, hm, hn, ha, rfl⟩, k⟩ := h
    have hl := mem_len n g
    exact s_ret (ev_minD (l := (Ns.mem n g).map (dd a)) (d := 1000) (el_is (el_lcNN (l := Ns.mem n g) (fun _ => true) (fun s => iV (dd a s)) (el_cv (ea2 (ev_var rfl) (ev_lenM (ev_var rfl) hm)) fun H1 e => ⟨g, n, rfl, hn, rfl⟩) (by omega) (fun _ => rfl) (fun s hs H1 e => et_yes)
      fun s hs _ H1 e => ev_mx (hm.mono e) (ev_var rfl) (ev_var rfl) (ev_var rfl) ha (Ns.mem_lt hs)) (filter_yes.trans (nV_map _ _))) fun H1 e => ev_c) k
theorem sc_nearest_store : FnScope ["rows", "group", "place", "least", "store"] ["rows", "group", "place"] (defScope (top 24)) := ⟨rfl, rfl, rfl, by decide +kernel, rfl, by decide +kernel, by decide +kernel⟩
theorem cal_nearest_store (d : Df K mg "nearest_store" (top 24)) (G : Gb mg) (cM : Cal P w K mg base 2 "members" spMembers) (cS : Cal P w K mg base 3 "store_distance" spSd) : Cal P w K mg base 4 "nearest_store" spNear := by
  refine cal_of d sc_nearest_store (fun _ _ _ _ _ _ us hl => match us, hl with | [_, _, _], _ => rfl) (fun vs H Q E h => ?_) fun f cdv A outer s H vs Q E hr h => ?_
  · obtain ⟨z, ⟨p, n, dd, g, a, rfl, _⟩, _⟩ := h
    rfl
  · refine ⟨_, (pss_cons (ps_set (i := 3) sc_nearest_store.nd rfl (Or.inr rfl) (pe_cl cS hr (by decide) (pa_cons (pv 0) (pa_cons (pv 1) (pa_cons (pv 2) pa_nil)))))
      (pss_cons (ps_if (pt_cmpR op_eq (pv 3) (pe_g G.far) (nomark _)) (pss_one (ps_ret (pe_g G.nowhere))) pss_nil)
      (pss_one (ps_ret (pe_callB (kr_min (K := K)) rfl G.min boot_min (pa_cons (pe_lc (own := [("store", 4)]) (g := gName 4) rfl sc_nearest_store.nd (pk_list (K := K) (pe_cl cM hr (by decide) (pa_cons (pv 1) (pa_cons (pe_callB (kr_len (K := K)) rfl G.len PySem.boot_len (pa_cons (pv 0) pa_nil)) pa_nil)))) (blkOk_by (N := ["rows", "group", "place", "least", "store"]) (sc := defScope (top 24)) (by decide +kernel)) (fun _ _ _ _ _ => pg_name (i := 4) sc_nearest_store.nd rfl (Or.inl rfl)) (fun _ _ _ _ _ => pts_one (pt_cmpR op_eq (pe_ix (kr_ix (K := K)) (pe_ix (kr_ix (K := K)) (pv 0) (pv 2) (fun _ _ => rfl)) (pv 4) (fun _ _ => rfl)) (pv 3) (nomark _))) (fun _ _ _ _ _ => (pv 4))) pa_nil)))))), ?_⟩
    obtain ⟨z, ⟨p, n, dd, g, a, rfl, hm, hn, ha, rfl⟩, k⟩ := h
    have hl := mem_len n g
    refine q_asg (ev_cv (ea3 (ev_var rfl) (ev_var rfl) (ev_var rfl)) fun H1 e => ⟨p, n, dd, g, a, rfl, hm.mono e, hn, ha, rfl⟩) fun H1 e1 => ?_
    refine q_when (et_is (et_test (ev_op (ev_var rfl) ev_c (rv_eq rfl))) (int_dec (a := Ns.sd n dd g a) (b := 1000))) (fun c H2 e2 => ?_) fun c H2 e2 => ?_
    · refine s_ret (ev_is ev_c ?_) fun H3 e3 => k H3 ((e1.trans e2).trans e3)
      unfold Ns.near
      rw [if_pos (of_decide_eq_true c)]
    · have c' := of_decide_eq_false c
      obtain ⟨x, r, h1, h2, _⟩ := Ns.near_some c'
      have hm2 := hm.mono (e1.trans e2)
      rw [h2] at k
      have hp : (Ns.nst n dd g a).Pairwise (· < ·) := (Ns.pair_filter n _).filter _
      rw [h1] at hp
      have hx : Ns.minD (x :: r) 0 = x := Ns.minD_head hp 0
      refine s_ret (ev_is (ev_minN (x := x) (r := r) (el_is (el_lcNN (l := Ns.mem n g) (fun s => decide (dd a s = Ns.sd n dd g a)) iV (el_cv (ea2 (ev_var rfl) (ev_lenM (ev_var rfl) hm2)) fun H1 e => ⟨g, n, rfl, hn, rfl⟩) (by omega) (fun _ => rfl)
        (fun s hs H3 e3 => et_is (et_test (ev_op (ev_mx (hm2.mono e3) (ev_var rfl) (ev_var rfl) (ev_var rfl) ha (Ns.mem_lt hs)) (ev_var rfl) (rv_eq rfl))) int_dec) fun s hs _ H3 e3 => ev_var rfl) ?_)) ?_) fun H3 e3 => k H3 ((e1.trans e2).trans e3)
      · rw [← h1]
        rfl
      · show iV (Ns.minD (x :: r) 0) = _
        rw [hx]
theorem sc_greatest_distance : FnScope ["rows", "people", "group", "places", "place"] ["rows", "people", "group"] (defScope (top 25)) := ⟨rfl, rfl, rfl, by decide +kernel, rfl, by decide +kernel, by decide +kernel⟩
theorem cal_greatest_distance (d : Df K mg "greatest_distance" (top 25)) (G : Gb mg) (cS : Cal P w K mg base 3 "store_distance" spSd) : Cal P w K mg base 4 "greatest_distance" spGd := by
  refine cal_of d sc_greatest_distance (fun _ _ _ _ _ _ us hl => match us, hl with | [_, _, _], _ => rfl) (fun vs H Q E h => ?_) fun f cdv A outer s H vs Q E hr h => ?_
  · obtain ⟨z, ⟨p, r, n, dd, pe, g, rfl, _⟩, _⟩ := h
    rfl
  · refine ⟨_, (pss_cons (ps_setLc (i := 3) (own := [("place", 4)]) (g := gName 4) rfl sc_greatest_distance.nd rfl rfl (sw_true rfl rfl rfl (by decide +kernel)) (pi_range1 rfl G.range (pa_cons (pe_callB (kr_len (K := K)) rfl G.len PySem.boot_len (pa_cons (pv 1) pa_nil)) pa_nil)) (blkOk_by (N := ["rows", "people", "group", "places", "place"]) (sc := defScope (top 25)) (by decide +kernel)) (fun _ _ _ _ _ => pg_name (i := 4) sc_greatest_distance.nd rfl (Or.inl rfl)) (fun _ _ _ _ _ => pts_one (pt_cmpR op_gt (pe_ix (kr_ix (K := K)) (pv 1) (pv 4) (fun _ _ => rfl)) pe_int (nomark _))) (fun _ _ _ _ _ => (pv 4)))
      (pss_one (ps_ret (pe_callBK (kr_maxD (K := K) hr.units) rfl G.max boot_max (pa_cons (pe_lc (own := [("place", 4)]) (g := gName 4) rfl sc_greatest_distance.nd (pk_list (K := K) (pv 3)) (blkOk_by (N := ["rows", "people", "group", "places", "place"]) (sc := defScope (top 25)) (by decide +kernel)) (fun _ _ _ _ _ => pg_name (i := 4) sc_greatest_distance.nd rfl (Or.inl rfl)) (fun _ _ _ _ _ => pts_nil) (fun _ _ _ _ _ => (pe_cl cS hr (by decide) (pa_cons (pv 0) (pa_cons (pv 2) (pa_cons (pv 4) pa_nil)))))) pa_nil) (pk_cons pe_int pk_nil))))), ?_⟩
    obtain ⟨z, ⟨p, r, n, dd, pe, g, rfl, hm, hr, hn, rfl⟩, k⟩ := h
    refine q_asgL (xs := nV (Ns.ppl n pe)) (el_is (el_rng (fun i => decide (0 < pe i)) iV (ea1 (ev_lenR (ev_var rfl) hr)) (by omega) (fun _ => rfl) (fun i hi H1 e => et_is (et_test (ev_op (ev_at (e _ _ hr) (ev_var rfl) (ev_var rfl) hi) ev_c rv_I0)) (dec_gt _)) fun i hi _ H1 e => ev_var rfl) rfl) fun pl H1 hpl e1 hq => ?_
    have hpn := ppl_len n pe
    exact s_ret (ev_maxD (l := (Ns.ppl n pe).map (Ns.sd n dd g)) (d := 0) (el_is (el_lcN (l := Ns.ppl n pe) (fun _ => true) (fun a => iV (Ns.sd n dd g a)) (ev_var rfl) (sq_of hq) (by omega) (fun _ => rfl) (fun s hs H2 e2 => et_yes)
      fun s hs _ H2 e2 => ev_cv (ea3 (ev_var rfl) (ev_var rfl) (ev_var rfl)) fun H3 e3 => ⟨p, n, dd, g, s, rfl, hm.mono ((e1.trans e2).trans e3), hn, Ns.ppl_lt hs, rfl⟩) (filter_yes.trans (nV_map _ _))) fun H2 e2 => ev_c) fun H2 e2 => k H2 (e1.trans e2)
theorem sc_total_distance : FnScope ["rows", "people", "group", "places", "place"] ["rows", "people", "group"] (defScope (top 26)) := ⟨rfl, rfl, rfl, by decide +kernel, rfl, by decide +kernel, by decide +kernel⟩
theorem cal_total_distance (d : Df K mg "total_distance" (top 26)) (G : Gb mg) (cS : Cal P w K mg base 3 "store_distance" spSd) : Cal P w K mg base 4 "total_distance" spTd := by
  refine cal_of d sc_total_distance (fun _ _ _ _ _ _ us hl => match us, hl with | [_, _, _], _ => rfl) (fun vs H Q E h => ?_) fun f cdv A outer s H vs Q E hr h => ?_
  · obtain ⟨z, ⟨p, r, n, dd, pe, g, rfl, _⟩, _⟩ := h
    rfl
  · refine ⟨_, (pss_cons (ps_setLc (i := 3) (own := [("place", 4)]) (g := gName 4) rfl sc_total_distance.nd rfl rfl (sw_true rfl rfl rfl (by decide +kernel)) (pi_range1 rfl G.range (pa_cons (pe_callB (kr_len (K := K)) rfl G.len PySem.boot_len (pa_cons (pv 1) pa_nil)) pa_nil)) (blkOk_by (N := ["rows", "people", "group", "places", "place"]) (sc := defScope (top 26)) (by decide +kernel)) (fun _ _ _ _ _ => pg_name (i := 4) sc_total_distance.nd rfl (Or.inl rfl)) (fun _ _ _ _ _ => pts_one (pt_cmpR op_gt (pe_ix (kr_ix (K := K)) (pv 1) (pv 4) (fun _ _ => rfl)) pe_int (nomark _))) (fun _ _ _ _ _ => (pv 4)))
      (pss_one (ps_ret (pe_callB (kr_sum (K := K)) rfl G.sum boot_sum (pa_cons (pe_lc (own := [("place", 4)]) (g := gName 4) rfl sc_total_distance.nd (pk_list (K := K) (pv 3)) (blkOk_by (N := ["rows", "people", "group", "places", "place"]) (sc := defScope (top 26)) (by decide +kernel)) (fun _ _ _ _ _ => pg_name (i := 4) sc_total_distance.nd rfl (Or.inl rfl)) (fun _ _ _ _ _ => pts_nil) (fun _ _ _ _ _ => (pe_op op_mul (pe_ix (kr_ix (K := K)) (pv 1) (pv 4) (fun _ _ => rfl)) (pe_cl cS hr (by decide) (pa_cons (pv 0) (pa_cons (pv 2) (pa_cons (pv 4) pa_nil))))))) pa_nil))))), ?_⟩
    obtain ⟨z, ⟨p, r, n, dd, pe, g, rfl, hm, hr, hn, hp99, rfl⟩, k⟩ := h
    refine q_asgL (xs := nV (Ns.ppl n pe)) (el_is (el_rng (fun i => decide (0 < pe i)) iV (ea1 (ev_lenR (ev_var rfl) hr)) (by omega) (fun _ => rfl) (fun i hi H1 e => et_is (et_test (ev_op (ev_at (e _ _ hr) (ev_var rfl) (ev_var rfl) hi) ev_c rv_I0)) (dec_gt _)) fun i hi _ H1 e => ev_var rfl) rfl) fun pl H1 hpl e1 hq => ?_
    have hpn := ppl_len n pe
    exact s_ret (ev_sumN (l := (Ns.ppl n pe).map fun a => pe a * Ns.sd n dd g a) (el_is (el_lcN (l := Ns.ppl n pe) (fun _ => true) (fun a => iV (pe a * Ns.sd n dd g a)) (ev_var rfl) (sq_of hq) (by omega) (fun _ => rfl) (fun s hs H2 e2 => et_yes)
      fun s hs _ H2 e2 => ev_is (ev_op (ev_at (e2 _ _ (e1 _ _ hr)) (ev_var rfl) (ev_var rfl) (Ns.ppl_lt hs)) (ev_cv (ea3 (ev_var rfl) (ev_var rfl) (ev_var rfl)) fun H3 e3 => ⟨p, n, dd, g, s, rfl, hm.mono ((e1.trans e2).trans e3), hn, Ns.ppl_lt hs, rfl⟩) (rv_I (by have := hp99 s; exact .inl ⟨by omega, by omega⟩)))
        (congrArg V.int (Int.natCast_mul _ _).symm)) (filter_yes.trans (nV_map _ _)))) fun H2 e2 => k H2 (e1.trans e2)
theorem sc_distance_after_loss : FnScope ["rows", "people", "group", "stores", "store"] ["rows", "people", "group"] (defScope (top 27)) := ⟨rfl, rfl, rfl, by decide +kernel, rfl, by decide +kernel, by decide +kernel⟩
theorem cal_distance_after_loss (d : Df K mg "distance_after_loss" (top 27)) (G : Gb mg) (cM : Cal P w K mg base 2 "members" spMembers) (cW : Cal P w K mg base 1 "without_place" spWithout) (cG : Cal P w K mg base 4 "greatest_distance" spGd) : Cal P w K mg base 5 "distance_after_loss" spLoss := by
  refine cal_of d sc_distance_after_loss (fun _ _ _ _ _ _ us hl => match us, hl with | [_, _, _], _ => rfl) (fun vs H Q E h => ?_) fun f cdv A outer s H vs Q E hr h => ?_
  · obtain ⟨z, ⟨p, r, n, dd, pe, g, rfl, _⟩, _⟩ := h
    rfl
  · refine ⟨_, (pss_cons (ps_set (i := 3) sc_distance_after_loss.nd rfl (Or.inl rfl) (pe_cl cM hr (by decide) (pa_cons (pv 2) (pa_cons (pe_callB (kr_len (K := K)) rfl G.len PySem.boot_len (pa_cons (pv 0) pa_nil)) pa_nil))))
      (pss_one (ps_ret (pe_callB (kr_max (K := K)) rfl G.max boot_max (pa_cons (pe_lc (own := [("store", 4)]) (g := gName 4) rfl sc_distance_after_loss.nd (pk_list (K := K) (pv 3)) (blkOk_by (N := ["rows", "people", "group", "stores", "store"]) (sc := defScope (top 27)) (by decide +kernel)) (fun _ _ _ _ _ => pg_name (i := 4) sc_distance_after_loss.nd rfl (Or.inl rfl)) (fun _ _ _ _ _ => pts_nil) (fun _ _ _ _ _ => (pe_cl cG hr (by decide) (pa_cons (pv 0) (pa_cons (pv 1) (pa_cons (pe_cl cW hr (by decide) (pa_cons (pv 2) (pa_cons (pv 4) pa_nil))) pa_nil)))))) pa_nil))))), ?_⟩
    obtain ⟨z, ⟨p, r, n, dd, pe, g, rfl, hm, hr, hn, hne, rfl⟩, k⟩ := h
    have hl := mem_len n g
    refine q_asgL (el_cv (ea2 (ev_var rfl) (ev_lenM (ev_var rfl) hm)) fun H1 e => ⟨g, n, rfl, hn, rfl⟩) fun q H1 hq0 e1 hq => ?_
    have main : EvL _ _ H1 (nV ((Ns.mem n g).map fun s => Ns.gd n dd pe (g - 2 ^ s))) := el_is (el_lcN (K := K) (σ := [some (.ref p), some (.ref r), some (iV g), some (.ref q), none]) (tl := tVar 3) (te := tCall spGd [] E0 (tCons (tVar 0) (tCons (tVar 1) (tCons (tCall spWithout [] E0 (tCons (tVar 2) (tCons (tVar 4) tNil))) tNil)))) (t := tYes) (j := 4) (vs := [4])
      (l := Ns.mem n g) (fun _ => true) (fun s => iV (Ns.gd n dd pe (g - 2 ^ s))) (ev_var rfl) (sq_of hq) (by omega) (fun _ => rfl) (fun s hs H2 e2 => et_yes)
      fun s hs _ H2 e2 => ev_cv (ea3 (ev_var rfl) (ev_var rfl) (ev_cv (ea2 (ev_var rfl) (ev_var rfl)) fun H3 e3 => ⟨g, s, rfl, by have := Ns.mem_lt hs; omega, Ns.mem_bit hs, rfl⟩)) fun H3 e3 => ⟨p, r, n, dd, pe, g - 2 ^ s, rfl, hm.mono ((e1.trans e2).trans e3), e3 _ _ (e2 _ _ (e1 _ _ hr)), hn, rfl⟩) (filter_yes.trans (nV_map _ _))
    unfold Ns.loss at k
    cases el : (Ns.mem n g).map fun s => Ns.gd n dd pe (g - 2 ^ s) with
    | nil =>
      exact absurd (List.map_eq_nil_iff.mp el) hne
    | cons x t =>
      rw [el] at main k
      exact s_ret (ev_maxN main) fun H2 e2 => k H2 (e1.trans e2)
theorem int_decI {a b : Int} : decide (V.int a = V.int b) = decide (a = b) := decide_eq_decide.mpr ⟨fun h => V.int.inj h, fun h => by rw [h]⟩
theorem filter_map_iV (l : List Nat) (F : Nat → Bool) (v : Nat → Nat) : (l.filter F).map (fun x => iV (v x)) = nV ((l.filter F).map v) := nV_map _ _
theorem sc_people_of_store : FnScope ["rows", "people", "group", "store", "place"] ["rows", "people", "group", "store"] (defScope (top 28)) := ⟨rfl, rfl, rfl, by decide +kernel, rfl, by decide +kernel, by decide +kernel⟩
theorem cal_people_of_store (d : Df K mg "people_of_store" (top 28)) (G : Gb mg) (cN : Cal P w K mg base 4 "nearest_store" spNear) : Cal P w K mg base 5 "people_of_store" spPos := by
  refine cal_of d sc_people_of_store (fun _ _ _ _ _ _ us hl => match us, hl with | [_, _, _, _], _ => rfl) (fun vs H Q E h => ?_) fun f cdv A outer s H vs Q E hr h => ?_
  · obtain ⟨z, ⟨p, r, n, dd, pe, g, s0, rfl, _⟩, _⟩ := h
    rfl
  · refine ⟨_, (pss_one (ps_ret (pe_callB (kr_sum (K := K)) rfl G.sum boot_sum (pa_cons (pe_lc (own := [("place", 4)]) (g := gName 4) rfl sc_people_of_store.nd (pi_range1 rfl G.range (pa_cons (pe_callB (kr_len (K := K)) rfl G.len PySem.boot_len (pa_cons (pv 1) pa_nil)) pa_nil)) (blkOk_by (N := ["rows", "people", "group", "store", "place"]) (sc := defScope (top 28)) (by decide +kernel)) (fun _ _ _ _ _ => pg_name (i := 4) sc_people_of_store.nd rfl (Or.inl rfl)) (fun _ _ _ _ _ => pts_one (pt_cmpR op_eq (pe_cl cN hr (by decide) (pa_cons (pv 0) (pa_cons (pv 2) (pa_cons (pv 4) pa_nil)))) (pv 3) (nomark _))) (fun _ _ _ _ _ => (pe_ix (kr_ix (K := K)) (pv 1) (pv 4) (fun _ _ => rfl)))) pa_nil)))), ?_⟩
    obtain ⟨z, ⟨p, r, n, dd, pe, g, s0, rfl, hm, hr, hn, rfl⟩, k⟩ := h
    exact s_ret (ev_sumN (l := ((List.range n).filter fun a => decide (Ns.near n dd g a = (s0 : Int))).map pe) (el_is (el_rng (fun a => decide (Ns.near n dd g a = (s0 : Int))) (fun a => iV (pe a)) (ea1 (ev_lenR (ev_var rfl) hr)) (by omega) (fun _ => rfl)
      (fun i hi H1 e => et_is (et_test (ev_op (ev_cv (ea3 (ev_var rfl) (ev_var rfl) (ev_var rfl)) fun H2 e2 => ⟨p, n, dd, g, i, rfl, hm.mono (e.trans e2), hn, hi, rfl⟩) (ev_var rfl) (rv_eq rfl))) int_decI) fun i hi _ H1 e => ev_at (e _ _ hr) (ev_var rfl) (ev_var rfl) hi) (filter_map_iV _ _ _))) k
theorem sc_places_within : FnScope ["rows", "group", "radius", "place"] ["rows", "group", "radius"] (defScope (top 29)) := ⟨rfl, rfl, rfl, by decide +kernel, rfl, by decide +kernel, by decide +kernel⟩
theorem cal_places_within (d : Df K mg "places_within" (top 29)) (G : Gb mg) (cS : Cal P w K mg base 3 "store_distance" spSd) : Cal P w K mg base 4 "places_within" spWithin := by
  refine cal_of d sc_places_within (fun _ _ _ _ _ _ us hl => match us, hl with | [_, _, _], _ => rfl) (fun vs H Q E h => ?_) fun f cdv A outer s H vs Q E hr h => ?_
  · obtain ⟨z, ⟨p, n, dd, g, r, rfl, _⟩, _⟩ := h
    rfl
  · refine ⟨_, (pss_one (ps_ret (pe_lc (own := [("place", 3)]) (g := gName 3) rfl sc_places_within.nd (pi_range1 rfl G.range (pa_cons (pe_callB (kr_len (K := K)) rfl G.len PySem.boot_len (pa_cons (pv 0) pa_nil)) pa_nil)) (blkOk_by (N := ["rows", "group", "radius", "place"]) (sc := defScope (top 29)) (by decide +kernel)) (fun _ _ _ _ _ => pg_name (i := 3) sc_places_within.nd rfl (Or.inl rfl)) (fun _ _ _ _ _ => pts_one (pt_cmpR op_le (pe_cl cS hr (by decide) (pa_cons (pv 0) (pa_cons (pv 1) (pa_cons (pv 3) pa_nil)))) (pe_callB (kr_min2) rfl G.min boot_min (pa_cons (pv 2) (pa_cons (pe_op op_sub (pe_g G.far) pe_int) pa_nil))) (nomark _))) (fun _ _ _ _ _ => (pv 3))))), ?_⟩
    obtain ⟨z, ⟨p, n, dd, g, r, rfl, hm, hn, rfl⟩, k⟩ := h
    exact s_retL (el_rng (fun a => decide (Ns.sd n dd g a ≤ min r 999)) iV (ea1 (ev_lenM (ev_var rfl) hm)) (by omega) (fun _ => rfl)
      (fun i hi H1 e => et_is (et_test (ev_op (ev_cv (ea3 (ev_var rfl) (ev_var rfl) (ev_var rfl)) fun H2 e2 => ⟨p, n, dd, g, i, rfl, hm.mono (e.trans e2), hn, hi, rfl⟩) (ev_min2 (y := 999) (ev_var rfl) (ev_op ev_c ev_c rv_I0)) rv_I0)) (decide_eq_decide.mpr (by omega))) fun i hi _ H1 e => ev_var rfl) k
end
end Nw

/-! ### 3h. The walk: choices -/
namespace Nw
open PySem PySem.Spec PyProof.Rows L2 Evl
open Ns (Vec Mat)
section
variable {P : Program} {w : World} {K : PySem.W.Frag} {mg : Str → Option Value} {base : Heap}
def spBestC : Sp := spV fun vs H z => ∃ (p r : Addr) (n : Nat) (dd : Mat) (pe : Vec) (k : Nat), vs = [.ref p, .ref r, iV k] ∧ Mx H p n dd ∧ H r = some (.lst (rV n pe)) ∧ n ≤ 7 ∧ k ≤ n ∧ z = iV (Ns.bestOf n k (Ns.gd n dd pe))
def spBestM : Sp := spV fun vs H z => ∃ (p r : Addr) (n : Nat) (dd : Mat) (pe : Vec) (k : Nat), vs = [.ref p, .ref r, iV k] ∧ Mx H p n dd ∧ H r = some (.lst (rV n pe)) ∧ n ≤ 7 ∧ k ≤ n ∧ (∀ p, pe p ≤ 99) ∧ z = iV (Ns.bestOf n k (Ns.td n dd pe))
def spBestR : Sp := spV fun vs H z => ∃ (p r : Addr) (n : Nat) (dd : Mat) (pe : Vec) (k : Nat), vs = [.ref p, .ref r, iV k] ∧ Mx H p n dd ∧ H r = some (.lst (rV n pe)) ∧ n ≤ 7 ∧ k ≤ n ∧ 2 ≤ k ∧ z = iV (Ns.bestOf n k (Ns.loss n dd pe))
def spCover : Sp := spV fun vs H z => ∃ (p r : Addr) (n : Nat) (dd : Mat) (pe : Vec) (g ra : Nat), vs = [.ref p, .ref r, iV g, iV ra] ∧ Mx H p n dd ∧ H r = some (.lst (rV n pe)) ∧ n ≤ 7 ∧ z = .bl (Ns.cover n dd pe ra g)
def spSmall : Sp := spV fun vs H z => ∃ (p r : Addr) (n : Nat) (dd : Mat) (pe : Vec) (ra : Nat), vs = [.ref p, .ref r, iV ra] ∧ Mx H p n dd ∧ H r = some (.lst (rV n pe)) ∧ n ≤ 7 ∧ z = iV (Ns.small n dd pe ra)
def spFar (K : PySem.W.Frag) : Sp := spV fun vs H z => ∃ (p r : Addr) (n : Nat) (dd : Mat) (ps : List Nat) (g : Nat), vs = [.ref p, .ref r, iV g] ∧ Mx H p n dd ∧ SqL K H r (nV ps) ∧ n ≤ 7 ∧ (∀ x ∈ ps, x < n) ∧ ps.length ≤ 100 ∧ Ns.outs ps g ≠ [] ∧ z = iV (Ns.far n dd ps g)
def spFf : Sp := spV fun vs H z => ∃ (p r : Addr) (n : Nat) (dd : Mat) (pe : Vec) (k : Nat), vs = [.ref p, .ref r, iV k] ∧ Mx H p n dd ∧ H r = some (.lst (rV n pe)) ∧ n ≤ 7 ∧ z = iV (Ns.ff n dd pe k)
def spAddl : Sp := spV fun vs H z => ∃ (p r : Addr) (n : Nat) (dd : Mat) (pe : Vec) (g : Nat), vs = [.ref p, .ref r, iV g] ∧ Mx H p n dd ∧ H r = some (.lst (rV n pe)) ∧ n ≤ 7 ∧ Ns.outs (List.range n) g ≠ [] ∧ z = iV (Ns.addl n dd pe g)
theorem groups_short {n k : Nat} (h : n ≤ 7) : (Ns.groups n k).length ≤ 128 := by
  have h1 := List.length_filter_le (fun g => decide ((Ns.mem n g).length = k)) (List.range (2 ^ n))
  rw [List.length_range] at h1
  exact Nat.le_trans h1 (pow_le7 h)
theorem pos_of_ne {l : List Nat} (h : l ≠ []) : 0 < l.length := by
  cases l with
  | nil => exact absurd rfl h
  | cons _ _ => simp
theorem nV_cast (l : List Nat) (f : Nat → Nat) : (l.map fun x => iV (f x)) = (l.map fun x => ((f x : Nat) : Int)).map V.int := by
  rw [List.map_map]
  rfl
theorem sc_best_centers : FnScope ["rows", "people", "size", "groups", "group"] ["rows", "people", "size"] (defScope (top 31)) := ⟨rfl, rfl, rfl, by decide +kernel, rfl, by decide +kernel, by decide +kernel⟩
theorem cal_best_centers (d : Df K mg "best_centers" (top 31)) (G : Gb mg) (cF : Cal P w K mg base 1 "first_with_least" (spFwl K)) (cA : Cal P w K mg base 3 "groups_of" spGroups) (cX : Cal P w K mg base 4 "greatest_distance" spGd) : Cal P w K mg base 5 "best_centers" spBestC := by
  refine cal_of d sc_best_centers (fun _ _ _ _ _ _ us hl => match us, hl with | [_, _, _], _ => rfl) (fun vs H Q E h => ?_) fun f cdv A outer s H vs Q E hr h => ?_
  · obtain ⟨z, ⟨p, r, n, dd, pe, k0, rfl, _⟩, _⟩ := h
    rfl
  · refine ⟨_, (pss_cons (ps_set (i := 3) sc_best_centers.nd rfl (Or.inl rfl) (pe_cl cA hr (by decide) (pa_cons (pe_callB (kr_len (K := K)) rfl G.len PySem.boot_len (pa_cons (pv 0) pa_nil)) (pa_cons (pv 2) pa_nil))))
      (pss_one (ps_ret (pe_cl cF hr (by decide) (pa_cons (pv 3) (pa_cons (pe_lc (own := [("group", 4)]) (g := gName 4) rfl sc_best_centers.nd (pk_list (K := K) (pv 3)) (blkOk_by (N := ["rows", "people", "size", "groups", "group"]) (sc := defScope (top 31)) (by decide +kernel)) (fun _ _ _ _ _ => pg_name (i := 4) sc_best_centers.nd rfl (Or.inl rfl)) (fun _ _ _ _ _ => pts_nil) (fun _ _ _ _ _ => (pe_cl cX hr (by decide) (pa_cons (pv 0) (pa_cons (pv 1) (pa_cons (pv 4) pa_nil)))))) pa_nil)))))), ?_⟩
    obtain ⟨z, ⟨p, r, n, dd, pe, k0, rfl, hm, hr, hn, hk, rfl⟩, k⟩ := h
    have hl := groups_short (k := k0) hn
    have hne := Ns.groups_some n hn k0 hk
    refine q_asgL (el_cv (ea2 (ev_lenM (ev_var rfl) hm) (ev_var rfl)) fun H1 e => ⟨n, k0, rfl, hn, rfl⟩) fun q H1 hq0 e1 hq => ?_
    exact s_ret (ev_cvP (ap_2L (ev_var rfl) (el_is (el_lcN (l := Ns.groups n k0) (fun _ => true) (fun g => iV (Ns.gd n dd pe g)) (ev_var rfl) (sq_of hq) (by omega) (fun _ => rfl) (fun s hs H2 e2 => et_yes)
      fun s hs _ H2 e2 => ev_cv (ea3 (ev_var rfl) (ev_var rfl) (ev_var rfl)) fun H3 e3 => ⟨p, r, n, dd, pe, s, rfl, hm.mono ((e1.trans e2).trans e3), e3 _ _ (e2 _ _ (e1 _ _ hr)), hn, rfl⟩) (filter_yes.trans (nV_cast _ _))))
      fun vs H2 e2 ⟨t, ht, ht2⟩ => ⟨q, t, Ns.groups n k0, (Ns.groups n k0).map fun g => ((Ns.gd n dd pe g : Nat) : Int), ht, sq_of (e2 _ _ hq), sq_of ht2, by rw [List.length_map], pos_of_ne hne, by omega, rfl⟩) fun H2 e2 => k H2 (e1.trans e2)
theorem sc_best_medians : FnScope ["rows", "people", "size", "groups", "group"] ["rows", "people", "size"] (defScope (top 32)) := ⟨rfl, rfl, rfl, by decide +kernel, rfl, by decide +kernel, by decide +kernel⟩
theorem cal_best_medians (d : Df K mg "best_medians" (top 32)) (G : Gb mg) (cF : Cal P w K mg base 1 "first_with_least" (spFwl K)) (cA : Cal P w K mg base 3 "groups_of" spGroups) (cX : Cal P w K mg base 4 "total_distance" spTd) : Cal P w K mg base 5 "best_medians" spBestM := by
  refine cal_of d sc_best_medians (fun _ _ _ _ _ _ us hl => match us, hl with | [_, _, _], _ => rfl) (fun vs H Q E h => ?_) fun f cdv A outer s H vs Q E hr h => ?_
  · obtain ⟨z, ⟨p, r, n, dd, pe, k0, rfl, _⟩, _⟩ := h
    rfl
  · refine ⟨_, (pss_cons (ps_set (i := 3) sc_best_medians.nd rfl (Or.inl rfl) (pe_cl cA hr (by decide) (pa_cons (pe_callB (kr_len (K := K)) rfl G.len PySem.boot_len (pa_cons (pv 0) pa_nil)) (pa_cons (pv 2) pa_nil))))
      (pss_one (ps_ret (pe_cl cF hr (by decide) (pa_cons (pv 3) (pa_cons (pe_lc (own := [("group", 4)]) (g := gName 4) rfl sc_best_medians.nd (pk_list (K := K) (pv 3)) (blkOk_by (N := ["rows", "people", "size", "groups", "group"]) (sc := defScope (top 32)) (by decide +kernel)) (fun _ _ _ _ _ => pg_name (i := 4) sc_best_medians.nd rfl (Or.inl rfl)) (fun _ _ _ _ _ => pts_nil) (fun _ _ _ _ _ => (pe_cl cX hr (by decide) (pa_cons (pv 0) (pa_cons (pv 1) (pa_cons (pv 4) pa_nil)))))) pa_nil)))))), ?_⟩
    obtain ⟨z, ⟨p, r, n, dd, pe, k0, rfl, hm, hr, hn, hk, hp99, rfl⟩, k⟩ := h
    have hl := groups_short (k := k0) hn
    have hne := Ns.groups_some n hn k0 hk
    refine q_asgL (el_cv (ea2 (ev_lenM (ev_var rfl) hm) (ev_var rfl)) fun H1 e => ⟨n, k0, rfl, hn, rfl⟩) fun q H1 hq0 e1 hq => ?_
    exact s_ret (ev_cvP (ap_2L (ev_var rfl) (el_is (el_lcN (l := Ns.groups n k0) (fun _ => true) (fun g => iV (Ns.td n dd pe g)) (ev_var rfl) (sq_of hq) (by omega) (fun _ => rfl) (fun s hs H2 e2 => et_yes)
      fun s hs _ H2 e2 => ev_cv (ea3 (ev_var rfl) (ev_var rfl) (ev_var rfl)) fun H3 e3 => ⟨p, r, n, dd, pe, s, rfl, hm.mono ((e1.trans e2).trans e3), e3 _ _ (e2 _ _ (e1 _ _ hr)), hn, hp99, rfl⟩) (filter_yes.trans (nV_cast _ _))))
      fun vs H2 e2 ⟨t, ht, ht2⟩ => ⟨q, t, Ns.groups n k0, (Ns.groups n k0).map fun g => ((Ns.td n dd pe g : Nat) : Int), ht, sq_of (e2 _ _ hq), sq_of ht2, by rw [List.length_map], pos_of_ne hne, by omega, rfl⟩) fun H2 e2 => k H2 (e1.trans e2)
theorem sc_best_robust_centers : FnScope ["rows", "people", "size", "groups", "group"] ["rows", "people", "size"] (defScope (top 33)) := ⟨rfl, rfl, rfl, by decide +kernel, rfl, by decide +kernel, by decide +kernel⟩
theorem cal_best_robust_centers (d : Df K mg "best_robust_centers" (top 33)) (G : Gb mg) (cF : Cal P w K mg base 1 "first_with_least" (spFwl K)) (cA : Cal P w K mg base 3 "groups_of" spGroups) (cX : Cal P w K mg base 5 "distance_after_loss" spLoss) : Cal P w K mg base 6 "best_robust_centers" spBestR := by
  refine cal_of d sc_best_robust_centers (fun _ _ _ _ _ _ us hl => match us, hl with | [_, _, _], _ => rfl) (fun vs H Q E h => ?_) fun f cdv A outer s H vs Q E hr h => ?_
  · obtain ⟨z, ⟨p, r, n, dd, pe, k0, rfl, _⟩, _⟩ := h
    rfl
  · refine ⟨_, (pss_cons (ps_set (i := 3) sc_best_robust_centers.nd rfl (Or.inl rfl) (pe_cl cA hr (by decide) (pa_cons (pe_callB (kr_len (K := K)) rfl G.len PySem.boot_len (pa_cons (pv 0) pa_nil)) (pa_cons (pv 2) pa_nil))))
      (pss_one (ps_ret (pe_cl cF hr (by decide) (pa_cons (pv 3) (pa_cons (pe_lc (own := [("group", 4)]) (g := gName 4) rfl sc_best_robust_centers.nd (pk_list (K := K) (pv 3)) (blkOk_by (N := ["rows", "people", "size", "groups", "group"]) (sc := defScope (top 33)) (by decide +kernel)) (fun _ _ _ _ _ => pg_name (i := 4) sc_best_robust_centers.nd rfl (Or.inl rfl)) (fun _ _ _ _ _ => pts_nil) (fun _ _ _ _ _ => (pe_cl cX hr (by decide) (pa_cons (pv 0) (pa_cons (pv 1) (pa_cons (pv 4) pa_nil)))))) pa_nil)))))), ?_⟩
    obtain ⟨z, ⟨p, r, n, dd, pe, k0, rfl, hm, hr, hn, hk, h2k, rfl⟩, k⟩ := h
    have hl := groups_short (k := k0) hn
    have hne := Ns.groups_some n hn k0 hk
    refine q_asgL (el_cv (ea2 (ev_lenM (ev_var rfl) hm) (ev_var rfl)) fun H1 e => ⟨n, k0, rfl, hn, rfl⟩) fun q H1 hq0 e1 hq => ?_
    exact s_ret (ev_cvP (ap_2L (ev_var rfl) (el_is (el_lcN (l := Ns.groups n k0) (fun _ => true) (fun g => iV (Ns.loss n dd pe g)) (ev_var rfl) (sq_of hq) (by omega) (fun _ => rfl) (fun s hs H2 e2 => et_yes)
      fun s hs _ H2 e2 => ev_cv (ea3 (ev_var rfl) (ev_var rfl) (ev_var rfl)) fun H3 e3 => ⟨p, r, n, dd, pe, s, rfl, hm.mono ((e1.trans e2).trans e3), e3 _ _ (e2 _ _ (e1 _ _ hr)), hn, Ns.ne_of_len hs (by omega), rfl⟩) (filter_yes.trans (nV_cast _ _))))
      fun vs H2 e2 ⟨t, ht, ht2⟩ => ⟨q, t, Ns.groups n k0, (Ns.groups n k0).map fun g => ((Ns.loss n dd pe g : Nat) : Int), ht, sq_of (e2 _ _ hq), sq_of ht2, by rw [List.length_map], pos_of_ne hne, by omega, rfl⟩) fun H2 e2 => k H2 (e1.trans e2)
theorem sc_is_cover : FnScope ["rows", "people", "group", "radius"] ["rows", "people", "group", "radius"] (defScope (top 34)) := ⟨rfl, rfl, rfl, by decide +kernel, rfl, by decide +kernel, by decide +kernel⟩
theorem cal_is_cover (d : Df K mg "is_cover" (top 34)) (G : Gb mg) (cG : Cal P w K mg base 4 "greatest_distance" spGd) : Cal P w K mg base 5 "is_cover" spCover := by
  refine cal_of d sc_is_cover (fun _ _ _ _ _ _ us hl => match us, hl with | [_, _, _, _], _ => rfl) (fun vs H Q E h => ?_) fun f cdv A outer s H vs Q E hr h => ?_
  · obtain ⟨z, ⟨p, r, n, dd, pe, g, ra, rfl, _⟩, _⟩ := h
    rfl
  · refine ⟨_, (pss_one (ps_ret (pe_cmpR op_le (pe_cl cG hr (by decide) (pa_cons (pv 0) (pa_cons (pv 1) (pa_cons (pv 2) pa_nil)))) (pe_callB (kr_min2) rfl G.min boot_min (pa_cons (pv 3) (pa_cons (pe_op op_sub (pe_g G.far) pe_int) pa_nil))) (nomark _)))), ?_⟩
    obtain ⟨z, ⟨p, r, n, dd, pe, g, ra, rfl, hm, hr, hn, rfl⟩, k⟩ := h
    exact s_ret (ev_is (ev_op (ev_cv (ea3 (ev_var rfl) (ev_var rfl) (ev_var rfl)) fun H2 e2 => ⟨p, r, n, dd, pe, g, rfl, hm.mono e2, e2 _ _ hr, hn, rfl⟩) (ev_min2 (y := 999) (ev_var rfl) (ev_op ev_c ev_c rv_I0)) rv_I0) (congrArg V.bl (decide_eq_decide.mpr (by omega)))) k
theorem sc_smallest_cover : FnScope ["rows", "people", "radius", "size", "covers", "group"] ["rows", "people", "radius"] (defScope (top 35)) := ⟨rfl, rfl, rfl, by decide +kernel, rfl, by decide +kernel, by decide +kernel⟩
theorem cal_smallest_cover (d : Df K mg "smallest_cover" (top 35)) (G : Gb mg) (cA : Cal P w K mg base 3 "groups_of" spGroups) (cV : Cal P w K mg base 5 "is_cover" spCover) : Cal P w K mg base 6 "smallest_cover" spSmall := by
  refine cal_of d sc_smallest_cover (fun _ _ _ _ _ _ us hl => match us, hl with | [_, _, _], _ => rfl) (fun vs H Q E h => ?_) fun f cdv A outer s H vs Q E hr h => ?_
  · obtain ⟨z, ⟨p, r, n, dd, pe, ra, rfl, _⟩, _⟩ := h
    rfl
  · refine ⟨_, (pss_cons (ps_for PassesOwn.never rfl (pi_range1 rfl G.range (pa_cons (pe_callB (kr_len (K := K)) rfl G.len PySem.boot_len (pa_cons (pv 0) pa_nil)) pa_nil)) (pg_name (i := 3) sc_smallest_cover.nd rfl (Or.inl rfl)) (pss_cons (ps_setLc (i := 4) (own := [("group", 5)]) (g := gName 5) rfl sc_smallest_cover.nd rfl rfl (sw_true rfl rfl rfl (by decide +kernel)) (pk_list (K := K) (pe_cl cA hr (by decide) (pa_cons (pe_callB (kr_len (K := K)) rfl G.len PySem.boot_len (pa_cons (pv 0) pa_nil)) (pa_cons (pv 3) pa_nil)))) (blkOk_by (N := ["rows", "people", "radius", "size", "covers", "group"]) (sc := defScope (top 35)) (by decide +kernel)) (fun _ _ _ _ _ => pg_name (i := 5) sc_smallest_cover.nd rfl (Or.inl rfl)) (fun _ _ _ _ _ => pts_one (pt_val (pe_cl cV hr (by decide) (pa_cons (pv 0) (pa_cons (pv 1) (pa_cons (pv 5) (pa_cons (pv 2) pa_nil))))))) (fun _ _ _ _ _ => (pv 5)))
      (pss_one (ps_if (pt_cmpR (op_neD hr.units) (pv 4) (pe_lst pa_nil) (nomark _)) (pss_one (ps_ret (pe_ix (kr_ix (K := K)) (pv 4) pe_int (fun _ _ => rfl)))) pss_nil))))
      (pss_one (ps_ret (pe_op op_sub (pe_op op_shl pe_int (pe_callB (kr_len (K := K)) rfl G.len PySem.boot_len (pa_cons (pv 0) pa_nil))) pe_int)))), ?_⟩
    obtain ⟨z, ⟨p, r, n, dd, pe, ra, rfl, hm, hr, hn, rfl⟩, k⟩ := h
    refine q_forR1 (n := (n : Int)) (ea1 (ev_lenM (ev_var rfl) hm)) ⟨by omega, by omega⟩ (fun i σ' H' => ∃ v w : Option V, σ' = [some (.ref p), some (.ref r), some (iV ra), v, w, none] ∧ Ex H H' ∧ Ns.small n dd pe ra = Ns.smallFrom n dd pe ra (n - i) i)
      (fun H1 e1 => ⟨none, none, rfl, e1, rfl⟩) ?_ ?_
    · rintro i σ' H' hi ⟨v, w, rfl, e, hs⟩
      have hi' : i < n := by omega
      have hl := groups_short (k := i) hn
      have hlc : (Ns.covers n dd pe ra i).length ≤ 128 := Nat.le_trans (List.length_filter_le _ _) hl
      refine q_asgL (xs := nV (Ns.covers n dd pe ra i)) (el_lcNN (l := Ns.groups n i) (Ns.cover n dd pe ra) iV (el_cv (ea2 (ev_lenM (ev_var rfl) (hm.mono e)) (ev_var rfl)) fun H1 e1 => ⟨n, i, rfl, hn, rfl⟩) (by omega) (fun _ => rfl)
        (fun s hs H2 e2 => et_B (ev_cv (ea4 (ev_var rfl) (ev_var rfl) (ev_var rfl) (ev_var rfl)) fun H3 e3 => ⟨p, r, n, dd, pe, s, ra, rfl, hm.mono ((e.trans e2).trans e3), e3 _ _ (e2 _ _ (e _ _ hr)), hn, rfl⟩)) fun s hs _ H2 e2 => ev_var rfl) fun q H1 hq0 e1 hq => ?_
      have hst : Ns.smallFrom n dd pe ra (n - i) i = match Ns.covers n dd pe ra i with
        | [] => Ns.smallFrom n dd pe ra (n - (i + 1)) (i + 1)
        | g :: _ => g := by
        obtain ⟨j, hj⟩ : ∃ j, n - i = j + 1 := ⟨n - i - 1, by omega⟩
        have hj2 : n - (i + 1) = j := by omega
        rw [hj, hj2]
        rfl
      refine s_when (et_test (ev_neNil (ev_var rfl) (sq_of hq))) (fun c H2 e2 => ?_) fun c H2 e2 => ?_
      · have c' := of_decide_eq_true c
        cases el : Ns.covers n dd pe ra i with
        | nil => exact absurd el c'
        | cons x t =>
          rw [el] at hst hq
          rw [hs, hst] at k
          exact s_ret (ev_nat (i := 0) (x := x) (sq_of (e2 _ _ hq)) (ev_var rfl) ev_c rfl) fun H3 e3 => k H3 (((e.trans e1).trans e2).trans e3)
      · have c' : Ns.covers n dd pe ra i = [] := by
          have := of_decide_eq_false c
          cases el : Ns.covers n dd pe ra i with
          | nil => rfl
          | cons x t => rw [el] at this; exact absurd (by simp) this
        rw [c'] at hst
        exact ⟨some (iV i), some (.ref q), rfl, (e.trans e1).trans e2, hs.trans hst⟩
    · rintro σ' H' ⟨v, w, rfl, e, hs⟩
      rw [Int.toNat_natCast, Nat.sub_self] at hs
      rw [hs] at k
      refine s_ret (ev_is (ev_op (ev_op ev_c (ev_lenM (ev_var rfl) (hm.mono e)) (rv_I ⟨by omega, by omega, by decide⟩)) ev_c rv_I0) (congrArg V.int ?_)) fun H2 e2 => k H2 (e.trans e2)
      rw [one_shl]
      have := Nat.two_pow_pos n
      show ((2 ^ n : Nat) : Int) - 1 = ((2 ^ n - 1 : Nat) : Int)
      omega
theorem outs_short {ps : List Nat} {g : Nat} : (Ns.outs ps g).length ≤ ps.length := List.length_filter_le _ _
theorem nV_cast2 (l : List Nat) (f : Nat → Nat) : (l.map fun x => V.int (1000 - (f x : Int))) = (l.map fun x => 1000 - ((f x : Nat) : Int)).map V.int := by
  rw [List.map_map]
  rfl
theorem sc_farthest : FnScope ["rows", "places", "group", "left", "place"] ["rows", "places", "group"] (defScope (top 36)) := ⟨rfl, rfl, rfl, by decide +kernel, rfl, by decide +kernel, by decide +kernel⟩
theorem cal_farthest (d : Df K mg "farthest" (top 36)) (G : Gb mg) (cH : Cal P w K mg base 1 "has" spHas) (cF : Cal P w K mg base 1 "first_with_least" (spFwl K)) (cS : Cal P w K mg base 3 "store_distance" spSd) : Cal P w K mg base 4 "farthest" (spFar K) := by
  refine cal_of d sc_farthest (fun _ _ _ _ _ _ us hl => match us, hl with | [_, _, _], _ => rfl) (fun vs H Q E h => ?_) fun f cdv A outer s H vs Q E hr h => ?_
  · obtain ⟨z, ⟨p, r, n, dd, ps, g, rfl, _⟩, _⟩ := h
    rfl
  · refine ⟨_, (pss_cons (ps_setLc (i := 3) (own := [("place", 4)]) (g := gName 4) rfl sc_farthest.nd rfl rfl (sw_true rfl rfl rfl (by decide +kernel)) (pk_list (K := K) (pv 1)) (blkOk_by (N := ["rows", "places", "group", "left", "place"]) (sc := defScope (top 36)) (by decide +kernel)) (fun _ _ _ _ _ => pg_name (i := 4) sc_farthest.nd rfl (Or.inl rfl)) (fun _ _ _ _ _ => pts_one (pt_not (pt_val (pe_cl cH hr (by decide) (pa_cons (pv 2) (pa_cons (pv 4) pa_nil)))))) (fun _ _ _ _ _ => (pv 4)))
      (pss_one (ps_ret (pe_cl cF hr (by decide) (pa_cons (pv 3) (pa_cons (pe_lc (own := [("place", 4)]) (g := gName 4) rfl sc_farthest.nd (pk_list (K := K) (pv 3)) (blkOk_by (N := ["rows", "places", "group", "left", "place"]) (sc := defScope (top 36)) (by decide +kernel)) (fun _ _ _ _ _ => pg_name (i := 4) sc_farthest.nd rfl (Or.inl rfl)) (fun _ _ _ _ _ => pts_nil) (fun _ _ _ _ _ => (pe_op op_sub (pe_g G.far) (pe_cl cS hr (by decide) (pa_cons (pv 0) (pa_cons (pv 2) (pa_cons (pv 4) pa_nil))))))) pa_nil)))))), ?_⟩
    obtain ⟨z, ⟨p, r, n, dd, ps, g, rfl, hm, hr, hn, hlt, hl, hne, rfl⟩, k⟩ := h
    have hlo := outs_short (ps := ps) (g := g)
    refine q_asgL (xs := nV (Ns.outs ps g)) (el_lcN (l := ps) (fun a => !g.testBit a) iV (ev_var rfl) hr (by omega) (fun _ => rfl) (fun s hs H2 e2 => et_not (et_B (ev_cv (ea2 (ev_var rfl) (ev_var rfl)) fun H3 e3 => ⟨g, s, rfl, rfl⟩))) fun s hs _ H2 e2 => ev_var rfl) fun q H1 hq0 e1 hq => ?_
    exact s_ret (ev_cvP (ap_2L (ev_var rfl) (el_is (el_lcN (l := Ns.outs ps g) (fun _ => true) (fun a => V.int (1000 - (Ns.sd n dd g a : Int))) (ev_var rfl) (sq_of hq) (by omega) (fun _ => rfl) (fun s hs H2 e2 => et_yes)
      fun s hs _ H2 e2 => ev_op ev_c (ev_cv (ea3 (ev_var rfl) (ev_var rfl) (ev_var rfl)) fun H3 e3 => ⟨p, n, dd, g, s, rfl, hm.mono ((e1.trans e2).trans e3), hn, hlt s (List.mem_filter.mp hs).1, rfl⟩) rv_I0) (filter_yes.trans (nV_cast2 _ _))))
      fun vs H2 e2 ⟨t, ht, ht2⟩ => ⟨q, t, Ns.outs ps g, (Ns.outs ps g).map fun a => 1000 - ((Ns.sd n dd g a : Nat) : Int), ht, sq_of (e2 _ _ hq), sq_of ht2, by rw [List.length_map], pos_of_ne hne, by omega, rfl⟩) fun H2 e2 => k H2 (e1.trans e2)
theorem sc_farthest_first : FnScope ["rows", "people", "size", "places", "group", "turn", "place"] ["rows", "people", "size"] (defScope (top 37)) := ⟨rfl, rfl, rfl, by decide +kernel, rfl, by decide +kernel, by decide +kernel⟩
theorem cal_farthest_first (d : Df K mg "farthest_first" (top 37)) (G : Gb mg) (cW : Cal P w K mg base 1 "with_place" spWith) (cX : Cal P w K mg base 4 "farthest" (spFar K)) : Cal P w K mg base 5 "farthest_first" spFf := by
  refine cal_of d sc_farthest_first (fun _ _ _ _ _ _ us hl => match us, hl with | [_, _, _], _ => rfl) (fun vs H Q E h => ?_) fun f cdv A outer s H vs Q E hr h => ?_
  · obtain ⟨z, ⟨p, r, n, dd, pe, k0, rfl, _⟩, _⟩ := h
    rfl
  · refine ⟨_, (pss_cons (ps_setLc (i := 3) (own := [("place", 6)]) (g := gName 6) rfl sc_farthest_first.nd rfl rfl (sw_true rfl rfl rfl (by decide +kernel)) (pi_range1 rfl G.range (pa_cons (pe_callB (kr_len (K := K)) rfl G.len PySem.boot_len (pa_cons (pv 1) pa_nil)) pa_nil)) (blkOk_by (N := ["rows", "people", "size", "places", "group", "turn", "place"]) (sc := defScope (top 37)) (by decide +kernel)) (fun _ _ _ _ _ => pg_name (i := 6) sc_farthest_first.nd rfl (Or.inl rfl)) (fun _ _ _ _ _ => pts_one (pt_cmpR op_gt (pe_ix (kr_ix (K := K)) (pv 1) (pv 6) (fun _ _ => rfl)) pe_int (nomark _))) (fun _ _ _ _ _ => (pv 6)))
      (pss_cons (ps_set (i := 4) sc_farthest_first.nd rfl (Or.inl rfl) pe_int)
      (pss_cons (ps_for PassesOwn.never rfl (pi_range1 rfl G.range (pa_cons (pe_callB (kr_min2) rfl G.min boot_min (pa_cons (pv 2) (pa_cons (pe_callB (kr_len (K := K)) rfl G.len PySem.boot_len (pa_cons (pv 3) pa_nil)) pa_nil))) pa_nil)) (pg_name (i := 5) sc_farthest_first.nd rfl (Or.inl rfl)) (pss_one (ps_set (i := 4) sc_farthest_first.nd rfl (Or.inl rfl) (pe_cl cW hr (by decide) (pa_cons (pv 4) (pa_cons (pe_cl cX hr (by decide) (pa_cons (pv 0) (pa_cons (pv 3) (pa_cons (pv 4) pa_nil)))) pa_nil))))))
      (pss_one (ps_ret (pv 4)))))), ?_⟩
    obtain ⟨z, ⟨p, r, n, dd, pe, k0, rfl, hm, hr, hn, rfl⟩, k⟩ := h
    refine q_asgL (xs := nV (Ns.ppl n pe)) (el_is (el_rng (fun i => decide (0 < pe i)) iV (ea1 (ev_lenR (ev_var rfl) hr)) (by omega) (fun _ => rfl) (fun i hi H1 e => et_is (et_test (ev_op (ev_at (e _ _ hr) (ev_var rfl) (ev_var rfl) hi) ev_c rv_I0)) (dec_gt _)) fun i hi _ H1 e => ev_var rfl) rfl) fun pl H1 hpl e1 hq => ?_
    have hpn := ppl_len n pe
    refine q_asg ev_c fun H2 e2 => ?_
    refine q_forR1 (n := ((min k0 (Ns.ppl n pe).length : Nat) : Int)) (ea1 (ev_min2 (ev_var rfl) (ev_lenV (ev_var rfl) (sq_of (e2 _ _ hq))))) ⟨by omega, by omega⟩
      (fun i σ' H' => ∃ v : Option V, σ' = [some (.ref p), some (.ref r), some (iV k0), some (.ref pl), some (iV (Ns.ffK n dd pe i)), v, none] ∧ Ex H1 H') (fun H3 e3 => ⟨none, rfl, e2.trans e3⟩) ?_ ?_
    · rintro i σ' H' hi ⟨v, rfl, e⟩
      have hi' : i < (Ns.ppl n pe).length := by omega
      obtain ⟨hlt, hne⟩ := Ns.ffK_ok (d := dd) hn hi'
      have hin := Ns.far_in (n := n) (d := dd) hne
      have h7 := Ns.outs_lt hin
      refine s_asg (v := iV (Ns.ffK n dd pe (i + 1))) (ev_cv (ea2 (ev_var rfl) (ev_cv (ea3 (ev_var rfl) (ev_var rfl) (ev_var rfl)) fun H3 e3 => ⟨p, pl, n, dd, Ns.ppl n pe, Ns.ffK n dd pe i, rfl, hm.mono ((e1.trans e).trans e3), sq_of (e3 _ _ (e _ _ hq)), hn, fun x hx => Ns.ppl_lt hx, by omega, hne, rfl⟩)) fun H3 e3 =>
        ⟨Ns.ffK n dd pe i, Ns.far n dd (Ns.ppl n pe) (Ns.ffK n dd pe i), rfl, by omega, ?_⟩) fun H3 e3 => ⟨some (iV i), rfl, e.trans e3⟩
      unfold Ns.ffK
      rw [List.range_succ, List.foldl_append]
      rfl
    · rintro σ' H' ⟨v, rfl, e⟩
      rw [Int.toNat_natCast]
      exact s_ret (ev_var rfl) fun H3 e3 => k H3 ((e1.trans e).trans e3)
theorem sc_best_additional_store : FnScope ["rows", "people", "group", "places", "place"] ["rows", "people", "group"] (defScope (top 38)) := ⟨rfl, rfl, rfl, by decide +kernel, rfl, by decide +kernel, by decide +kernel⟩
theorem cal_best_additional_store (d : Df K mg "best_additional_store" (top 38)) (G : Gb mg) (cH : Cal P w K mg base 1 "has" spHas) (cW : Cal P w K mg base 1 "with_place" spWith) (cF : Cal P w K mg base 1 "first_with_least" (spFwl K)) (cG : Cal P w K mg base 4 "greatest_distance" spGd) : Cal P w K mg base 5 "best_additional_store" spAddl := by
  refine cal_of d sc_best_additional_store (fun _ _ _ _ _ _ us hl => match us, hl with | [_, _, _], _ => rfl) (fun vs H Q E h => ?_) fun f cdv A outer s H vs Q E hr h => ?_
  · obtain ⟨z, ⟨p, r, n, dd, pe, g, rfl, _⟩, _⟩ := h
    rfl
  · refine ⟨_, (pss_cons (ps_setLc (i := 3) (own := [("place", 4)]) (g := gName 4) rfl sc_best_additional_store.nd rfl rfl (sw_true rfl rfl rfl (by decide +kernel)) (pi_range1 rfl G.range (pa_cons (pe_callB (kr_len (K := K)) rfl G.len PySem.boot_len (pa_cons (pv 0) pa_nil)) pa_nil)) (blkOk_by (N := ["rows", "people", "group", "places", "place"]) (sc := defScope (top 38)) (by decide +kernel)) (fun _ _ _ _ _ => pg_name (i := 4) sc_best_additional_store.nd rfl (Or.inl rfl)) (fun _ _ _ _ _ => pts_one (pt_not (pt_val (pe_cl cH hr (by decide) (pa_cons (pv 2) (pa_cons (pv 4) pa_nil)))))) (fun _ _ _ _ _ => (pv 4)))
      (pss_one (ps_ret (pe_cl cF hr (by decide) (pa_cons (pv 3) (pa_cons (pe_lc (own := [("place", 4)]) (g := gName 4) rfl sc_best_additional_store.nd (pk_list (K := K) (pv 3)) (blkOk_by (N := ["rows", "people", "group", "places", "place"]) (sc := defScope (top 38)) (by decide +kernel)) (fun _ _ _ _ _ => pg_name (i := 4) sc_best_additional_store.nd rfl (Or.inl rfl)) (fun _ _ _ _ _ => pts_nil) (fun _ _ _ _ _ => (pe_cl cG hr (by decide) (pa_cons (pv 0) (pa_cons (pv 1) (pa_cons (pe_cl cW hr (by decide) (pa_cons (pv 2) (pa_cons (pv 4) pa_nil))) pa_nil)))))) pa_nil)))))), ?_⟩
    obtain ⟨z, ⟨p, r, n, dd, pe, g, rfl, hm, hr, hn, hne, rfl⟩, k⟩ := h
    have hlo : (Ns.outs (List.range n) g).length ≤ n := by
      have := outs_short (ps := List.range n) (g := g)
      rw [List.length_range] at this
      exact this
    refine q_asgL (xs := nV (Ns.outs (List.range n) g)) (el_rng (fun a => !g.testBit a) iV (ea1 (ev_lenM (ev_var rfl) hm)) (by omega) (fun _ => rfl) (fun s hs H2 e2 => et_not (et_B (ev_cv (ea2 (ev_var rfl) (ev_var rfl)) fun H3 e3 => ⟨g, s, rfl, rfl⟩))) fun s hs _ H2 e2 => ev_var rfl) fun q H1 hq0 e1 hq => ?_
    exact s_ret (ev_cvP (ap_2L (ev_var rfl) (el_is (el_lcN (l := Ns.outs (List.range n) g) (fun _ => true) (fun a => iV (Ns.gd n dd pe (g ||| 1 <<< a))) (ev_var rfl) (sq_of hq) (by omega) (fun _ => rfl) (fun s hs H2 e2 => et_yes)
      fun s hs _ H2 e2 => ev_cv (ea3 (ev_var rfl) (ev_var rfl) (ev_cv (ea2 (ev_var rfl) (ev_var rfl)) fun H3 e3 => ⟨g, s, rfl, by have := List.mem_range.mp (List.mem_filter.mp hs).1; omega, rfl⟩)) fun H3 e3 => ⟨p, r, n, dd, pe, g ||| 1 <<< s, rfl, hm.mono ((e1.trans e2).trans e3), e3 _ _ (e2 _ _ (e1 _ _ hr)), hn, rfl⟩) (filter_yes.trans (nV_cast _ _))))
      fun vs H2 e2 ⟨t, ht, ht2⟩ => ⟨q, t, Ns.outs (List.range n) g, (Ns.outs (List.range n) g).map fun a => ((Ns.gd n dd pe (g ||| 1 <<< a) : Nat) : Int), ht, sq_of (e2 _ _ hq), sq_of ht2, by rw [List.length_map], pos_of_ne hne, by omega, rfl⟩) fun H2 e2 => k H2 (e1.trans e2)
end
end Nw

/-! ### 3i. Instances, methods, the error that carries a code -/
namespace Nw
open PySem PySem.Spec PyProof.Rows L2 Evl
open Ns (Vec Mat M)
/-! #### attributes -/
section
variable {X : Cx} {K : PySem.W.Frag} {o e value : Expr} {f : Str} {pos pos' : Pos} {ta tv : TE}
theorem pk_fld (he : PE X e ta) (eK : X.K = K := by rfl) (hb : attributeBase e f X.env (eval e X.env) = eval e X.env := by rfl) : PE X (.Attribute e f pos) (tFld K ta f) := by
  subst eK
  exact pe_fld he hb
end
section
variable {K : PySem.W.Frag} {σ : L2.St} {H H' : Hp} {ta tb te tv : TE} {tr : TA} {D : Ends} {tz tu : TS} {f : Str} {a C dx ia : Addr} {fs : List (Str × V)} {v z : V} {vs : List V} {E : XK}
theorem ev_fld (ha : Ev ta σ H (.ref a)) (hi : H a = some (.ins C dx fs)) (c : Cls K C) (n : NoAttr K C f) (hl : fs.lookup f = some v) : Ev (tFld K ta f) σ H v := fun H1 e Q q =>
  ha H1 e _ fun H2 e2 => ⟨a, C, dx, fs, v, rfl, e2 _ _ (e _ _ hi), c, n, hl, q H2 e2⟩
theorem q_fld (h : Ev tv σ H v) (ha : Ev ta σ H (.ref a)) (hi : H a = some (.ins C dx fs)) (c : Cls K C) (n : NoAttr K C f) (hz : fs.length < 1000) (k : ∀ H1, Ex H H1 → tz D σ (upd H1 a (.ins C dx (putF f v fs)))) : tSeq (sFld K ta tv f) tz D σ H :=
  h H (Ex.refl H) _ fun H1 e1 => ha H1 e1 _ fun H2 e2 => ⟨a, C, dx, fs, rfl, e2 _ _ (e1 _ _ hi), c, n, hz, k H2 (e1.trans e2)⟩
theorem s_fld (h : Ev tv σ H v) (ha : Ev ta σ H (.ref a)) (hi : H a = some (.ins C dx fs)) (c : Cls K C) (n : NoAttr K C f) (hz : fs.length < 1000) (k : ∀ H1, Ex H H1 → D.nx σ (upd H1 a (.ins C dx (putF f v fs)))) : sFld K ta tv f D σ H :=
  h H (Ex.refl H) _ fun H1 e1 => ha H1 e1 _ fun H2 e2 => ⟨a, C, dx, fs, rfl, e2 _ _ (e1 _ _ hi), c, n, hz, k H2 (e1.trans e2)⟩
theorem q_fldL {xs : List V} (h : EvL tv σ H xs) (ha : ∀ H1, Ex H H1 → Ev ta σ H1 (.ref a)) (hi : H a = some (.ins C dx fs)) (c : Cls K C) (n : NoAttr K C f) (hz : fs.length < 1000) (k : ∀ p H1, H p = none → Ex H H1 → H1 p = some (.lst xs) → tz D σ (upd H1 a (.ins C dx (putF f (.ref p) fs)))) : tSeq (sFld K ta tv f) tz D σ H :=
  h H (Ex.refl H) _ fun p H1 hp e1 h1 => ha H1 e1 H1 (Ex.refl H1) _ fun H2 e2 => ⟨a, C, dx, fs, rfl, e2 _ _ (e1 _ _ hi), c, n, hz, k p H2 hp (e1.trans e2) (e2 _ _ h1)⟩
theorem q_fldM {n0 : Nat} {d : Mat} (h : EvMx tv σ H n0 d) (ha : ∀ H1, Ex H H1 → Ev ta σ H1 (.ref a)) (hi : H a = some (.ins C dx fs)) (c : Cls K C) (n : NoAttr K C f) (hz : fs.length < 1000) (k : ∀ p H1, H p = none → Ex H H1 → Mx H1 p n0 d → tz D σ (upd H1 a (.ins C dx (putF f (.ref p) fs)))) : tSeq (sFld K ta tv f) tz D σ H :=
  h H (Ex.refl H) _ fun p H1 hp e1 h1 => ha H1 e1 H1 (Ex.refl H1) _ fun H2 e2 => ⟨a, C, dx, fs, rfl, e2 _ _ (e1 _ _ hi), c, n, hz, k p H2 hp (e1.trans e2) (h1.mono e2)⟩
theorem q_fldMF {n0 : Nat} {d : Mat} (h : EvMF tv σ H n0 d) (ha : ∀ H1, Ex H H1 → Ev ta σ H1 (.ref a)) (hi : H a = some (.ins C dx fs)) (c : Cls K C) (n : NoAttr K C f) (hz : fs.length < 1000)
    (k : ∀ p (as : Nat → Addr) H1, H p = none → Ex H H1 → H1 p = some (.lst ((List.range n0).map fun i => V.ref (as i))) → (∀ i, i < n0 → H (as i) = none ∧ H1 (as i) = some (.lst (rV n0 (d i)))) → tz D σ (upd H1 a (.ins C dx (putF f (.ref p) fs)))) : tSeq (sFld K ta tv f) tz D σ H :=
  h H (Ex.refl H) _ fun p as H1 hp e1 h1 h2 => ha H1 e1 H1 (Ex.refl H1) _ fun H2 e2 => ⟨a, C, dx, fs, rfl, e2 _ _ (e1 _ _ hi), c, n, hz, k p as H2 hp (e1.trans e2) (e2 _ _ h1) fun i hi => ⟨(h2 i hi).1, e2 _ _ (h2 i hi).2⟩⟩
/-! #### methods -/
theorem ev_meth {m : Str} {pre : List V → Hp → V → Prop} (ha : Ev ta σ H (.ref a)) (hi : H a = some (.ins C dx fs)) (hl : fs.lookup m = none) (hv : EvA tr σ H vs) (hp : ∀ H1, Ex H H1 → pre (.ref a :: vs) H1 z) : Ev (tMeth C m (spV pre) [] E ta tr) σ H z := fun H1 e Q q =>
  ha H1 e _ fun H2 e2 => ⟨a, dx, fs, rfl, e2 _ _ (e _ _ hi), hl, hv H2 (e.trans e2) _ fun H3 e3 => ⟨z, by rw [List.append_nil]; exact hp H3 ((e.trans e2).trans e3), fun H4 e4 => q H4 ((e2.trans e3).trans e4)⟩⟩
theorem em_meth {m : Str} {pre : List V → Hp → Nat → Mat → Prop} {n : Nat} {d : Mat} (ha : Ev ta σ H (.ref a)) (hi : H a = some (.ins C dx fs)) (hl : fs.lookup m = none) (hv : EvA tr σ H vs) (hp : ∀ H1, Ex H H1 → pre (.ref a :: vs) H1 n d) : EvMx (tMeth C m (spM pre) [] E ta tr) σ H n d := fun H1 e Q q =>
  ha H1 e _ fun H2 e2 => ⟨a, dx, fs, rfl, e2 _ _ (e _ _ hi), hl, hv H2 (e.trans e2) _ fun H3 e3 => ⟨n, d, by rw [List.append_nil]; exact hp H3 ((e.trans e2).trans e3), fun p H4 hp4 e4 h4 => q p H4 (fresh_back (e2.trans e3) hp4) ((e2.trans e3).trans e4) h4⟩⟩
/-! #### an instance -/
def insF (pa ta : Addr) (g : Nat) : List (Str × V) := [(("people" : Str), .ref pa), (("times" : Str), .ref ta), (("stores" : Str), iV g)]
structure InsAt (H : Hp) (CI ia : Addr) (m : M) (pa : Addr) : Prop where
  full : ∃ (dx ta : Addr) (as : Nat → Addr), H ia = some (.ins CI dx (insF pa ta m.g)) ∧ H ta = some (.lst ((List.range m.n).map fun i => V.ref (as i))) ∧ ta ≠ pa ∧ ∀ i, i < m.n → H (as i) = some (.lst (rV m.n (m.t i))) ∧ as i ≠ pa
  pe : H pa = some (.lst (rV m.n m.pe))
theorem InsAt.mono {CI ia pa : Addr} {m : M} (e : Ex H H') (h : InsAt H CI ia m pa) : InsAt H' CI ia m pa := by
  obtain ⟨dx, ta, as, h1, h2, h3, h4⟩ := h.full
  exact ⟨⟨dx, ta, as, e _ _ h1, e _ _ h2, h3, fun i hi => ⟨e _ _ (h4 i hi).1, (h4 i hi).2⟩⟩, e _ _ h.pe⟩
theorem InsAt.ex {CI ia pa : Addr} {m : M} (h : InsAt H CI ia m pa) : ∃ dx ta, H ia = some (.ins CI dx (insF pa ta m.g)) ∧ Mx H ta m.n m.t := by
  obtain ⟨dx, ta, as, h1, h2, h3, h4⟩ := h.full
  exact ⟨dx, ta, h1, as, h2, fun i hi => (h4 i hi).1⟩
/-- the lists that the instance at ia holds -/
def Own (H : Hp) (ia b : Addr) : Prop := ∃ (CI dx pa ta : Addr) (g : Nat), H ia = some (.ins CI dx (insF pa ta g)) ∧ (b = pa ∨ b = ta ∨ ∃ xs, H ta = some (.lst xs) ∧ V.ref b ∈ xs)
theorem insF_inj {pa ta pa' ta' g g' : Nat} (h : insF pa ta g = insF pa' ta' g') : pa = pa' ∧ ta = ta' := by
  have h1 := List.cons.inj h
  have h2 := List.cons.inj h1.2
  exact ⟨V.ref.inj (Prod.mk.inj h1.1).2, V.ref.inj (Prod.mk.inj h2.1).2⟩
theorem own_is {CI dx pa ta : Addr} {g : Nat} {xs : List V} (h1 : H ia = some (.ins CI dx (insF pa ta g))) (h2 : H ta = some (.lst xs)) {b : Addr} (o : Own H ia b) : b = pa ∨ b = ta ∨ V.ref b ∈ xs := by
  obtain ⟨CI0, dx0, pa0, ta0, g0, k1, k2⟩ := o
  rw [h1] at k1
  obtain ⟨rfl, rfl⟩ := insF_inj (HO.ins.inj (Option.some.inj k1)).2.2
  rcases k2 with k | k | ⟨ys, k, m⟩
  · exact .inl k
  · exact .inr (.inl k)
  · rw [h2] at k
    obtain rfl := HO.lst.inj (Option.some.inj k)
    exact .inr (.inr m)
theorem own_to {CI dx pa ta : Addr} {g : Nat} {xs : List V} (h1 : H ia = some (.ins CI dx (insF pa ta g))) (h2 : H ta = some (.lst xs)) {b : Addr} (o : b = pa ∨ b = ta ∨ V.ref b ∈ xs) : Own H ia b := by
  refine ⟨CI, dx, pa, ta, g, h1, ?_⟩
  rcases o with o | o | o
  · exact .inl o
  · exact .inr (.inl o)
  · exact .inr (.inr ⟨xs, h2, o⟩)
theorem own_ex {CI pa b : Addr} {m : M} (hi : InsAt H CI ia m pa) (e : Ex H H') (o : Own H' ia b) : Own H ia b := by
  obtain ⟨dx, ta, as, h1, h2, _⟩ := hi.full
  exact own_to h1 h2 (own_is (e _ _ h1) (e _ _ h2) o)
theorem ref_in {n : Nat} {as : Nat → Addr} {b : Addr} (h : V.ref b ∈ (List.range n).map fun i => V.ref (as i)) : ∃ i, i < n ∧ b = as i := by
  obtain ⟨i, hi, e⟩ := List.mem_map.mp h
  exact ⟨i, List.mem_range.mp hi, (V.ref.inj e).symm⟩
theorem lk_people (pa ta : Addr) (g : Nat) : (insF pa ta g).lookup ("people" : Str) = some (.ref pa) := rfl
theorem lk_times (pa ta : Addr) (g : Nat) : (insF pa ta g).lookup ("times" : Str) = some (.ref ta) := rfl
theorem lk_stores (pa ta : Addr) (g : Nat) : (insF pa ta g).lookup ("stores" : Str) = some (iV g) := rfl
theorem put_times (pa ta tb : Addr) (g : Nat) : putF ("times" : Str) (.ref tb) (insF pa ta g) = insF pa tb g := rfl
theorem put_stores (pa ta : Addr) (g g' : Nat) : putF ("stores" : Str) (iV g') (insF pa ta g) = insF pa ta g' := rfl
end
/-! #### the class Instance; the class Holder -/
def spPc (CI : Addr) : Sp := spV fun vs H z => ∃ (ia : Addr) (m : M) (pa : Addr), vs = [.ref ia] ∧ InsAt H CI ia m pa ∧ z = iV m.n
def spHp (CI : Addr) : Sp := spV fun vs H z => ∃ (ia : Addr) (m : M) (pa : Addr) (p : Nat), vs = [.ref ia, iV p] ∧ InsAt H CI ia m pa ∧ z = .bl (decide (p < m.n))
def spRows (CI : Addr) : Sp := spM fun vs H n d => ∃ (ia : Addr) (m : M) (pa : Addr), vs = [.ref ia] ∧ InsAt H CI ia m pa ∧ m.n ≤ 7 ∧ n = m.n ∧ d = m.d
/-- the new instance at x; all else stands -/
def spInit (CI : Addr) : Sp := fun vs H Q _ => ∃ (x dx : Addr) (n : Nat), vs = [.ref x, iV n] ∧ H x = some (.ins CI dx []) ∧ n ≤ 7 ∧
  ∀ H' pa, (∀ b o, H b = some o → b ≠ x → H' b = some o) → H pa = none → InsAt H' CI x (M.fresh n) pa → (∀ b, Own H' x b → H b = none) → Q .non H'
def spHinit (CH : Addr) : Sp := fun vs H Q _ => ∃ (x dx : Addr), vs = [.ref x] ∧ H x = some (.ins CH dx []) ∧
  ∀ H', (∀ b o, H b = some o → b ≠ x → H' b = some o) → H' x = some (.ins CH dx [(("held" : Str), .non)]) → Q .non H'
/-- what the top says of a class's def -/
structure Dm (K : PySem.W.Frag) (C : Addr) (m qual : Str) (st : Stmt) : Prop where
  ex : ∃ (f : Addr) (fd : FuncData), Fun K m qual st f fd ∧ Meth K C m f
structure Di (K : PySem.W.Frag) (mg : Str → Option Value) (x : Str) (C : Addr) (qual : Str) (st : Stmt) : Prop where
  ex : ∃ (f : Addr) (fd : FuncData), Fun K "__init__" qual st f fd ∧ Mk K C f ∧ mg x = some (.ref C)
/-- the class's attributes -/
structure Ca (K : PySem.W.Frag) (CI CH : Addr) : Prop where
  ci : Cls K CI
  np : NoAttr K CI "people"
  nt : NoAttr K CI "times"
  ns : NoAttr K CI "stores"
  ch : Cls K CH
  nh : NoAttr K CH "held"
section
variable {P : Program} {w : World} {K : PySem.W.Frag} {mg : Str → Option Value} {base : Heap} {CI CH : Addr}
theorem met_of {m qual : Str} {st : Stmt} {N ps : List Str} {k : Nat} {C : Addr} {sp : Sp} (c : Cls K C) (d : Dm K C m qual st) (S : FnScope N ps (defScope st))
    (b : ∀ (kV doc pm : Value) (an : Option Addr) (cdv ct : Value) (us : List Value), us.length = ps.length → bindArgs (PySem.W.fnOf m qual (defArgs st) (defBody st) (defScope st) .none kV doc pm an cdv ct) ⟨us, []⟩ = pure (ps.zip us)) (len : ∀ vs H Q E, sp vs H Q E → vs.length = ps.length)
    (hbody : ∀ (f : Addr) (cdv : Value) (A : Around) (outer : List Env) (s : Shared) (H : Hp) (vs : List V) (Q : VK) (E : XK), Room k (A.deeper (envOfC qual (defScope st) s.heap.objs.size f cdv)) → sp vs H Q E →
      ∃ t, PSs (cxOf CX0 P w K mg base N qual (defScope st) f cdv A outer s H E).nox (defBody st) t ∧ t { nx := fun _ H' => Q .non H', rt := Q } (start N vs) H) : C8.Met P w K mg base (k + 1) C m sp [] := by
  obtain ⟨f, fd, F, hm⟩ := d.ex
  exact ⟨f, fd, ps, [], c, hm, F.ok S len fun cdv A outer s H vs Q E hr h => hbody f cdv A outer s H vs Q E hr h, F.binds b, .nil⟩
theorem mak_of {x qual : Str} {st : Stmt} {N ps : List Str} {k : Nat} {C : Addr} {sp : Sp} (d : Di K mg x C qual st) (S : FnScope N ps (defScope st))
    (b : ∀ (kV doc pm : Value) (an : Option Addr) (cdv ct : Value) (us : List Value), us.length = ps.length → bindArgs (PySem.W.fnOf "__init__" qual (defArgs st) (defBody st) (defScope st) .none kV doc pm an cdv ct) ⟨us, []⟩ = pure (ps.zip us)) (len : ∀ vs H Q E, sp vs H Q E → vs.length = ps.length)
    (hbody : ∀ (f : Addr) (cdv : Value) (A : Around) (outer : List Env) (s : Shared) (H : Hp) (vs : List V) (Q : VK) (E : XK), Room k (A.deeper (envOfC qual (defScope st) s.heap.objs.size f cdv)) → sp vs H Q E →
      ∃ t, PSs (cxOf CX0 P w K mg base N qual (defScope st) f cdv A outer s H E).nox (defBody st) t ∧ t { nx := fun _ H' => Q .non H', rt := Q } (start N vs) H) : C8.Mak P w K mg base (k + 1) x C sp [] := by
  obtain ⟨f, fd, F, hm, hx⟩ := d.ex
  exact ⟨f, fd, ps, [], hm, F.ok S len fun cdv A outer s H vs Q E hr h => hbody f cdv A outer s H vs Q E hr h, hx, F.binds b, .nil⟩
theorem sc_I0 : FnScope ["self", "place_count"] ["self", "place_count"] (defScope (inClass (top 12) 0)) := ⟨rfl, rfl, rfl, by decide +kernel, rfl, by decide +kernel, by decide +kernel⟩
theorem sc_I1 : FnScope ["self"] ["self"] (defScope (inClass (top 12) 1)) := ⟨rfl, rfl, rfl, by decide +kernel, rfl, by decide +kernel, by decide +kernel⟩
theorem sc_I2 : FnScope ["self", "place"] ["self", "place"] (defScope (inClass (top 12) 2)) := ⟨rfl, rfl, rfl, by decide +kernel, rfl, by decide +kernel, by decide +kernel⟩
theorem sc_I3 : FnScope ["self"] ["self"] (defScope (inClass (top 12) 3)) := ⟨rfl, rfl, rfl, by decide +kernel, rfl, by decide +kernel, by decide +kernel⟩
theorem sc_H0 : FnScope ["self"] ["self"] (defScope (inClass (top 13) 0)) := ⟨rfl, rfl, rfl, by decide +kernel, rfl, by decide +kernel, by decide +kernel⟩
theorem met_pc (c : Ca K CI CH) (d : Dm K CI "place_count" "Instance.place_count" (inClass (top 12) 1)) (G : Gb mg) : C8.Met P w K mg base 1 CI "place_count" (spPc CI) [] := by
  refine met_of c.ci d sc_I1 (fun _ _ _ _ _ _ us hl => match us, hl with | [_], _ => rfl) (fun vs H Q E h => ?_) fun f cdv A outer s H vs Q E hr h => ?_
  · obtain ⟨z, ⟨ia, m, pa, rfl, _⟩, _⟩ := h
    rfl
  · refine ⟨_, pss_one (ps_ret (pe_callB (kr_len (K := K)) rfl G.len PySem.boot_len (pa_cons (pk_fld (K := K) (pv 0)) pa_nil))), ?_⟩
    obtain ⟨z, ⟨ia, m, pa, rfl, hi, rfl⟩, k⟩ := h
    obtain ⟨dx, ta, h1, h2⟩ := hi.ex
    exact s_ret (ev_lenR (ev_fld (ev_var rfl) h1 c.ci c.np (lk_people _ _ _)) hi.pe) k
theorem met_hp (c : Ca K CI CH) (d : Dm K CI "has_place" "Instance.has_place" (inClass (top 12) 2)) (G : Gb mg) : C8.Met P w K mg base 1 CI "has_place" (spHp CI) [] := by
  refine met_of c.ci d sc_I2 (fun _ _ _ _ _ _ us hl => match us, hl with | [_, _], _ => rfl) (fun vs H Q E h => ?_) fun f cdv A outer s H vs Q E hr h => ?_
  · obtain ⟨z, ⟨ia, m, pa, p, rfl, _⟩, _⟩ := h
    rfl
  · refine ⟨_, pss_one (ps_ret (pe_cmpR op_lt (pv 1) (pe_callB (kr_len (K := K)) rfl G.len PySem.boot_len (pa_cons (pk_fld (K := K) (pv 0)) pa_nil)) (nomark _))), ?_⟩
    obtain ⟨z, ⟨ia, m, pa, p, rfl, hi, rfl⟩, k⟩ := h
    obtain ⟨dx, ta, h1, h2⟩ := hi.ex
    exact s_ret (ev_is (ev_op (ev_var rfl) (ev_lenR (ev_fld (ev_var rfl) h1 c.ci c.np (lk_people _ _ _)) hi.pe) rv_I0) (congrArg V.bl (decide_eq_decide.mpr (by omega)))) k
theorem met_rows (c : Ca K CI CH) (d : Dm K CI "rows" "Instance.rows" (inClass (top 12) 3)) (G : Gb mg) (cD : Cal P w K mg base 4 "distance_rows" spDistRows) : C8.Met P w K mg base 5 CI "rows" (spRows CI) [] := by
  refine met_of c.ci d sc_I3 (fun _ _ _ _ _ _ us hl => match us, hl with | [_], _ => rfl) (fun vs H Q E h => ?_) fun f cdv A outer s H vs Q E hr h => ?_
  · obtain ⟨z, n, ⟨ia, m, pa, rfl, _⟩, _⟩ := h
    rfl
  · refine ⟨_, pss_one (ps_ret (pe_cl cD hr (by decide) (pa_cons (pk_fld (K := K) (pv 0)) pa_nil))), ?_⟩
    obtain ⟨n, dd, ⟨ia, m, pa, rfl, hi, h7, rfl, rfl⟩, k⟩ := h
    obtain ⟨dx, ta, h1, h2⟩ := hi.ex
    exact s_retM (em_cv (ea1 (ev_fld (ev_var rfl) h1 c.ci c.nt (lk_times _ _ _))) fun H1 e => ⟨ta, m.t, rfl, h2.mono e, h7, rfl⟩) k
theorem mak_inst (c : Ca K CI CH) (d : Di K mg "Instance" CI "Instance.__init__" (inClass (top 12) 0)) (G : Gb mg) (cN : Cal P w K mg base 1 "no_roads" spNoRoads) : C8.Mak P w K mg base 2 "Instance" CI (spInit CI) [] := by
  refine mak_of d sc_I0 (fun _ _ _ _ _ _ us hl => match us, hl with | [_, _], _ => rfl) (fun vs H Q E h => ?_) fun f cdv A outer s H vs Q E hr h => ?_
  · obtain ⟨x, dx, n, rfl, _⟩ := h
    rfl
  · refine ⟨_, pss_cons (ps_fld (pv 0) (pe_op op_rep (pe_lst (pa_cons pe_int pa_nil)) (pv 1)) rfl) (pss_cons (ps_fld (pv 0) (pe_cl cN hr (by decide) (pa_cons (pv 1) pa_nil)) rfl) (pss_one (ps_fld (pv 0) pe_int rfl))), ?_⟩
    obtain ⟨x, dx, n, rfl, hx, h7, k⟩ := h
    refine q_fldL (el_is (el_rep (el_lst (ea1 ev_c) (by decide)) (fun H2 e2 => ev_var rfl) (by omega)) (rep_rV n 1)) (fun H1 e1 => ev_var rfl) hx c.ci c.np (by decide) fun pa H1 hpa e1 hpe => ?_
    have hxp : pa ≠ x := fun z => by rw [z, hx] at hpa; cases hpa
    refine q_fldMF (emf_cv (ea1 (ev_var rfl)) fun H2 e2 => ⟨rfl, h7, rfl⟩) (fun H2 e2 => ev_var rfl) upd_same c.ci c.nt (by show 1 < 1000; decide) fun ta as H2 hta e2 k1 k2 => ?_
    have hxt : ta ≠ x := fun z => by rw [z, upd_same] at hta; cases hta
    have hp1 : upd H1 x (.ins CI dx (putF ("people" : Str) (.ref pa) [])) pa = some (.lst (rV n fun _ => 1)) := by rw [upd_ne hxp]; exact hpe
    have hpa2 : H2 pa = some (.lst (rV n fun _ => 1)) := e2 _ _ hp1
    refine s_fld (v := iV 0) ev_c (ev_var rfl) upd_same c.ci c.ns (by show 2 < 1000; decide) fun H3 e3 => ?_
    refine k _ pa (fun b o hb hbx => ?_) hpa ⟨⟨dx, ta, as, upd_same, ?_, (fun z => by rw [z, hp1] at hta; cases hta), fun i hi => ⟨?_, fun z => (by have q := (k2 i hi).1; rw [z, hp1] at q; cases q)⟩⟩, ?_⟩ fun b0 ho => ?_
    · rw [upd_ne hbx]
      refine e3 _ _ ?_
      rw [upd_ne hbx]
      refine e2 _ _ ?_
      rw [upd_ne hbx]
      exact e1 _ _ hb
    · rw [upd_ne hxt]
      refine e3 _ _ ?_
      rw [upd_ne hxt]
      exact k1
    · have hax : as i ≠ x := fun z => by
        have := (k2 i hi).1
        rw [z, upd_same] at this
        cases this
      rw [upd_ne hax]
      refine e3 _ _ ?_
      rw [upd_ne hax]
      exact (k2 i hi).2
    · rw [upd_ne hxp]
      refine e3 _ _ ?_
      rw [upd_ne hxp]
      exact hpa2
    · have hta1 : H1 ta = none := by rw [upd_ne hxt] at hta; exact hta
      have k3 : upd H3 x (.ins CI dx (insF pa ta 0)) ta = some (.lst ((List.range n).map fun i => V.ref (as i))) := by
        rw [upd_ne hxt]
        refine e3 _ _ ?_
        rw [upd_ne hxt]
        exact k1
      rcases own_is (H := upd H3 x (.ins CI dx (insF pa ta 0))) upd_same k3 ho with o | o | o
      · rw [o]; exact hpa
      · rw [o]; exact fresh_back e1 hta1
      · obtain ⟨i, hi, o⟩ := ref_in o
        have q := (k2 i hi).1
        rw [o]
        by_cases hax : as i = x
        · rw [hax, upd_same] at q; cases q
        · rw [upd_ne hax] at q
          exact fresh_back e1 q
theorem mak_hold (c : Ca K CI CH) (d : Di K mg "Holder" CH "Holder.__init__" (inClass (top 13) 0)) : C8.Mak P w K mg base 1 "Holder" CH (spHinit CH) [] := by
  refine mak_of d sc_H0 (fun _ _ _ _ _ _ us hl => match us, hl with | [_], _ => rfl) (fun vs H Q E h => ?_) fun f cdv A outer s H vs Q E hr h => ?_
  · obtain ⟨x, dx, rfl, _⟩ := h
    rfl
  · refine ⟨_, pss_one (ps_fld (pv 0) pe_non rfl), ?_⟩
    obtain ⟨x, dx, rfl, hx, k⟩ := h
    refine s_fld ev_c (ev_var rfl) hx c.ch c.nh (by decide) fun H3 e3 => k _ (fun b o hb hbx => ?_) upd_same
    rw [upd_ne hbx]
    exact e3 _ _ hb
end
end Nw

/-! ### 3j. Refusals -/
namespace Nw
open PySem PySem.Spec PyProof.Rows L2 Evl
open Ns (Vec Mat M)
/-- what the top says of the class Refusal, at C -/
structure Rf (K : PySem.W.Frag) (mg : Str → Option Value) (C : Addr) : Prop where
  oex : OexC K C
  noc : PySem.W.findIn K (.ref C) "code" = some none
  xf : XfC K C
  gC : mg "Refusal" = some (.ref C)
  ini : ∃ (fI : Addr) (fd : FuncData), Fun K "__init__" "Refusal.__init__" (inClass (top 47) 0) fI fd ∧ PySem.W.findIn K (.ref C) "__init__" = some (some (.ref fI)) ∧ PySem.W.typeIn K (.ref fI) = some (.type "function")
  vV : PySem.W.findCls K (.type "ValueError") (.type "type") "__init__" = some (.val (.builtin "ValueError.__init__"))
  te : PySem.W.exmOne K (.ref C) (.ref C) = some true
def codeF (c : Int) : List (Str × V) := [(("code" : Str), .int c)]
/-- a refusal with the code c is taken -/
def Rz (C : Addr) (E : XK) (H : Hp) (c : Int) : Prop := ∀ (d : Addr) (H' : Hp), H d = none → Ex H H' → H' d = some (.xd (codeF c)) → E (.ref C) (some d) H'
theorem Rz.mono {C : Addr} {E : XK} {H H' : Hp} {c : Int} (e : Ex H H') (h : Rz C E H c) : Rz C E H' c := fun d H2 hd e2 h2 => h d H2 (fresh_back e hd) (e.trans e2) h2
/-- of a def that gives None or refuses -/
def spN (C : Addr) (pre : List V → Hp → Option Int → Prop) : Sp := fun vs H Q E => ∃ o, pre vs H o ∧ (∀ c, o = some c → Rz C E H c) ∧ (o = none → ∀ H', Ex H H' → Q .non H')
/-- of a def that gives a new list or refuses -/
def spX (C : Addr) (pre : List V → Hp → Except Int (List Int) → Prop) : Sp := fun vs H Q E => ∃ r, pre vs H r ∧ (∀ c, r = .error c → Rz C E H c) ∧ (∀ xs, r = .ok xs → ∀ p H', H p = none → Ex H H' → H' p = some (.lst (xs.map V.int)) → Q (.ref p) H')
def spWant (C : Addr) : Sp := spN C fun vs _ o => ∃ (b : Bool) (c : Int), vs = [.bl b, .int c] ∧ o = if b = true then none else some c
def spRinit (C : Addr) : Sp := fun vs H Q _ => ∃ (a : Addr) (c : Int), vs = [.ref a, .int c] ∧ H a = some (exo a C none) ∧ ∀ dx, H dx = none → dx ≠ a → Q .non (upd (upd H dx (exd dx (codeF c))) a (exo a C (some dx)))
section
variable {P : Program} {w : World} {K : PySem.W.Frag} {mg : Str → Option Value} {base : Heap} {C : Addr}
theorem sc_R0 : FnScope ["self", "code"] ["self", "code"] (defScope (inClass (top 47) 0)) := ⟨rfl, rfl, rfl, by decide +kernel, rfl, by decide +kernel, by decide +kernel⟩
theorem ok_rinit (T : Rf K mg C) (G : Gb mg) : ∃ (fI : Addr) (fd : FuncData), FnOk P w K mg base CX0 1 fI fd ["self", "code"] (spRinit C) ∧ PySem.W.findIn K (.ref C) "__init__" = some (some (.ref fI)) ∧ PySem.W.typeIn K (.ref fI) = some (.type "function") ∧ Binds K fd ["self", "code"] [] := by
  obtain ⟨fI, fd, F, h1, h2⟩ := T.ini
  refine ⟨fI, fd, F.ok sc_R0 (fun vs H Q E h => ?_) (fun cdv A outer s H vs Q E hr h => ?_), h1, h2, F.binds fun _ _ _ _ _ _ us hl => match us, hl with | [_, _], _ => rfl⟩
  · obtain ⟨a, c, rfl, _⟩ := h
    rfl
  · refine ⟨_, pss_cons (ps_expr (pe_veinit rfl G.ve T.vV (pa_cons (pv 0) (pa_cons pe_str pa_nil)))) (pss_one (ps_ost (pv 0) (pv 1))), ?_⟩
    obtain ⟨a, c, rfl, ha, k⟩ := h
    refine ⟨_, rfl, a, C, _, rfl, by decide, T.oex, ha, _, rfl, _, rfl, a, C, rfl, T.oex, T.noc, .inl ⟨ha, fun dx hd hn => k dx hd hn⟩⟩
theorem sc_want : FnScope ["is_so", "code"] ["is_so", "code"] (defScope (top 48)) := ⟨rfl, rfl, rfl, by decide +kernel, rfl, by decide +kernel, by decide +kernel⟩
theorem cal_want (d : Df K mg "want" (top 48)) (T : Rf K mg C) (G : Gb mg) : CalX P w K mg base 3 "want" (spWant C) := by
  refine calX_of d sc_want (fun _ _ _ _ _ _ us hl => match us, hl with | [_, _], _ => rfl) (fun vs H Q E h => ?_) fun f cdv A outer s H vs Q E hr h => ?_
  · obtain ⟨o, ⟨b, c, rfl, _⟩, _⟩ := h
    rfl
  · obtain ⟨fI, fd, F, h1, h2, hb⟩ := ok_rinit (P := P) (w := w) (base := base) T G
    refine ⟨_, pss_one (ps_if (pt_not (pt_val (pv 0))) (pss_one (ps_raise rfl (takes_of rfl rfl rfl rfl) (pmk_oex T.oex h1 h2 F hr hb .nil pass0 rfl T.gC (pa_cons (pv 1) pa_nil)))) pss_nil), ?_⟩
    obtain ⟨o, ⟨b, c, rfl, rfl⟩, kE, kN⟩ := h
    refine s_if (et_not (et_B (ev_var rfl))) (fun hbb H1 e1 => ?_) fun hbb H1 e1 => ?_
    · have hb0 : b = false := by cases b <;> simp_all
      subst hb0
      have z := (kE c rfl).mono e1
      refine ⟨_, rfl, by show 1 ≤ 1000; decide, fun a ha => ⟨a, c, rfl, upd_same, fun dx hdx hne => ⟨rfl, dx, codeF c, upd_same, ?_, ?_, ?_⟩⟩⟩
      · rw [upd_ne hne, upd_same]
      · rw [upd_ne hne] at hdx
        exact hdx
      · rw [upd_ne hne] at hdx
        refine z dx _ hdx (fun b0 o0 h0 => ?_) upd_same
        have n1 : b0 ≠ dx := ne_of_none h0 hdx
        have n2 : b0 ≠ a := ne_of_none h0 ha
        rw [upd_ne n1, del_ne n2, upd_ne n2, upd_ne n1, upd_ne n2]
        exact h0
    · have hb1 : b = true := by cases b <;> simp_all
      subst hb1
      exact kN rfl H1 e1
end
/-! #### what may refuse, in a statement -/
section
variable {σ : L2.St} {H H' : Hp} {ta tb tc te : TE} {tr : TA} {D : Ends} {tz tu : TS} {C : Addr} {E : XK} {vs : List V}
theorem q_N {pre : List V → Hp → Option Int → Prop} {o : Option Int} (h : EvA tr σ H vs) (hp : ∀ H1, Ex H H1 → pre vs H1 o) (k1 : ∀ c, o = some c → Rz C E H c) (k2 : o = none → ∀ H1, Ex H H1 → tz D σ H1) : tSeq (tDrop (tCall (spN C pre) [] E tr)) tz D σ H :=
  h H (Ex.refl H) _ fun H1 e1 => ⟨o, by rw [List.append_nil]; exact hp H1 e1, fun c e => (k1 c e).mono e1, fun e H2 e2 => k2 e H2 (e1.trans e2)⟩
theorem s_N {pre : List V → Hp → Option Int → Prop} {o : Option Int} (h : EvA tr σ H vs) (hp : ∀ H1, Ex H H1 → pre vs H1 o) (k1 : ∀ c, o = some c → Rz C E H c) (k2 : o = none → ∀ H1, Ex H H1 → D.nx σ H1) : tDrop (tCall (spN C pre) [] E tr) D σ H :=
  h H (Ex.refl H) _ fun H1 e1 => ⟨o, by rw [List.append_nil]; exact hp H1 e1, fun c e => (k1 c e).mono e1, fun e H2 e2 => k2 e H2 (e1.trans e2)⟩
theorem q_w {b : Bool} {c : Int} (hb : Ev tb σ H (.bl b)) (hc : Ev tc σ H (.int c)) (k1 : b = true → ∀ H1, Ex H H1 → tz D σ H1) (k2 : b = false → Rz C E H c) : tSeq (tDrop (tCall (spWant C) [] E (tCons tb (tCons tc tNil)))) tz D σ H := by
  refine q_N (o := if b = true then none else some c) (ea2 hb hc) (fun H1 e => ⟨b, c, rfl, rfl⟩) (fun c' h => ?_) fun h => ?_
  · cases b with
    | true => cases h
    | false => cases h; exact k2 rfl
  · cases b with
    | true => exact k1 rfl
    | false => cases h
theorem s_w {b : Bool} {c : Int} (hb : Ev tb σ H (.bl b)) (hc : Ev tc σ H (.int c)) (k1 : b = true → ∀ H1, Ex H H1 → D.nx σ H1) (k2 : b = false → Rz C E H c) : tDrop (tCall (spWant C) [] E (tCons tb (tCons tc tNil))) D σ H := by
  refine s_N (o := if b = true then none else some c) (ea2 hb hc) (fun H1 e => ⟨b, c, rfl, rfl⟩) (fun c' h => ?_) fun h => ?_
  · cases b with
    | true => cases h
    | false => cases h; exact k2 rfl
  · cases b with
    | true => exact k1 rfl
    | false => cases h
theorem q_wT {c : Int} (hb : Ev tb σ H (.bl true)) (hc : Ev tc σ H (.int c)) (k : ∀ H1, Ex H H1 → tz D σ H1) : tSeq (tDrop (tCall (spWant C) [] E (tCons tb (tCons tc tNil)))) tz D σ H := q_w hb hc (fun _ => k) fun h => by cases h
theorem q_wF {c : Int} (hb : Ev tb σ H (.bl false)) (hc : Ev tc σ H (.int c)) (k : Rz C E H c) : tSeq (tDrop (tCall (spWant C) [] E (tCons tb (tCons tc tNil)))) tz D σ H := q_w hb hc (fun h => by cases h) fun _ => k
theorem s_X {pre : List V → Hp → Except Int (List Int) → Prop} {r : Except Int (List Int)} {R : List V → Hp → Prop} (h : EvAP tr σ H R) (hp : ∀ vs H1, Ex H H1 → R vs H1 → pre vs H1 r) (k1 : ∀ c, r = .error c → Rz C E H c)
    (k2 : ∀ xs, r = .ok xs → ∀ p H1, H p = none → Ex H H1 → H1 p = some (.lst (xs.map V.int)) → D.rt (.ref p) H1) : tRet (tCall (spX C pre) [] E tr) D σ H :=
  h H (Ex.refl H) _ fun vs H1 e1 hR => ⟨r, by rw [List.append_nil]; exact hp vs H1 e1 hR, fun c e => (k1 c e).mono e1, fun xs e p H2 hp2 e2 h2 => k2 xs e p H2 (fresh_back e1 hp2) (e1.trans e2) h2⟩
theorem q_asgX {i : Nat} {pre : List V → Hp → Except Int (List Int) → Prop} {r : Except Int (List Int)} (h : EvA tr σ H vs) (hp : ∀ H1, Ex H H1 → pre vs H1 r) (k1 : ∀ c, r = .error c → Rz C E H c)
    (k2 : ∀ xs, r = .ok xs → ∀ p H1, H p = none → Ex H H1 → H1 p = some (.lst (xs.map V.int)) → tz D (σ.set i (some (.ref p))) H1) : tSeq (tAsg (tCall (spX C pre) [] E tr) (gName i)) tz D σ H :=
  h H (Ex.refl H) _ fun H1 e1 => ⟨r, by rw [List.append_nil]; exact hp H1 e1, fun c e => (k1 c e).mono e1, fun xs e p H2 hp2 e2 h2 => k2 xs e p H2 (fresh_back e1 hp2) (e1.trans e2) h2⟩
theorem ap_of (h : EvA tr σ H vs) : EvAP tr σ H fun us _ => us = vs := fun H1 e Q q => h H1 e _ fun H2 e2 => q vs H2 e2 rfl
theorem ap_1 {x : V} (h : Ev te σ H x) : EvAP (tCons te tNil) σ H fun us _ => us = [x] := ap_of (ea1 h)
end
end Nw

/-! ### 3k. What an operation keeps -/
namespace Nw
open PySem PySem.Spec PyProof.Rows L2 Evl
open Ns (Vec Mat M Res)
theorem l0 {α : Type} : ∀ {l : List α}, l.length = 0 → l = []
  | [], _ => rfl
theorem l1 {α : Type} : ∀ {l : List α}, l.length = 1 → ∃ a, l = [a]
  | [a], _ => ⟨a, rfl⟩
theorem l2 {α : Type} : ∀ {l : List α}, l.length = 2 → ∃ a b, l = [a, b]
  | [a, b], _ => ⟨a, b, rfl⟩
theorem l3 {α : Type} : ∀ {l : List α}, l.length = 3 → ∃ a b c, l = [a, b, c]
  | [a, b, c], _ => ⟨a, b, c, rfl⟩
/-- all but the instance at ia and its people at pa -/
def Kp (ia pa : Addr) (H H' : Hp) : Prop := ∀ b o, H b = some o → b ≠ ia → b ≠ pa → H' b = some o
theorem Kp.of {ia pa : Addr} {H H' : Hp} (e : Ex H H') : Kp ia pa H H' := fun b o h _ _ => e b o h
theorem Kp.trans {ia pa : Addr} {H H1 H2 : Hp} (a : Kp ia pa H H1) (b : Kp ia pa H1 H2) : Kp ia pa H H2 := fun c o h n1 n2 => b c o (a c o h n1 n2) n1 n2
/-- what is wanted of an outcome r -/
structure Dn (C : Addr) (Q : VK) (E : XK) (H : Hp) (r : Res) : Prop where
  er : ∀ c, r = .error c → Rz C E H c
  ok : ∀ m' out, r = .ok (m', out) → ∀ p H', H p = none → Ex H H' → H' p = some (.lst (out.map V.int)) → Q (.ref p) H'
theorem Dn.mono {C : Addr} {Q : VK} {E : XK} {H H' : Hp} {r : Res} (e : Ex H H') (d : Dn C Q E H r) : Dn C Q E H' r :=
  ⟨fun c h => (d.er c h).mono e, fun m' out h p H2 hp e2 h2 => d.ok m' out h p H2 (fresh_back e hp) (e.trans e2) h2⟩
/-- an operation that reads only -/
def spRead (CI C : Addr) (i : Nat) : Sp := fun vs H Q E => ∃ (ia ga pa : Addr) (m : M) (args : List Nat), vs = [.ref ia, .ref ga] ∧ InsAt H CI ia m pa ∧ Ns.Ok m ∧ H ga = some (.lst (nV args)) ∧ args.length = Ns.arity.getD i 0 ∧ Dn C Q E H (Ns.deed i m args)
/-- an operation -/
def spDeed (CI C : Addr) (i : Nat) : Sp := fun vs H Q E => ∃ (ia ga pa : Addr) (m : M) (args : List Nat), vs = [.ref ia, .ref ga] ∧ InsAt H CI ia m pa ∧ Ns.Ok m ∧ H ga = some (.lst (nV args)) ∧ args.length = Ns.arity.getD i 0 ∧
  (∀ c, Ns.deed i m args = .error c → Rz C E H c) ∧ ∀ m' out, Ns.deed i m args = .ok (m', out) → ∀ p H', H p = none → Kp ia pa H H' → InsAt H' CI ia m' pa → (∀ b, Own H' ia b → Own H ia b ∨ H b = none) → H' p = some (.lst (out.map V.int)) → Q (.ref p) H'
theorem deed_of_read {CI C : Addr} {i : Nat} (ro : ∀ (m m' : M) (args : List Nat) (out : List Int), Ns.deed i m args = .ok (m', out) → m' = m) (vs : List V) (H : Hp) (Q : VK) (E : XK) (h : spDeed CI C i vs H Q E) : spRead CI C i vs H Q E := by
  obtain ⟨ia, ga, pa, m, args, rfl, hi, O, hg, hl, kE, kO⟩ := h
  refine ⟨ia, ga, pa, m, args, rfl, hi, O, hg, hl, kE, fun m' out e p H' hp e1 h1 => ?_⟩
  obtain rfl := ro m m' args out e
  exact kO m' out e p H' hp (Kp.of e1) (hi.mono e1) (fun b o => .inl (own_ex hi e1 o)) h1
def spDefined (C : Addr) : Sp := spX C fun vs _ r => ∃ x : Nat, vs = [iV x] ∧ r = if x < 1000 then .ok [(x : Int)] else .error (-33)
def spTold : Sp := spV fun vs _ z => ∃ x : Nat, vs = [iV x] ∧ z = .int (Ns.told x)
def spWantRoad (CI C : Addr) : Sp := spN C fun vs H o => ∃ (ia : Addr) (m : M) (pa : Addr) (a b v : Nat), vs = [.ref ia, iV a, iV b, iV v] ∧ InsAt H CI ia m pa ∧ o = if a < m.n ∧ b < m.n then (if a ≠ b ∧ v ≤ 50 then none else some (-22)) else some (-2)
def spWantSize (CI C : Addr) : Sp := spN C fun vs H o => ∃ (ia : Addr) (m : M) (pa : Addr) (lo k : Nat), vs = [.ref ia, iV lo, iV k] ∧ InsAt H CI ia m pa ∧ Ns.Ok m ∧ o = if lo ≤ k ∧ k ≤ m.n then (if Ns.conn m.n m.d = true then none else some (-33)) else some (-22)
section
variable {K : PySem.W.Frag} {σ : L2.St} {H H' : Hp} {ta tb tc te tp : TE} {tr : TA} {D : Ends} {tz tu : TS} {C CI CH : Addr} {E : XK} {vs : List V} {Q : VK} {ia pa : Addr} {m : M} {r : Res}
/-! what evaluates to what, of an instance -/
theorem ev_hp {p : Nat} (ha : Ev ta σ H (.ref ia)) (hi : InsAt H CI ia m pa) (hp : Ev tp σ H (iV p)) : Ev (tMeth CI "has_place" (spHp CI) [] E ta (tCons tp tNil)) σ H (.bl (decide (p < m.n))) := by
  obtain ⟨dx, t, h1, _⟩ := hi.ex
  exact ev_meth ha h1 rfl (ea1 hp) fun H1 e => ⟨ia, m, pa, p, rfl, hi.mono e, rfl⟩
theorem ev_pc (ha : Ev ta σ H (.ref ia)) (hi : InsAt H CI ia m pa) : Ev (tMeth CI "place_count" (spPc CI) [] E ta tNil) σ H (iV m.n) := by
  obtain ⟨dx, t, h1, _⟩ := hi.ex
  exact ev_meth ha h1 rfl ea_nil fun H1 e => ⟨ia, m, pa, rfl, hi.mono e, rfl⟩
theorem em_rows (ha : Ev ta σ H (.ref ia)) (hi : InsAt H CI ia m pa) (O : Ns.Ok m) : EvMx (tMeth CI "rows" (spRows CI) [] E ta tNil) σ H m.n m.d := by
  obtain ⟨dx, t, h1, _⟩ := hi.ex
  exact em_meth ha h1 rfl ea_nil fun H1 e => ⟨ia, m, pa, rfl, hi.mono e, O.hi, rfl, rfl⟩
theorem ev_people (c : Ca K CI CH) (ha : Ev ta σ H (.ref ia)) (hi : InsAt H CI ia m pa) : Ev (tFld K ta "people") σ H (.ref pa) := by
  obtain ⟨dx, t, h1, _⟩ := hi.ex
  exact ev_fld ha h1 c.ci c.np (lk_people _ _ _)
theorem ev_stores (c : Ca K CI CH) (ha : Ev ta σ H (.ref ia)) (hi : InsAt H CI ia m pa) : Ev (tFld K ta "stores") σ H (iV m.g) := by
  obtain ⟨dx, t, h1, _⟩ := hi.ex
  exact ev_fld ha h1 c.ci c.ns (lk_stores _ _ _)
theorem ev_mxN {n a b : Nat} {d : Mat} (h : EvMx te σ H n d) (ha : ∀ H1, Ex H H1 → Ev tb σ H1 (iV a)) (hb : ∀ H1, Ex H H1 → Ev tc σ H1 (iV b)) (ia : a < n) (ib : b < n) : Ev (tOp (rIxL K) (tOp (rIxL K) te tb) tc) σ H (iV (d a b)) := fun H1 e Q q =>
  h H1 e _ fun p H2 _ e2 hm => by
    obtain ⟨as, k1, k2⟩ := hm
    refine ha H2 (e.trans e2) H2 (Ex.refl H2) _ fun H3 e3 => ⟨p, _, _, _, rfl, rfl, sq_of (e3 _ _ k1), atI_nat (by rw [List.getElem?_map, List.getElem?_range ia]; rfl), ?_⟩
    exact hb H3 ((e.trans e2).trans e3) H3 (Ex.refl H3) _ fun H4 e4 => ⟨as a, _, _, _, rfl, rfl, sq_of ((e3.trans e4) _ _ (k2 a ia)), rV_at (d a) ib, q H4 ((e2.trans e3).trans e4)⟩
theorem ev_chain {i j l : Nat} (ha : Ev ta σ H (iV i)) (hb : Ev tb σ H (iV j)) (hc : Ev tc σ H (iV l)) : Ev (tChain (rI0 fun i j => .bl (decide (i ≤ j))) (rI0 fun i j => .bl (decide (i ≤ j))) ta tb tc) σ H (.bl (decide (i ≤ j ∧ j ≤ l))) := fun H1 e Q q =>
  ha H1 e _ fun H2 e2 => hb H2 (e.trans e2) _ fun H3 e3 => ⟨(i : Int), (j : Int), rfl, rfl, decide ((i : Int) ≤ (j : Int)), rfl, by
    by_cases c : i ≤ j
    · rw [if_pos (decide_eq_true (by omega))]
      refine hc H3 ((e.trans e2).trans e3) _ fun H4 e4 => ⟨(j : Int), (l : Int), rfl, rfl, ?_⟩
      have z := q H4 ((e2.trans e3).trans e4)
      rw [show decide (i ≤ j ∧ j ≤ l) = decide ((j : Int) ≤ (l : Int)) from decide_eq_decide.mpr (by omega)] at z
      exact z
    · rw [if_neg (by simpa using c)]
      have z := q H3 (e2.trans e3)
      rw [show decide (i ≤ j ∧ j ≤ l) = false from decide_eq_false (by omega)] at z
      exact z⟩
theorem el_cat {xs ys : List V} (ha : EvL ta σ H xs) (hb : ∀ H1, Ex H H1 → EvL tb σ H1 ys) (hz : xs.length + ys.length ≤ 100000) : EvL (tOp rCat ta tb) σ H (xs ++ ys) := fun H1 e Q q =>
  ha H1 e _ fun p H2 _ e2 hp => hb H2 (e.trans e2) H2 (Ex.refl H2) _ fun r H3 _ e3 hr => ⟨p, r, xs, ys, rfl, rfl, e3 _ _ hp, hr, sz_of hz, fun l hl => q l _ (fresh_back (e2.trans e3) hl) ((e2.trans e3).trans (Ex.new hl)) upd_same⟩
theorem el_catV {xs ys : List V} {b : Addr} (ha : EvL ta σ H xs) (hb : ∀ H1, Ex H H1 → Ev tb σ H1 (.ref b)) (hy : H b = some (.lst ys)) (hz : xs.length + ys.length ≤ 100000) : EvL (tOp rCat ta tb) σ H (xs ++ ys) := fun H1 e Q q =>
  ha H1 e _ fun p H2 _ e2 hp => hb H2 (e.trans e2) H2 (Ex.refl H2) _ fun H3 e3 => ⟨p, b, xs, ys, rfl, rfl, e3 _ _ hp, ((e.trans e2).trans e3) _ _ hy, sz_of hz, fun l hl => q l _ (fresh_back (e2.trans e3) hl) ((e2.trans e3).trans (Ex.new hl)) upd_same⟩
theorem em_cvP {pre : List V → Hp → Nat → Mat → Prop} {n : Nat} {d : Mat} {R : List V → Hp → Prop} (h : EvAP tr σ H R) (hp : ∀ vs H1, Ex H H1 → R vs H1 → pre vs H1 n d) : EvMx (tCall (spM pre) [] E tr) σ H n d := fun H1 e Q q =>
  h H1 e _ fun vs H2 e2 r => ⟨n, d, by rw [List.append_nil]; exact hp vs H2 (e.trans e2) r, fun p H3 hn e3 h3 => q p H3 (fresh_back e2 hn) (e2.trans e3) h3⟩
theorem el_l1 {v : V} (h : Ev te σ H v) : EvL (tLst (tCons te tNil)) σ H [v] := el_lst (ea1 h) (by show 1 ≤ 100000; decide)
theorem ev_neg1 : Ev (tUn (rU fun i => .int (-i)) (tC (.int 1))) σ H (.int (-1)) := ev_un ev_c ru_neg
/-! a, b = given -/
theorem q_un2 {i j : Nat} {ga : Addr} {a b : Nat} (h : Ev te σ H (.ref ga)) (hg : H ga = some (.lst (nV [a, b]))) (k : ∀ H1, Ex H H1 → tz D ((σ.set i (some (iV a))).set j (some (iV b))) H1) : tSeq (tAsg te (gLst K 2 (gCons (gName i) (gCons (gName j) gNil)))) tz D σ H :=
  h H (Ex.refl H) _ fun H1 e => ⟨ga, _, rfl, sq_of (e _ _ hg), rfl, _, _, rfl, _, _, rfl, rfl, k H1 e⟩
theorem q_un3 {i j l : Nat} {ga : Addr} {a b c : Nat} (h : Ev te σ H (.ref ga)) (hg : H ga = some (.lst (nV [a, b, c]))) (k : ∀ H1, Ex H H1 → tz D (((σ.set i (some (iV a))).set j (some (iV b))).set l (some (iV c))) H1) : tSeq (tAsg te (gLst K 3 (gCons (gName i) (gCons (gName j) (gCons (gName l) gNil))))) tz D σ H :=
  h H (Ex.refl H) _ fun H1 e => ⟨ga, _, rfl, sq_of (e _ _ hg), rfl, _, _, rfl, _, _, rfl, _, _, rfl, rfl, k H1 e⟩
theorem ev_g0 {ga : Addr} {a : Nat} {l : List Nat} (h : Ev te σ H (.ref ga)) (hg : H ga = some (.lst (nV (a :: l)))) : Ev (tOp (rIxL K) te (tC (.int 0))) σ H (iV a) := ev_nat (i := 0) (sq_of hg) h ev_c rfl
/-! statements by the outcome -/
theorem q_wD {c : Prop} [Decidable c] {e : Int} (d : Dn C Q E H (if c then r else .error e)) (hb : Ev tb σ H (.bl (decide c))) (hc : Ev tc σ H (.int e)) (k : c → Dn C Q E H r → ∀ H1, Ex H H1 → tz D σ H1) : tSeq (tDrop (tCall (spWant C) [] E (tCons tb (tCons tc tNil)))) tz D σ H :=
  q_w hb hc (fun h => k (of_decide_eq_true h) (by rw [if_pos (of_decide_eq_true h)] at d; exact d)) fun h => d.er e (by rw [if_neg (of_decide_eq_false h)])
theorem q_roadD {a b v : Nat} (hi : InsAt H CI ia m pa) (d : Dn C Q E H (Ns.roadOk m a b v r)) (h : EvA tr σ H [.ref ia, iV a, iV b, iV v]) (k : a < m.n → b < m.n → a ≠ b → v ≤ 50 → Dn C Q E H r → ∀ H1, Ex H H1 → tz D σ H1) : tSeq (tDrop (tCall (spWantRoad CI C) [] E tr)) tz D σ H := by
  refine q_N (o := if a < m.n ∧ b < m.n then (if a ≠ b ∧ v ≤ 50 then none else some (-22)) else some (-2)) h (fun H1 e => ⟨ia, m, pa, a, b, v, rfl, hi.mono e, rfl⟩) (fun c e => d.er c ?_) fun e => ?_
  · unfold Ns.roadOk
    by_cases c1 : a < m.n ∧ b < m.n
    · rw [if_pos c1] at e ⊢
      by_cases c2 : a ≠ b ∧ v ≤ 50
      · rw [if_pos c2] at e; cases e
      · rw [if_neg c2] at e ⊢; cases e; rfl
    · rw [if_neg c1] at e ⊢; cases e; rfl
  · by_cases c1 : a < m.n ∧ b < m.n
    · by_cases c2 : a ≠ b ∧ v ≤ 50
      · unfold Ns.roadOk at d
        rw [if_pos c1, if_pos c2] at d
        exact k c1.1 c1.2 c2.1 c2.2 d
      · rw [if_pos c1, if_neg c2] at e; cases e
    · rw [if_neg c1] at e; cases e
theorem q_sizeD {lo k0 : Nat} (hi : InsAt H CI ia m pa) (O : Ns.Ok m) (d : Dn C Q E H (Ns.sized m lo k0 r)) (h : EvA tr σ H [.ref ia, iV lo, iV k0]) (k : lo ≤ k0 → k0 ≤ m.n → Ns.conn m.n m.d = true → Dn C Q E H r → ∀ H1, Ex H H1 → tz D σ H1) : tSeq (tDrop (tCall (spWantSize CI C) [] E tr)) tz D σ H := by
  refine q_N (o := if lo ≤ k0 ∧ k0 ≤ m.n then (if Ns.conn m.n m.d = true then none else some (-33)) else some (-22)) h (fun H1 e => ⟨ia, m, pa, lo, k0, rfl, hi.mono e, O, rfl⟩) (fun c e => d.er c ?_) fun e => ?_
  · unfold Ns.sized
    by_cases c1 : lo ≤ k0 ∧ k0 ≤ m.n
    · rw [if_pos c1] at e ⊢
      by_cases c2 : Ns.conn m.n m.d = true
      · rw [if_pos c2] at e; cases e
      · rw [if_neg c2] at e ⊢; cases e; rfl
    · rw [if_neg c1] at e ⊢; cases e; rfl
  · by_cases c1 : lo ≤ k0 ∧ k0 ≤ m.n
    · by_cases c2 : Ns.conn m.n m.d = true
      · unfold Ns.sized at d
        rw [if_pos c1, if_pos c2] at d
        exact k c1.1 c1.2 c2 d
      · rw [if_pos c1, if_neg c2] at e; cases e
    · rw [if_neg c1] at e; cases e
theorem s_defD {x : Nat} {nx bk ct : L2.St → Hp → Prop} (d : Dn C Q E H (Ns.defd m x)) (h : Ev te σ H (iV x)) : tRet (tCall (spDefined C) [] E (tCons te tNil)) { nx := nx, rt := Q, bk := bk, ct := ct } σ H := by
  refine s_X (r := if x < 1000 then .ok [(x : Int)] else .error (-33)) (ap_1 h) (fun us H1 e eu => ⟨x, eu, rfl⟩) (fun c e => d.er c ?_) fun xs e p H1 hp e1 h1 => ?_
  · unfold Ns.defd
    by_cases c1 : x < 1000
    · rw [if_pos c1] at e; cases e
    · rw [if_neg c1] at e ⊢; cases e; rfl
  · by_cases c1 : x < 1000
    · rw [if_pos c1] at e
      cases e
      exact d.ok m [(x : Int)] (by unfold Ns.defd; rw [if_pos c1]) p H1 hp e1 h1
    · rw [if_neg c1] at e; cases e
theorem s_retD {out : List Int} {nx bk ct : L2.St → Hp → Prop} (d : Dn C Q E H (.ok (m, out))) (h : EvL te σ H (out.map V.int)) : tRet te { nx := nx, rt := Q, bk := bk, ct := ct } σ H :=
  s_retL h fun p H1 hp e1 h1 => d.ok m out rfl p H1 hp e1 h1
/-! rows, group = instance.rows(), instance.stores -/
theorem q_pairT {i j n : Nat} {d : Mat} {v : V} (h : EvMx ta σ H n d) (hv : ∀ H1, Ex H H1 → Ev tb σ H1 v) (k : ∀ p H1, H p = none → Ex H H1 → Mx H1 p n d → tz D ((σ.set i (some (.ref p))).set j (some v)) H1) :
    tSeq (tAsg (tTup (tCons ta (tCons tb tNil))) (gTup K 2 (gCons (gName i) (gCons (gName j) gNil)))) tz D σ H :=
  h H (Ex.refl H) _ fun p H1 hp e1 hm => hv H1 e1 H1 (Ex.refl H1) _ fun H2 e2 => ⟨by show 2 ≤ sizeLine; decide, fun t ht => ⟨t, _, rfl, st_of upd_same, rfl, _, _, rfl, _, _, rfl, rfl, k p _ hp ((e1.trans e2).trans (Ex.new ht)) (hm.mono (e2.trans (Ex.new ht)))⟩⟩
theorem q_pairP {i j n : Nat} {d : Mat} {v : V} (h : EvMx ta σ H n d) (hv : ∀ H1, Ex H H1 → Ev tb σ H1 v) (k : ∀ p H1, H p = none → Ex H H1 → Mx H1 p n d → tz D ((σ.set i (some (.ref p))).set j (some v)) H1) :
    tSeq (tPar i j (tCons ta (tCons tb tNil))) tz D σ H :=
  h H (Ex.refl H) _ fun p H1 hp e1 hm => hv H1 e1 H1 (Ex.refl H1) _ fun H2 e2 => ⟨_, _, rfl, k p H2 hp (e1.trans e2) (hm.mono e2)⟩
/-! xs.extend(new list) -/
theorem s_extL {l : Addr} {xs ys : List V} (hl : H l = some (.lst xs)) (ha : Ev ta σ H (.ref l)) (h : EvL te σ H ys) (hz : xs.length + ys.length ≤ 100000) (k : ∀ p H1, H p = none → Ex H H1 → H1 p = some (.lst ys) → D.nx σ (upd H1 l (.lst (xs ++ ys)))) :
    tDrop (tBM K "list" rExtend ta (tCons te tNil)) D σ H := ha H (Ex.refl H) _ fun H1 e1 =>
  ⟨Or.inl ⟨rfl, xs, sq_of (e1 l _ hl)⟩, h H1 e1 _ fun p H2 hp e2 h2 => ⟨l, p, xs, ys, rfl, rfl, e2 l _ (e1 l _ hl), h2, sz_of hz, k p H2 (fresh_back e1 hp) (e1.trans e2) h2⟩⟩
theorem q_extV {l b : Addr} {xs ys : List V} (hl : H l = some (.lst xs)) (hb : H b = some (.lst ys)) (ha : Ev ta σ H (.ref l)) (h : Ev te σ H (.ref b)) (hz : xs.length + ys.length ≤ 100000) (k : ∀ H1, Ex H H1 → tz D σ (upd H1 l (.lst (xs ++ ys)))) :
    tSeq (tDrop (tBM K "list" rExtend ta (tCons te tNil))) tz D σ H := ha H (Ex.refl H) _ fun H1 e1 =>
  ⟨Or.inl ⟨rfl, xs, sq_of (e1 l _ hl)⟩, h H1 e1 _ fun H2 e2 => ⟨l, b, xs, ys, rfl, rfl, e2 l _ (e1 l _ hl), e2 b _ (e1 b _ hb), sz_of hz, k H2 (e1.trans e2)⟩⟩
end
end Nw

/-! ### 3l. The walk: what operations ask first -/
namespace Nw
open PySem PySem.Spec PyProof.Rows L2 Evl
open Ns (Vec Mat)
section
variable {P : Program} {w : World} {K : PySem.W.Frag} {mg : Str → Option Value} {base : Heap}
theorem sc_defined : FnScope ["distance"] ["distance"] (defScope (top 52)) := ⟨rfl, rfl, rfl, by decide +kernel, rfl, by decide +kernel, by decide +kernel⟩
theorem cal_defined (d : Df K mg "defined" (top 52)) {C : Addr} (G : Gb mg) (cW : CalX P w K mg base 3 "want" (spWant C)) : CalX P w K mg base 4 "defined" (spDefined C) := by
  refine calX_of d sc_defined (fun _ _ _ _ _ _ us hl => match us, hl with | [_], _ => rfl) (fun vs H Q E h => ?_) fun f cdv A outer s H vs Q E hr h => ?_
  · obtain ⟨r, ⟨x, rfl, _⟩, _⟩ := h
    rfl
  · refine ⟨_, (pss_cons (ps_expr (pe_clX cW hr (by decide) (takes_of rfl rfl rfl rfl) (pa_cons (pe_cmpR op_lt (pv 0) (pe_g G.far) (nomark _)) (pa_cons (pe_g G.undefined) pa_nil))))
      (pss_one (ps_ret (pe_lst (pa_cons (pv 0) pa_nil))))), ?_⟩
    obtain ⟨r, ⟨x, rfl, rfl⟩, kE, kO⟩ := h
    refine q_w (ev_op (ev_var rfl) ev_c rv_I0) ev_c (fun hb H1 e1 => ?_) fun hb => ?_
    · have hx : x < 1000 := by have := of_decide_eq_true hb; omega
      rw [if_pos hx] at kO
      exact s_retL (el_l1 ((ev_var rfl))) fun p H2 hp e2 h2 => kO _ rfl p H2 (fresh_back e1 hp) (e1.trans e2) h2
    · have hx : ¬ x < 1000 := by have := of_decide_eq_false hb; omega
      rw [if_neg hx] at kE
      exact kE _ rfl
theorem sc_told : FnScope ["distance"] ["distance"] (defScope (top 53)) := ⟨rfl, rfl, rfl, by decide +kernel, rfl, by decide +kernel, by decide +kernel⟩
theorem cal_told (d : Df K mg "told" (top 53)) (G : Gb mg) : Cal P w K mg base 1 "told" spTold := by
  refine cal_of d sc_told (fun _ _ _ _ _ _ us hl => match us, hl with | [_], _ => rfl) (fun vs H Q E h => ?_) fun f cdv A outer s H vs Q E hr h => ?_
  · obtain ⟨z, ⟨x, rfl, _⟩, _⟩ := h
    rfl
  · refine ⟨_, (pss_one (ps_ret (pe_ifExp (pt_cmpR op_lt (pv 0) (pe_g G.far) (nomark _)) (pv 0) (pe_un un_neg pe_int)))), ?_⟩
    obtain ⟨z, ⟨x, rfl, rfl⟩, k⟩ := h
    refine s_ret (ev_if (et_test (ev_op (ev_var rfl) ev_c rv_I0)) (fun hb => ev_is (ev_var rfl) ?_) fun hb => ev_is ev_neg1 ?_) k
    · have := of_decide_eq_true hb
      unfold Ns.told
      rw [if_pos (by omega)]
    · have := of_decide_eq_false hb
      unfold Ns.told
      rw [if_neg (by omega)]
theorem sc_want_road : FnScope ["instance", "a", "b", "time"] ["instance", "a", "b", "time"] (defScope (top 54)) := ⟨rfl, rfl, rfl, by decide +kernel, rfl, by decide +kernel, by decide +kernel⟩
theorem cal_want_road (d : Df K mg "want_road" (top 54)) {CI CH C : Addr} (G : Gb mg) (c : Ca K CI CH) (cW : CalX P w K mg base 3 "want" (spWant C)) (mH : C8.Met P w K mg base 1 CI "has_place" (spHp CI) []) : CalX P w K mg base 4 "want_road" (spWantRoad CI C) := by
  refine calX_of d sc_want_road (fun _ _ _ _ _ _ us hl => match us, hl with | [_, _, _, _], _ => rfl) (fun vs H Q E h => ?_) fun f cdv A outer s H vs Q E hr h => ?_
  · obtain ⟨o, ⟨ia, m, pa, a, b, v, rfl, _⟩, _⟩ := h
    rfl
  · refine ⟨_, (pss_cons (ps_expr (pe_clX cW hr (by decide) (takes_of rfl rfl rfl rfl) (pa_cons (pe_and (C8.pe_mt mH hr (by decide) (pv 0) (pa_cons (pv 1) pa_nil)) (pe_one (C8.pe_mt mH hr (by decide) (pv 0) (pa_cons (pv 2) pa_nil)))) (pa_cons (pe_g G.noPlace) pa_nil))))
      (pss_one (ps_expr (pe_clX cW hr (by decide) (takes_of rfl rfl rfl rfl) (pa_cons (pe_and (pe_cmpR op_ne (pv 1) (pv 2) (nomark _)) (pe_one (pe_cmpR op_le (pv 3) (pe_g G.mostTime) (nomark _)))) (pa_cons (pe_g G.notInRange) pa_nil)))))), ?_⟩
    obtain ⟨o, ⟨ia, m, pa, a, b, v, rfl, hi, rfl⟩, kE, kN⟩ := h
    refine q_w (ev_andV (ev_hp (ev_var rfl) hi (ev_var rfl)) fun _ => ev_hp (ev_var rfl) hi (ev_var rfl)) ev_c (fun hb H1 e1 => ?_) fun hb => ?_
    · have h1 : a < m.n ∧ b < m.n := by simpa using hb
      rw [if_pos h1] at kE kN
      refine s_w (b := decide (a ≠ b ∧ v ≤ 50)) (ev_is (ev_andV (ev_op (ev_var rfl) (ev_var rfl) (rv_ne rfl)) fun _ => ev_op (ev_var rfl) ev_c rv_I0) (congrArg V.bl ?_)) ev_c (fun hb2 H2 e2 => ?_) fun hb2 => ?_
      · rw [int_dec, show decide ((v : Int) ≤ 50) = decide (v ≤ 50) from decide_eq_decide.mpr (by omega)]
        by_cases h3 : a = b
        · simp [h3]
        · simp [h3]
      · have h2 := of_decide_eq_true hb2
        rw [if_pos h2] at kN
        exact kN rfl H2 (e1.trans e2)
      · have h2 := of_decide_eq_false hb2
        rw [if_neg h2] at kE
        exact (kE _ rfl).mono e1
    · have h1 : ¬ (a < m.n ∧ b < m.n) := by simpa using hb
      rw [if_neg h1] at kE
      exact kE _ rfl
theorem sc_want_size : FnScope ["instance", "least", "size"] ["instance", "least", "size"] (defScope (top 55)) := ⟨rfl, rfl, rfl, by decide +kernel, rfl, by decide +kernel, by decide +kernel⟩
theorem cal_want_size (d : Df K mg "want_size" (top 55)) {CI CH C : Addr} (G : Gb mg) (c : Ca K CI CH) (cW : CalX P w K mg base 3 "want" (spWant C)) (mP : C8.Met P w K mg base 1 CI "place_count" (spPc CI) []) (mR : C8.Met P w K mg base 5 CI "rows" (spRows CI) []) (cC : Cal P w K mg base 1 "is_connected" spConn) : CalX P w K mg base 6 "want_size" (spWantSize CI C) := by
  refine calX_of d sc_want_size (fun _ _ _ _ _ _ us hl => match us, hl with | [_, _, _], _ => rfl) (fun vs H Q E h => ?_) fun f cdv A outer s H vs Q E hr h => ?_
  · obtain ⟨o, ⟨ia, m, pa, lo, k, rfl, _⟩, _⟩ := h
    rfl
  · refine ⟨_, (pss_cons (ps_expr (pe_clX cW hr (by decide) (takes_of rfl rfl rfl rfl) (pa_cons (pe_chain op_le op_le (pv 1) (pv 2) (C8.pe_mt0 mP hr (by decide) (pv 0))) (pa_cons (pe_g G.notInRange) pa_nil))))
      (pss_one (ps_expr (pe_clX cW hr (by decide) (takes_of rfl rfl rfl rfl) (pa_cons (pe_cl cC hr (by decide) (pa_cons (C8.pe_mt0 mR hr (by decide) (pv 0)) pa_nil)) (pa_cons (pe_g G.undefined) pa_nil)))))), ?_⟩
    obtain ⟨o, ⟨ia, m, pa, lo, k, rfl, hi, O, rfl⟩, kE, kN⟩ := h
    refine q_w (ev_chain (ev_var rfl) (ev_var rfl) (ev_pc (ev_var rfl) hi)) ev_c (fun hb H1 e1 => ?_) fun hb => ?_
    · rw [if_pos (of_decide_eq_true hb)] at kE kN
      refine s_w (b := Ns.conn m.n m.d) (ev_cvP (ap_M (em_rows (ev_var rfl) (hi.mono e1) O) fun H2 e2 => ea_nil) fun vs H2 e2 ⟨p, hv, hm⟩ => ⟨p, m.n, m.d, hv, hm, O.lo, O.hi, rfl⟩) ev_c (fun hb2 H2 e2 => ?_) fun hb2 => ?_
      · rw [if_pos hb2] at kN
        exact kN rfl H2 (e1.trans e2)
      · rw [if_neg (by rw [hb2]; decide)] at kE
        exact (kE _ rfl).mono e1
    · rw [if_neg (of_decide_eq_false hb)] at kE
      exact kE _ rfl
end
end Nw

/-! ### 3m. The walk: operations 4 to 10, 12, 13, 22 -/
namespace Nw
open PySem PySem.Spec PyProof.Rows L2 Evl
open Ns (Vec Mat)
section
variable {P : Program} {w : World} {K : PySem.W.Frag} {mg : Str → Option Value} {base : Heap}
theorem sc_ask_distance : FnScope ["instance", "given", "a", "b"] ["instance", "given"] (defScope (top 59)) := ⟨rfl, rfl, rfl, by decide +kernel, rfl, by decide +kernel, by decide +kernel⟩
theorem cal_ask_distance (d : Df K mg "ask_distance" (top 59)) {CI CH C : Addr} (G : Gb mg) (c : Ca K CI CH) (cW : CalX P w K mg base 3 "want" (spWant C)) (cD : CalX P w K mg base 4 "defined" (spDefined C)) (mH : C8.Met P w K mg base 1 CI "has_place" (spHp CI) []) (mR : C8.Met P w K mg base 5 CI "rows" (spRows CI) []) : CalX P w K mg base 7 "ask_distance" (spRead CI C 4) := by
  refine calX_of d sc_ask_distance (fun _ _ _ _ _ _ us hl => match us, hl with | [_, _], _ => rfl) (fun vs H Q E h => ?_) fun f cdv A outer s H vs Q E hr h => ?_
  · obtain ⟨ia, ga, pa, m, args, rfl, _⟩ := h
    rfl
  · refine ⟨_, (pss_cons (ps_asg (pv 1) (pg_lst rfl (pgs_cons (pg_name (i := 2) sc_ask_distance.nd rfl (Or.inl rfl)) (pgs_cons (pg_name (i := 3) sc_ask_distance.nd rfl (Or.inl rfl)) pgs_nil))))
      (pss_cons (ps_expr (pe_clX cW hr (by decide) (takes_of rfl rfl rfl rfl) (pa_cons (pe_and (C8.pe_mt mH hr (by decide) (pv 0) (pa_cons (pv 2) pa_nil)) (pe_one (C8.pe_mt mH hr (by decide) (pv 0) (pa_cons (pv 3) pa_nil)))) (pa_cons (pe_g G.noPlace) pa_nil))))
      (pss_one (ps_ret (pe_clX cD hr (by decide) (takes_of rfl rfl rfl rfl) (pa_cons (pe_ix (kr_ix (K := K)) (pe_ix (kr_ix (K := K)) (C8.pe_mt0 mR hr (by decide) (pv 0)) (pv 2) (fun _ _ => rfl)) (pv 3) (fun _ _ => rfl)) pa_nil)))))), ?_⟩
    obtain ⟨ia, ga, pa, m, args, rfl, hi, O, hg, hl, dn⟩ := h
    obtain ⟨a, b, rfl⟩ := l2 hl
    refine q_un2 (ev_var rfl) hg fun H1 e1 => ?_
    have hi1 := hi.mono e1
    refine q_wD (c := a < m.n ∧ b < m.n) (dn.mono e1) (ev_is (ev_andV (ev_hp (ev_var rfl) hi1 (ev_var rfl)) fun _ => ev_hp (ev_var rfl) hi1 (ev_var rfl)) (congrArg V.bl (Bool.decide_and _ _).symm)) ev_c fun hc dn2 H2 e2 => ?_
    exact s_defD (dn2.mono e2) (ev_mxN (em_rows (ev_var rfl) (hi1.mono e2) O) (fun H3 e3 => ev_var rfl) (fun H3 e3 => ev_var rfl) hc.1 hc.2)
theorem bools_nil {α : Type} {l : List α} (h : l = []) : l.length = 0 := by rw [h]; rfl
theorem Kf.start {H : Hp} : ∀ b o, H b = some o → H b = some o := fun _ _ h => h
/-- all but the list at f -/
def Kf (f : Addr) (H H' : Hp) : Prop := ∀ b o, H b = some o → b ≠ f → H' b = some o
theorem mat_out (n : Nat) (d : Mat) (i : Nat) : ((n : Int) :: (List.range (i + 1)).flatMap fun a => (List.range n).map fun b => Ns.told (d a b)) = ((n : Int) :: (List.range i).flatMap fun a => (List.range n).map fun b => Ns.told (d a b)) ++ (List.range n).map fun b => Ns.told (d i b) := by
  rw [List.range_succ, List.flatMap_append, List.cons_append]
  congr 2
  show ((List.range n).map fun b => Ns.told (d i b)) ++ [] = _
  rw [List.append_nil]
theorem sc_ask_matrix : FnScope ["instance", "given", "found", "row", "distance"] ["instance", "given"] (defScope (top 60)) := ⟨rfl, rfl, rfl, by decide +kernel, rfl, by decide +kernel, by decide +kernel⟩
theorem cal_ask_matrix (d : Df K mg "ask_matrix" (top 60)) {CI CH C : Addr} (G : Gb mg) (c : Ca K CI CH) (mP : C8.Met P w K mg base 1 CI "place_count" (spPc CI) []) (mR : C8.Met P w K mg base 5 CI "rows" (spRows CI) []) (cE : Cal P w K mg base 1 "told" spTold) : CalX P w K mg base 7 "ask_matrix" (spRead CI C 5) := by
  refine calX_of d sc_ask_matrix (fun _ _ _ _ _ _ us hl => match us, hl with | [_, _], _ => rfl) (fun vs H Q E h => ?_) fun f cdv A outer s H vs Q E hr h => ?_
  · obtain ⟨ia, ga, pa, m, args, rfl, _⟩ := h
    rfl
  · refine ⟨_, (pss_cons (ps_set (i := 2) sc_ask_matrix.nd rfl (Or.inl rfl) (pe_lst (pa_cons (C8.pe_mt0 mP hr (by decide) (pv 0)) pa_nil)))
      (pss_cons (ps_for (passes_of rfl) rfl (pk_list (K := K) (C8.pe_mt0 mR hr (by decide) (pv 0))) (pg_name (i := 3) sc_ask_matrix.nd rfl (Or.inl rfl)) (pss_one (ps_expr (pe_bm PySem.F.plainAttrs_list PySem.F.slot_list_extend PySem.F.type_list_extend mt_extend (pv 2) (pa_cons (pe_lc (own := [("distance", 4)]) (g := gName 4) rfl sc_ask_matrix.nd (pk_list (K := K) (pv 3)) (blkOk_by (N := ["instance", "given", "found", "row", "distance"]) (sc := defScope (top 60)) (by decide +kernel)) (fun _ _ _ _ _ => pg_name (i := 4) sc_ask_matrix.nd rfl (Or.inl rfl)) (fun _ _ _ _ _ => pts_nil) (fun _ _ _ _ _ => (pe_cl cE hr (by decide) (pa_cons (pv 4) pa_nil)))) pa_nil)))))
      (pss_one (ps_ret (pv 2))))), ?_⟩
    obtain ⟨ia, ga, pa, m, args, rfl, hi, O, hg, hl, dn⟩ := h
    obtain rfl := l0 hl
    refine q_asgL (el_l1 ((ev_pc (ev_var rfl) hi))) fun fa H1 hfa e1 h1 => ?_
    have hi1 := hi.mono e1
    refine em_rows (ev_var rfl) hi1 O H1 (Ex.refl H1) _ fun p H2 hp e2 hm => ?_
    obtain ⟨as, k1, k2⟩ := hm
    have h2 : H2 fa = some (.lst [iV m.n]) := e2 _ _ h1
    have hpf : p ≠ fa := fun z => by rw [z, h1] at hp; cases hp
    have haf : ∀ i, i < m.n → as i ≠ fa := fun i hi' z => by
      have q := k2 i hi'
      rw [z, h2] at q
      have q2 : [iV m.n] = rV m.n (m.d i) := HO.lst.inj (Option.some.inj q)
      have q3 := congrArg List.length q2
      rw [List.length_map, List.length_range] at q3
      have q4 : m.n = 1 := q3.symm
      have i0 : i = 0 := by omega
      subst i0
      rw [q4] at q2
      have q5 := V.int.inj (List.cons.inj q2).1
      have q6 := Ns.dist_self m.t m.n 0
      have q7 : m.d 0 0 = 0 := q6
      rw [q7] at q5
      cases q5
    have hi7 := O.hi
    refine ⟨p, rfl, ⟨_, sq_of k1⟩, for_list (K := K) (a := p) (xs := (List.range m.n).map fun i => V.ref (as i)) (fun i σ' H' => ∃ v : Option V, σ' = [some (.ref ia), some (.ref ga), some (.ref fa), v, none] ∧ Kf fa H2 H' ∧ H' fa = some (.lst (((m.n : Int) :: (List.range i).flatMap fun a => (List.range m.n).map fun b => Ns.told (m.d a b)).map V.int)))
      ⟨none, rfl, fun _ _ h _ => h, h2⟩ (fun i σ' H' _ ⟨v, _, kf, _⟩ => sq_of (kf _ _ k1 hpf)) ?_ ?_⟩
    · rintro i x σ' H' hx ⟨v, rfl, kf, hf⟩
      obtain ⟨hin, rfl⟩ := ref_of hx
      have hrow : H' (as i) = some (.lst (rV m.n (m.d i))) := kf _ _ (k2 i hin) (haf i hin)
      refine s_extL (l := fa) (ys := ((List.range m.n).map fun b => Ns.told (m.d i b)).map V.int) hf (ev_var rfl) (el_is (el_lcN (l := (List.range m.n).map (m.d i)) (fun _ => true) (fun x => V.int (Ns.told x)) (ev_var rfl) (sq_of (by rw [hrow, rV_nV])) (by rw [List.length_map, List.length_range]; omega) (fun _ => rfl) (fun x hx H3 e3 => et_yes)
        fun x hx _ H3 e3 => ev_cv (ea1 (ev_var rfl)) fun H4 e4 => ⟨x, rfl, rfl⟩) ?_) ?_ fun q H3 hq e3 h3 => ⟨_, rfl, fun b o hb hbf => ?_, ?_⟩
      · rw [filter_yes, List.map_map, List.map_map]
        rfl
      · have hlen := Ns.flat_len (fun a => (List.range m.n).map fun b => Ns.told (m.d a b)) m.n (fun a => by rw [List.length_map, List.length_range]; exact Nat.le_refl _) (List.range i)
        rw [List.length_range] at hlen
        have h49 : i * m.n ≤ 7 * 7 := Nat.mul_le_mul (by omega) hi7
        rw [List.length_map, List.length_cons, List.length_map, List.length_map, List.length_range]
        omega
      · rw [upd_ne hbf]
        exact e3 _ _ (kf b o hb hbf)
      · rw [upd_same, mat_out, List.map_append]
    · rintro σ' H' ⟨v, rfl, kf, hf⟩
      rw [List.length_map, List.length_range] at hf
      have hex : Ex H H' := fun b o hb => kf b o (e2 _ _ (e1 _ _ hb)) (ne_of_none hb hfa)
      exact s_ret (ev_var rfl) fun H3 e3 => dn.ok m _ rfl fa H3 hfa (hex.trans e3) (e3 _ _ hf)
theorem sc_ask_connected : FnScope ["instance", "given"] ["instance", "given"] (defScope (top 61)) := ⟨rfl, rfl, rfl, by decide +kernel, rfl, by decide +kernel, by decide +kernel⟩
theorem cal_ask_connected (d : Df K mg "ask_connected" (top 61)) {CI CH C : Addr} (G : Gb mg) (c : Ca K CI CH) (mR : C8.Met P w K mg base 5 CI "rows" (spRows CI) []) (cC : Cal P w K mg base 1 "is_connected" spConn) : CalX P w K mg base 7 "ask_connected" (spRead CI C 6) := by
  refine calX_of d sc_ask_connected (fun _ _ _ _ _ _ us hl => match us, hl with | [_, _], _ => rfl) (fun vs H Q E h => ?_) fun f cdv A outer s H vs Q E hr h => ?_
  · obtain ⟨ia, ga, pa, m, args, rfl, _⟩ := h
    rfl
  · refine ⟨_, (pss_one (ps_ret (pe_lst (pa_cons (pe_ifExp (pt_val (pe_cl cC hr (by decide) (pa_cons (C8.pe_mt0 mR hr (by decide) (pv 0)) pa_nil))) pe_int pe_int) pa_nil)))), ?_⟩
    obtain ⟨ia, ga, pa, m, args, rfl, hi, O, hg, hl, dn⟩ := h
    obtain rfl := l0 hl
    refine s_retD dn (el_is (el_l1 (v := V.int (if Ns.conn m.n m.d = true then 1 else 0)) (ev_if (et_B (ev_cvP (ap_M (em_rows (ev_var rfl) hi O) fun H2 e2 => ea_nil) fun vs H2 e2 ⟨p, hv, hm⟩ => ⟨p, m.n, m.d, hv, hm, O.lo, O.hi, rfl⟩)) (fun hb => ev_is ev_c ?_) fun hb => ev_is ev_c ?_)) ?_)
    · rw [if_pos hb]
    · rw [if_neg (by rw [hb]; decide)]
    · rfl
theorem sc_ask_store_distance : FnScope ["instance", "given", "place"] ["instance", "given"] (defScope (top 62)) := ⟨rfl, rfl, rfl, by decide +kernel, rfl, by decide +kernel, by decide +kernel⟩
theorem cal_ask_store_distance (d : Df K mg "ask_store_distance" (top 62)) {CI CH C : Addr} (G : Gb mg) (c : Ca K CI CH) (cW : CalX P w K mg base 3 "want" (spWant C)) (cD : CalX P w K mg base 4 "defined" (spDefined C)) (mH : C8.Met P w K mg base 1 CI "has_place" (spHp CI) []) (mR : C8.Met P w K mg base 5 CI "rows" (spRows CI) []) (cS : Cal P w K mg base 3 "store_distance" spSd) : CalX P w K mg base 7 "ask_store_distance" (spRead CI C 7) := by
  refine calX_of d sc_ask_store_distance (fun _ _ _ _ _ _ us hl => match us, hl with | [_, _], _ => rfl) (fun vs H Q E h => ?_) fun f cdv A outer s H vs Q E hr h => ?_
  · obtain ⟨ia, ga, pa, m, args, rfl, _⟩ := h
    rfl
  · refine ⟨_, (pss_cons (ps_set (i := 2) sc_ask_store_distance.nd rfl (Or.inl rfl) (pe_ix (kr_ix (K := K)) (pv 1) pe_int (fun _ _ => rfl)))
      (pss_cons (ps_expr (pe_clX cW hr (by decide) (takes_of rfl rfl rfl rfl) (pa_cons (C8.pe_mt mH hr (by decide) (pv 0) (pa_cons (pv 2) pa_nil)) (pa_cons (pe_g G.noPlace) pa_nil))))
      (pss_one (ps_ret (pe_clX cD hr (by decide) (takes_of rfl rfl rfl rfl) (pa_cons (pe_cl cS hr (by decide) (pa_cons (C8.pe_mt0 mR hr (by decide) (pv 0)) (pa_cons (pk_fld (K := K) (pv 0)) (pa_cons (pv 2) pa_nil)))) pa_nil)))))), ?_⟩
    obtain ⟨ia, ga, pa, m, args, rfl, hi, O, hg, hl, dn⟩ := h
    obtain ⟨a, rfl⟩ := l1 hl
    refine q_asg (ev_g0 (ev_var rfl) hg) fun H1 e1 => ?_
    have hi1 := hi.mono e1
    refine q_wD (c := a < m.n) (dn.mono e1) (ev_hp (ev_var rfl) hi1 (ev_var rfl)) ev_c fun hc dn2 H2 e2 => ?_
    have hi2 := hi1.mono e2
    exact s_defD (dn2.mono e2) (ev_cvP (ap_M (em_rows (ev_var rfl) hi2 O) fun H3 e3 => ea2 (ev_stores c (ev_var rfl) (hi2.mono e3)) (ev_var rfl)) fun vs H3 e3 ⟨p, hv, hm⟩ => ⟨p, m.n, m.d, m.g, a, hv, hm, O.hi, hc, rfl⟩)
theorem sc_ask_nearest : FnScope ["instance", "given", "place", "store"] ["instance", "given"] (defScope (top 63)) := ⟨rfl, rfl, rfl, by decide +kernel, rfl, by decide +kernel, by decide +kernel⟩
theorem cal_ask_nearest (d : Df K mg "ask_nearest" (top 63)) {CI CH C : Addr} (G : Gb mg) (c : Ca K CI CH) (cW : CalX P w K mg base 3 "want" (spWant C)) (mH : C8.Met P w K mg base 1 CI "has_place" (spHp CI) []) (mR : C8.Met P w K mg base 5 CI "rows" (spRows CI) []) (cN : Cal P w K mg base 4 "nearest_store" spNear) : CalX P w K mg base 7 "ask_nearest" (spRead CI C 8) := by
  refine calX_of d sc_ask_nearest (fun _ _ _ _ _ _ us hl => match us, hl with | [_, _], _ => rfl) (fun vs H Q E h => ?_) fun f cdv A outer s H vs Q E hr h => ?_
  · obtain ⟨ia, ga, pa, m, args, rfl, _⟩ := h
    rfl
  · refine ⟨_, (pss_cons (ps_set (i := 2) sc_ask_nearest.nd rfl (Or.inl rfl) (pe_ix (kr_ix (K := K)) (pv 1) pe_int (fun _ _ => rfl)))
      (pss_cons (ps_expr (pe_clX cW hr (by decide) (takes_of rfl rfl rfl rfl) (pa_cons (C8.pe_mt mH hr (by decide) (pv 0) (pa_cons (pv 2) pa_nil)) (pa_cons (pe_g G.noPlace) pa_nil))))
      (pss_cons (ps_set (i := 3) sc_ask_nearest.nd rfl (Or.inl rfl) (pe_cl cN hr (by decide) (pa_cons (C8.pe_mt0 mR hr (by decide) (pv 0)) (pa_cons (pk_fld (K := K) (pv 0)) (pa_cons (pv 2) pa_nil)))))
      (pss_cons (ps_expr (pe_clX cW hr (by decide) (takes_of rfl rfl rfl rfl) (pa_cons (pe_cmpR op_ne (pv 3) (pe_g G.nowhere) (nomark _)) (pa_cons (pe_g G.undefined) pa_nil))))
      (pss_one (ps_ret (pe_lst (pa_cons (pv 3) pa_nil)))))))), ?_⟩
    obtain ⟨ia, ga, pa, m, args, rfl, hi, O, hg, hl, dn⟩ := h
    obtain ⟨a, rfl⟩ := l1 hl
    refine q_asg (ev_g0 (ev_var rfl) hg) fun H1 e1 => ?_
    have hi1 := hi.mono e1
    refine q_wD (c := a < m.n) (dn.mono e1) (ev_hp (ev_var rfl) hi1 (ev_var rfl)) ev_c fun hc dn2 H2 e2 => ?_
    have hi2 := hi1.mono e2
    refine q_asg (ev_cvP (ap_M (em_rows (ev_var rfl) hi2 O) fun H3 e3 => ea2 (ev_stores c (ev_var rfl) (hi2.mono e3)) (ev_var rfl)) fun vs H3 e3 ⟨p, hv, hm⟩ => ⟨p, m.n, m.d, m.g, a, hv, hm, O.hi, hc, rfl⟩) fun H3 e3 => ?_
    have dn3 := dn2.mono (e2.trans e3)
    by_cases hn : Ns.near m.n m.d m.g a = -1
    · rw [if_pos hn] at dn3
      refine q_wF (ev_is (ev_op (ev_var rfl) ev_c (rv_ne rfl)) (congrArg V.bl ?_)) ev_c (dn3.er _ rfl)
      rw [int_decI, hn]
      rfl
    · rw [if_neg hn] at dn3
      refine q_wT (ev_is (ev_op (ev_var rfl) ev_c (rv_ne rfl)) (congrArg V.bl ?_)) ev_c fun H4 e4 => s_retD (dn3.mono e4) (el_l1 ((ev_var rfl)))
      rw [int_decI, decide_eq_false hn]
      rfl
theorem sc_ask_greatest : FnScope ["instance", "given"] ["instance", "given"] (defScope (top 64)) := ⟨rfl, rfl, rfl, by decide +kernel, rfl, by decide +kernel, by decide +kernel⟩
theorem cal_ask_greatest (d : Df K mg "ask_greatest" (top 64)) {CI CH C : Addr} (G : Gb mg) (c : Ca K CI CH) (cD : CalX P w K mg base 4 "defined" (spDefined C)) (mR : C8.Met P w K mg base 5 CI "rows" (spRows CI) []) (cG : Cal P w K mg base 4 "greatest_distance" spGd) : CalX P w K mg base 7 "ask_greatest" (spRead CI C 9) := by
  refine calX_of d sc_ask_greatest (fun _ _ _ _ _ _ us hl => match us, hl with | [_, _], _ => rfl) (fun vs H Q E h => ?_) fun f cdv A outer s H vs Q E hr h => ?_
  · obtain ⟨ia, ga, pa, m, args, rfl, _⟩ := h
    rfl
  · refine ⟨_, (pss_one (ps_ret (pe_clX cD hr (by decide) (takes_of rfl rfl rfl rfl) (pa_cons (pe_cl cG hr (by decide) (pa_cons (C8.pe_mt0 mR hr (by decide) (pv 0)) (pa_cons (pk_fld (K := K) (pv 0)) (pa_cons (pk_fld (K := K) (pv 0)) pa_nil)))) pa_nil)))), ?_⟩
    obtain ⟨ia, ga, pa, m, args, rfl, hi, O, hg, hl, dn⟩ := h
    obtain rfl := l0 hl
    exact s_defD dn (ev_cvP (ap_M (em_rows (ev_var rfl) hi O) fun H2 e2 => ea2 (ev_people c (ev_var rfl) (hi.mono e2)) (ev_stores c (ev_var rfl) (hi.mono e2))) fun vs H2 e2 ⟨p, hv, hm⟩ => ⟨p, pa, m.n, m.d, m.pe, m.g, hv, hm, e2 _ _ hi.pe, O.hi, rfl⟩)
theorem sc_ask_total : FnScope ["instance", "given", "rows"] ["instance", "given"] (defScope (top 65)) := ⟨rfl, rfl, rfl, by decide +kernel, rfl, by decide +kernel, by decide +kernel⟩
theorem cal_ask_total (d : Df K mg "ask_total" (top 65)) {CI CH C : Addr} (G : Gb mg) (c : Ca K CI CH) (cW : CalX P w K mg base 3 "want" (spWant C)) (mR : C8.Met P w K mg base 5 CI "rows" (spRows CI) []) (cG : Cal P w K mg base 4 "greatest_distance" spGd) (cT : Cal P w K mg base 4 "total_distance" spTd) : CalX P w K mg base 7 "ask_total" (spRead CI C 10) := by
  refine calX_of d sc_ask_total (fun _ _ _ _ _ _ us hl => match us, hl with | [_, _], _ => rfl) (fun vs H Q E h => ?_) fun f cdv A outer s H vs Q E hr h => ?_
  · obtain ⟨ia, ga, pa, m, args, rfl, _⟩ := h
    rfl
  · refine ⟨_, (pss_cons (ps_set (i := 2) sc_ask_total.nd rfl (Or.inl rfl) (C8.pe_mt0 mR hr (by decide) (pv 0)))
      (pss_cons (ps_expr (pe_clX cW hr (by decide) (takes_of rfl rfl rfl rfl) (pa_cons (pe_cmpR op_lt (pe_cl cG hr (by decide) (pa_cons (pv 2) (pa_cons (pk_fld (K := K) (pv 0)) (pa_cons (pk_fld (K := K) (pv 0)) pa_nil)))) (pe_g G.far) (nomark _)) (pa_cons (pe_g G.undefined) pa_nil))))
      (pss_one (ps_ret (pe_lst (pa_cons (pe_cl cT hr (by decide) (pa_cons (pv 2) (pa_cons (pk_fld (K := K) (pv 0)) (pa_cons (pk_fld (K := K) (pv 0)) pa_nil)))) pa_nil)))))), ?_⟩
    obtain ⟨ia, ga, pa, m, args, rfl, hi, O, hg, hl, dn⟩ := h
    obtain rfl := l0 hl
    refine q_asgM (em_rows (ev_var rfl) hi O) fun r H1 hr1 e1 hm => ?_
    have hi1 := hi.mono e1
    refine q_wD (c := Ns.gd m.n m.d m.pe m.g < 1000) (dn.mono e1) (ev_is (ev_op (ev_cv (ea3 (ev_var rfl) (ev_people c (ev_var rfl) hi1) (ev_stores c (ev_var rfl) hi1)) fun H2 e2 => ⟨r, pa, m.n, m.d, m.pe, m.g, rfl, hm.mono e2, e2 _ _ hi1.pe, O.hi, rfl⟩) ev_c rv_I0) (congrArg V.bl (decide_eq_decide.mpr (by omega)))) ev_c fun hc dn2 H2 e2 => ?_
    have hi2 := hi1.mono e2
    exact s_retD (dn2.mono e2) (el_l1 ((ev_cv (ea3 (ev_var rfl) (ev_people c (ev_var rfl) hi2) (ev_stores c (ev_var rfl) hi2)) fun H3 e3 => ⟨r, pa, m.n, m.d, m.pe, m.g, rfl, hm.mono (e2.trans e3), e3 _ _ hi2.pe, O.hi, O.pe, rfl⟩)))
theorem sc_ask_without : FnScope ["instance", "given", "place"] ["instance", "given"] (defScope (top 67)) := ⟨rfl, rfl, rfl, by decide +kernel, rfl, by decide +kernel, by decide +kernel⟩
theorem cal_ask_without (d : Df K mg "ask_without" (top 67)) {CI CH C : Addr} (G : Gb mg) (c : Ca K CI CH) (cW : CalX P w K mg base 3 "want" (spWant C)) (cD : CalX P w K mg base 4 "defined" (spDefined C)) (mH : C8.Met P w K mg base 1 CI "has_place" (spHp CI) []) (mR : C8.Met P w K mg base 5 CI "rows" (spRows CI) []) (cH : Cal P w K mg base 1 "has" spHas) (cO : Cal P w K mg base 1 "without_place" spWithout) (cG : Cal P w K mg base 4 "greatest_distance" spGd) : CalX P w K mg base 7 "ask_without" (spRead CI C 12) := by
  refine calX_of d sc_ask_without (fun _ _ _ _ _ _ us hl => match us, hl with | [_, _], _ => rfl) (fun vs H Q E h => ?_) fun f cdv A outer s H vs Q E hr h => ?_
  · obtain ⟨ia, ga, pa, m, args, rfl, _⟩ := h
    rfl
  · refine ⟨_, (pss_cons (ps_set (i := 2) sc_ask_without.nd rfl (Or.inl rfl) (pe_ix (kr_ix (K := K)) (pv 1) pe_int (fun _ _ => rfl)))
      (pss_cons (ps_expr (pe_clX cW hr (by decide) (takes_of rfl rfl rfl rfl) (pa_cons (C8.pe_mt mH hr (by decide) (pv 0) (pa_cons (pv 2) pa_nil)) (pa_cons (pe_g G.noPlace) pa_nil))))
      (pss_cons (ps_expr (pe_clX cW hr (by decide) (takes_of rfl rfl rfl rfl) (pa_cons (pe_cl cH hr (by decide) (pa_cons (pk_fld (K := K) (pv 0)) (pa_cons (pv 2) pa_nil))) (pa_cons (pe_g G.noStore) pa_nil))))
      (pss_one (ps_ret (pe_clX cD hr (by decide) (takes_of rfl rfl rfl rfl) (pa_cons (pe_cl cG hr (by decide) (pa_cons (C8.pe_mt0 mR hr (by decide) (pv 0)) (pa_cons (pk_fld (K := K) (pv 0)) (pa_cons (pe_cl cO hr (by decide) (pa_cons (pk_fld (K := K) (pv 0)) (pa_cons (pv 2) pa_nil))) pa_nil)))) pa_nil))))))), ?_⟩
    obtain ⟨ia, ga, pa, m, args, rfl, hi, O, hg, hl, dn⟩ := h
    obtain ⟨a, rfl⟩ := l1 hl
    refine q_asg (ev_g0 (ev_var rfl) hg) fun H1 e1 => ?_
    have hi1 := hi.mono e1
    refine q_wD (c := a < m.n) (dn.mono e1) (ev_hp (ev_var rfl) hi1 (ev_var rfl)) ev_c fun hc dn2 H2 e2 => ?_
    have hi2 := hi1.mono e2
    have h7 := O.hi
    refine q_wD (c := m.g.testBit a = true) (dn2.mono e2) (ev_is (ev_cv (ea2 (ev_stores c (ev_var rfl) hi2) (ev_var rfl)) fun H3 e3 => ⟨m.g, a, rfl, rfl⟩) (congrArg V.bl (by simp))) ev_c fun hb dn3 H3 e3 => ?_
    have hi3 := hi2.mono e3
    exact s_defD (dn3.mono e3) (ev_cvP (ap_M (em_rows (ev_var rfl) hi3 O) fun H4 e4 => ea2 (ev_people c (ev_var rfl) (hi3.mono e4)) (ev_cv (ea2 (ev_stores c (ev_var rfl) (hi3.mono e4)) (ev_var rfl)) fun H5 e5 => ⟨m.g, a, rfl, by omega, hb, rfl⟩)) fun vs H4 e4 ⟨p, hv, hm⟩ => ⟨p, pa, m.n, m.d, m.pe, m.g - 2 ^ a, hv, hm, e4 _ _ hi3.pe, O.hi, rfl⟩)
theorem sc_ask_with : FnScope ["instance", "given", "place"] ["instance", "given"] (defScope (top 78)) := ⟨rfl, rfl, rfl, by decide +kernel, rfl, by decide +kernel, by decide +kernel⟩
theorem cal_ask_with (d : Df K mg "ask_with" (top 78)) {CI CH C : Addr} (G : Gb mg) (c : Ca K CI CH) (cW : CalX P w K mg base 3 "want" (spWant C)) (cD : CalX P w K mg base 4 "defined" (spDefined C)) (mH : C8.Met P w K mg base 1 CI "has_place" (spHp CI) []) (mR : C8.Met P w K mg base 5 CI "rows" (spRows CI) []) (cH : Cal P w K mg base 1 "has" spHas) (cI : Cal P w K mg base 1 "with_place" spWith) (cG : Cal P w K mg base 4 "greatest_distance" spGd) : CalX P w K mg base 7 "ask_with" (spRead CI C 22) := by
  refine calX_of d sc_ask_with (fun _ _ _ _ _ _ us hl => match us, hl with | [_, _], _ => rfl) (fun vs H Q E h => ?_) fun f cdv A outer s H vs Q E hr h => ?_
  · obtain ⟨ia, ga, pa, m, args, rfl, _⟩ := h
    rfl
  · refine ⟨_, (pss_cons (ps_set (i := 2) sc_ask_with.nd rfl (Or.inl rfl) (pe_ix (kr_ix (K := K)) (pv 1) pe_int (fun _ _ => rfl)))
      (pss_cons (ps_expr (pe_clX cW hr (by decide) (takes_of rfl rfl rfl rfl) (pa_cons (C8.pe_mt mH hr (by decide) (pv 0) (pa_cons (pv 2) pa_nil)) (pa_cons (pe_g G.noPlace) pa_nil))))
      (pss_cons (ps_expr (pe_clX cW hr (by decide) (takes_of rfl rfl rfl rfl) (pa_cons (pe_not (pe_cl cH hr (by decide) (pa_cons (pk_fld (K := K) (pv 0)) (pa_cons (pv 2) pa_nil)))) (pa_cons (pe_g G.storeThere) pa_nil))))
      (pss_one (ps_ret (pe_clX cD hr (by decide) (takes_of rfl rfl rfl rfl) (pa_cons (pe_cl cG hr (by decide) (pa_cons (C8.pe_mt0 mR hr (by decide) (pv 0)) (pa_cons (pk_fld (K := K) (pv 0)) (pa_cons (pe_cl cI hr (by decide) (pa_cons (pk_fld (K := K) (pv 0)) (pa_cons (pv 2) pa_nil))) pa_nil)))) pa_nil))))))), ?_⟩
    obtain ⟨ia, ga, pa, m, args, rfl, hi, O, hg, hl, dn⟩ := h
    obtain ⟨a, rfl⟩ := l1 hl
    refine q_asg (ev_g0 (ev_var rfl) hg) fun H1 e1 => ?_
    have hi1 := hi.mono e1
    refine q_wD (c := a < m.n) (dn.mono e1) (ev_hp (ev_var rfl) hi1 (ev_var rfl)) ev_c fun hc dn2 H2 e2 => ?_
    have hi2 := hi1.mono e2
    have h7 := O.hi
    have dn3 := dn2.mono e2
    have ev0 : Ev (tNotV (tCall spHas [] E0 (tCons (tFld K (tVar 0) "stores") (tCons (tVar 2) tNil)))) [some (.ref ia), some (.ref ga), some (iV a)] H2 (.bl (!m.g.testBit a)) := ev_notV (ev_cv (ea2 (ev_stores c (ev_var rfl) hi2) (ev_var rfl)) fun H3 e3 => ⟨m.g, a, rfl, rfl⟩)
    refine q_w ev0 ev_c (fun hb H3 e3 => ?_) fun hb => ?_
    · rw [if_neg (by simpa using hb)] at dn3
      have hi3 := hi2.mono e3
      exact s_defD (dn3.mono e3) (ev_cvP (ap_M (em_rows (ev_var rfl) hi3 O) fun H4 e4 => ea2 (ev_people c (ev_var rfl) (hi3.mono e4)) (ev_cv (ea2 (ev_stores c (ev_var rfl) (hi3.mono e4)) (ev_var rfl)) fun H5 e5 => ⟨m.g, a, rfl, by omega, rfl⟩)) fun vs H4 e4 ⟨p, hv, hm⟩ => ⟨p, pa, m.n, m.d, m.pe, m.g ||| 1 <<< a, hv, hm, e4 _ _ hi3.pe, O.hi, rfl⟩)
    · rw [if_pos (by simpa using hb)] at dn3
      exact dn3.er _ rfl
theorem sc_ask_after_loss : FnScope ["instance", "given"] ["instance", "given"] (defScope (top 68)) := ⟨rfl, rfl, rfl, by decide +kernel, rfl, by decide +kernel, by decide +kernel⟩
theorem cal_ask_after_loss (d : Df K mg "ask_after_loss" (top 68)) {CI CH C : Addr} (G : Gb mg) (c : Ca K CI CH) (cW : CalX P w K mg base 3 "want" (spWant C)) (cD : CalX P w K mg base 4 "defined" (spDefined C)) (mR : C8.Met P w K mg base 5 CI "rows" (spRows CI) []) (cL : Cal P w K mg base 5 "distance_after_loss" spLoss) : CalX P w K mg base 7 "ask_after_loss" (spRead CI C 13) := by
  refine calX_of d sc_ask_after_loss (fun _ _ _ _ _ _ us hl => match us, hl with | [_, _], _ => rfl) (fun vs H Q E h => ?_) fun f cdv A outer s H vs Q E hr h => ?_
  · obtain ⟨ia, ga, pa, m, args, rfl, _⟩ := h
    rfl
  · refine ⟨_, (pss_cons (ps_expr (pe_clX cW hr (by decide) (takes_of rfl rfl rfl rfl) (pa_cons (pe_cmpR op_ne (pk_fld (K := K) (pv 0)) pe_int (nomark _)) (pa_cons (pe_g G.noStore) pa_nil))))
      (pss_one (ps_ret (pe_clX cD hr (by decide) (takes_of rfl rfl rfl rfl) (pa_cons (pe_cl cL hr (by decide) (pa_cons (C8.pe_mt0 mR hr (by decide) (pv 0)) (pa_cons (pk_fld (K := K) (pv 0)) (pa_cons (pk_fld (K := K) (pv 0)) pa_nil)))) pa_nil))))), ?_⟩
    obtain ⟨ia, ga, pa, m, args, rfl, hi, O, hg, hl, dn⟩ := h
    obtain rfl := l0 hl
    have ev0 : Ev (tOp rNe (tFld K (tVar 0) "stores") (tC (.int 0))) [some (.ref ia), some (.ref ga)] H (.bl (!decide (m.g = 0))) := ev_is (ev_op (ev_stores c (ev_var rfl) hi) ev_c (rv_ne rfl)) (congrArg V.bl (congrArg Bool.not (int_dec (a := m.g) (b := 0))))
    have dn0 : Dn C Q E H (if m.g = 0 then .error (-6) else Ns.defd m (Ns.loss m.n m.d m.pe m.g)) := dn
    refine q_w ev0 ev_c (fun hb H1 e1 => ?_) fun hb => ?_
    · have h0 : ¬ m.g = 0 := by simpa using hb
      rw [if_neg h0] at dn0
      have hi1 := hi.mono e1
      have hne : Ns.mem m.n m.g ≠ [] := fun z => h0 (Ns.mem_none m.n O.hi m.g O.g z)
      exact s_defD (dn0.mono e1) (ev_cvP (ap_M (em_rows (ev_var rfl) hi1 O) fun H2 e2 => ea2 (ev_people c (ev_var rfl) (hi1.mono e2)) (ev_stores c (ev_var rfl) (hi1.mono e2))) fun vs H2 e2 ⟨p, hv, hm⟩ => ⟨p, pa, m.n, m.d, m.pe, m.g, hv, hm, e2 _ _ hi1.pe, O.hi, hne, rfl⟩)
    · have h0 : m.g = 0 := by simpa using hb
      rw [if_pos h0] at dn0
      exact dn0.er _ rfl
end
end Nw

/-! ### 3n. The walk: operations 11, 14 to 18, 23 to 26 -/
namespace Nw
open PySem PySem.Spec PyProof.Rows L2 Evl
open Ns (Vec Mat)
section
variable {P : Program} {w : World} {K : PySem.W.Frag} {mg : Str → Option Value} {base : Heap}
theorem toI_V (l : List Nat) : (Ns.toI l).map V.int = nV l := by
  unfold Ns.toI nV
  rw [List.map_map]
  rfl
theorem listed_V (l : List Nat) : (Ns.listed l).map V.int = [iV l.length] ++ nV l := by
  unfold Ns.listed
  rw [List.map_cons, toI_V]
  rfl
theorem cat_short {n g : Nat} {v : V} (h : n ≤ 7) : ([v] : List V).length + (nV (Ns.mem n g)).length ≤ 100000 := by
  have := mem_len n g
  rw [List.length_map]
  show 1 + _ ≤ _
  omega
theorem sc_ask_people_per_store : FnScope ["instance", "given", "rows", "group", "stores", "store"] ["instance", "given"] (defScope (top 66)) := ⟨rfl, rfl, rfl, by decide +kernel, rfl, by decide +kernel, by decide +kernel⟩
theorem cal_ask_people_per_store (d : Df K mg "ask_people_per_store" (top 66)) {CI CH C : Addr} (G : Gb mg) (c : Ca K CI CH) (mR : C8.Met P w K mg base 5 CI "rows" (spRows CI) []) (mP : C8.Met P w K mg base 1 CI "place_count" (spPc CI) []) (cM : Cal P w K mg base 2 "members" spMembers) (cP : Cal P w K mg base 5 "people_of_store" spPos) : CalX P w K mg base 7 "ask_people_per_store" (spRead CI C 11) := by
  refine calX_of d sc_ask_people_per_store (fun _ _ _ _ _ _ us hl => match us, hl with | [_, _], _ => rfl) (fun vs H Q E h => ?_) fun f cdv A outer s H vs Q E hr h => ?_
  · obtain ⟨ia, ga, pa, m, args, rfl, _⟩ := h
    rfl
  · refine ⟨_, (pss_cons (ps_asg (pe_tup (pa_cons (C8.pe_mt0 mR hr (by decide) (pv 0)) (pa_cons (pk_fld (K := K) (pv 0)) pa_nil))) (pg_tup rfl (pgs_cons (pg_name (i := 2) sc_ask_people_per_store.nd rfl (Or.inr rfl)) (pgs_cons (pg_name (i := 3) sc_ask_people_per_store.nd rfl (Or.inr rfl)) pgs_nil))))
      (pss_cons (ps_set (i := 4) sc_ask_people_per_store.nd rfl (Or.inl rfl) (pe_cl cM hr (by decide) (pa_cons (pv 3) (pa_cons (C8.pe_mt0 mP hr (by decide) (pv 0)) pa_nil))))
      (pss_one (ps_ret (pe_op op_cat (pe_lst (pa_cons (pe_callB (kr_len (K := K)) rfl G.len PySem.boot_len (pa_cons (pv 4) pa_nil)) pa_nil)) (pe_lc (own := [("store", 5)]) (g := gName 5) rfl sc_ask_people_per_store.nd (pk_list (K := K) (pv 4)) (blkOk_by (N := ["instance", "given", "rows", "group", "stores", "store"]) (sc := defScope (top 66)) (by decide +kernel)) (fun _ _ _ _ _ => pg_name (i := 5) sc_ask_people_per_store.nd rfl (Or.inl rfl)) (fun _ _ _ _ _ => pts_nil) (fun _ _ _ _ _ => (pe_cl cP hr (by decide) (pa_cons (pv 2) (pa_cons (pk_fld (K := K) (pv 0)) (pa_cons (pv 3) (pa_cons (pv 5) pa_nil)))))))))))), ?_⟩
    obtain ⟨ia, ga, pa, m, args, rfl, hi, O, hg, hl, dn⟩ := h
    obtain rfl := l0 hl
    refine q_pairT (em_rows (ev_var rfl) hi O) (fun H1 e1 => ev_stores c (ev_var rfl) (hi.mono e1)) fun r H1 hr1 e1 hm => ?_
    have hi1 := hi.mono e1
    refine q_asgL (el_cv (ea2 (ev_var rfl) (ev_pc (ev_var rfl) hi1)) fun H2 e2 => ⟨m.g, m.n, rfl, O.hi, rfl⟩) fun q H2 hq e2 h2 => ?_
    have hi2 := hi1.mono e2
    have hl2 := mem_len m.n m.g
    have hi7 := O.hi
    refine s_retD (dn.mono (e1.trans e2)) (el_is (el_cat (el_l1 (ev_lenV (ev_var rfl) (sq_of h2))) (fun H3 e3 => el_lcN (l := Ns.mem m.n m.g) (fun _ => true) (fun s => iV (Ns.pos m.n m.d m.pe m.g s)) (ev_var rfl) (sq_of (e3 _ _ h2)) (by omega) (fun _ => rfl) (fun s hs H4 e4 => et_yes)
      fun s hs _ H4 e4 => ev_cv (ea4 (ev_var rfl) (ev_people c (ev_var rfl) (hi2.mono (e3.trans e4))) (ev_var rfl) (ev_var rfl)) fun H5 e5 => ⟨r, pa, m.n, m.d, m.pe, m.g, s, rfl, hm.mono (((e2.trans e3).trans e4).trans e5), (((e3.trans e4).trans e5) _ _ hi2.pe), O.hi, rfl⟩) ?_) ?_)
    · rw [filter_yes, List.length_map]
      show 1 + _ ≤ _
      omega
    · rw [filter_yes, List.map_cons, List.map_map]
      rfl
theorem sc_ask_centers : FnScope ["instance", "given", "rows", "group"] ["instance", "given"] (defScope (top 69)) := ⟨rfl, rfl, rfl, by decide +kernel, rfl, by decide +kernel, by decide +kernel⟩
theorem cal_ask_centers (d : Df K mg "ask_centers" (top 69)) {CI CH C : Addr} (G : Gb mg) (c : Ca K CI CH) (cZ : CalX P w K mg base 6 "want_size" (spWantSize CI C)) (mR : C8.Met P w K mg base 5 CI "rows" (spRows CI) []) (cM : Cal P w K mg base 2 "members" spMembers) (cB : Cal P w K mg base 5 "best_centers" spBestC) (cG : Cal P w K mg base 4 "greatest_distance" spGd) : CalX P w K mg base 7 "ask_centers" (spRead CI C 14) := by
  refine calX_of d sc_ask_centers (fun _ _ _ _ _ _ us hl => match us, hl with | [_, _], _ => rfl) (fun vs H Q E h => ?_) fun f cdv A outer s H vs Q E hr h => ?_
  · obtain ⟨ia, ga, pa, m, args, rfl, _⟩ := h
    rfl
  · refine ⟨_, (pss_cons (ps_expr (pe_clX cZ hr (by decide) (takes_of rfl rfl rfl rfl) (pa_cons (pv 0) (pa_cons pe_int (pa_cons (pe_ix (kr_ix (K := K)) (pv 1) pe_int (fun _ _ => rfl)) pa_nil)))))
      (pss_cons (ps_set (i := 2) sc_ask_centers.nd rfl (Or.inl rfl) (C8.pe_mt0 mR hr (by decide) (pv 0)))
      (pss_cons (ps_set (i := 3) sc_ask_centers.nd rfl (Or.inl rfl) (pe_cl cB hr (by decide) (pa_cons (pv 2) (pa_cons (pk_fld (K := K) (pv 0)) (pa_cons (pe_ix (kr_ix (K := K)) (pv 1) pe_int (fun _ _ => rfl)) pa_nil)))))
      (pss_one (ps_ret (pe_op op_cat (pe_lst (pa_cons (pe_cl cG hr (by decide) (pa_cons (pv 2) (pa_cons (pk_fld (K := K) (pv 0)) (pa_cons (pv 3) pa_nil)))) pa_nil)) (pe_cl cM hr (by decide) (pa_cons (pv 3) (pa_cons (pe_callB (kr_len (K := K)) rfl G.len PySem.boot_len (pa_cons (pv 2) pa_nil)) pa_nil))))))))), ?_⟩
    obtain ⟨ia, ga, pa, m, args, rfl, hi, O, hg, hl, dn⟩ := h
    obtain ⟨a, rfl⟩ := l1 hl
    refine q_sizeD hi O dn (ea3 (ev_var rfl) ev_c (ev_g0 (ev_var rfl) hg)) fun hlo hhi hc dn2 H1 e1 => ?_
    have hi1 := hi.mono e1
    refine q_asgM (em_rows (ev_var rfl) hi1 O) fun r H2 hr2 e2 hm => ?_
    have hi2 := hi1.mono e2
    refine q_asg (ev_cv (ea3 (ev_var rfl) (ev_people c (ev_var rfl) hi2) (ev_g0 (ev_var rfl) ((e1.trans e2) _ _ hg))) fun H3 e3 => ⟨r, pa, m.n, m.d, m.pe, a, rfl, hm.mono e3, e3 _ _ hi2.pe, O.hi, hhi, rfl⟩) fun H3 e3 => ?_
    have hi3 := hi2.mono e3
    refine s_retD (dn2.mono ((e1.trans e2).trans e3)) (el_is (el_cat (el_l1 (ev_cv (ea3 (ev_var rfl) (ev_people c (ev_var rfl) hi3) (ev_var rfl)) fun H4 e4 => ⟨r, pa, m.n, m.d, m.pe, _, rfl, hm.mono (e3.trans e4), e4 _ _ hi3.pe, O.hi, rfl⟩)) (fun H4 e4 => el_cv (ea2 (ev_var rfl) (ev_lenM (ev_var rfl) (hm.mono (e3.trans e4)))) fun H5 e5 => ⟨_, m.n, rfl, O.hi, rfl⟩) (cat_short O.hi)) ?_)
    rw [List.map_cons, toI_V]
    rfl
theorem sc_ask_medians : FnScope ["instance", "given", "rows", "group"] ["instance", "given"] (defScope (top 70)) := ⟨rfl, rfl, rfl, by decide +kernel, rfl, by decide +kernel, by decide +kernel⟩
theorem cal_ask_medians (d : Df K mg "ask_medians" (top 70)) {CI CH C : Addr} (G : Gb mg) (c : Ca K CI CH) (cZ : CalX P w K mg base 6 "want_size" (spWantSize CI C)) (mR : C8.Met P w K mg base 5 CI "rows" (spRows CI) []) (cM : Cal P w K mg base 2 "members" spMembers) (cB : Cal P w K mg base 5 "best_medians" spBestM) (cT : Cal P w K mg base 4 "total_distance" spTd) : CalX P w K mg base 7 "ask_medians" (spRead CI C 15) := by
  refine calX_of d sc_ask_medians (fun _ _ _ _ _ _ us hl => match us, hl with | [_, _], _ => rfl) (fun vs H Q E h => ?_) fun f cdv A outer s H vs Q E hr h => ?_
  · obtain ⟨ia, ga, pa, m, args, rfl, _⟩ := h
    rfl
  · refine ⟨_, (pss_cons (ps_expr (pe_clX cZ hr (by decide) (takes_of rfl rfl rfl rfl) (pa_cons (pv 0) (pa_cons pe_int (pa_cons (pe_ix (kr_ix (K := K)) (pv 1) pe_int (fun _ _ => rfl)) pa_nil)))))
      (pss_cons (ps_set (i := 2) sc_ask_medians.nd rfl (Or.inl rfl) (C8.pe_mt0 mR hr (by decide) (pv 0)))
      (pss_cons (ps_set (i := 3) sc_ask_medians.nd rfl (Or.inl rfl) (pe_cl cB hr (by decide) (pa_cons (pv 2) (pa_cons (pk_fld (K := K) (pv 0)) (pa_cons (pe_ix (kr_ix (K := K)) (pv 1) pe_int (fun _ _ => rfl)) pa_nil)))))
      (pss_one (ps_ret (pe_op op_cat (pe_lst (pa_cons (pe_cl cT hr (by decide) (pa_cons (pv 2) (pa_cons (pk_fld (K := K) (pv 0)) (pa_cons (pv 3) pa_nil)))) pa_nil)) (pe_cl cM hr (by decide) (pa_cons (pv 3) (pa_cons (pe_callB (kr_len (K := K)) rfl G.len PySem.boot_len (pa_cons (pv 2) pa_nil)) pa_nil))))))))), ?_⟩
    obtain ⟨ia, ga, pa, m, args, rfl, hi, O, hg, hl, dn⟩ := h
    obtain ⟨a, rfl⟩ := l1 hl
    refine q_sizeD hi O dn (ea3 (ev_var rfl) ev_c (ev_g0 (ev_var rfl) hg)) fun hlo hhi hc dn2 H1 e1 => ?_
    have hi1 := hi.mono e1
    refine q_asgM (em_rows (ev_var rfl) hi1 O) fun r H2 hr2 e2 hm => ?_
    have hi2 := hi1.mono e2
    refine q_asg (ev_cv (ea3 (ev_var rfl) (ev_people c (ev_var rfl) hi2) (ev_g0 (ev_var rfl) ((e1.trans e2) _ _ hg))) fun H3 e3 => ⟨r, pa, m.n, m.d, m.pe, a, rfl, hm.mono e3, e3 _ _ hi2.pe, O.hi, hhi, O.pe, rfl⟩) fun H3 e3 => ?_
    have hi3 := hi2.mono e3
    refine s_retD (dn2.mono ((e1.trans e2).trans e3)) (el_is (el_cat (el_l1 (ev_cv (ea3 (ev_var rfl) (ev_people c (ev_var rfl) hi3) (ev_var rfl)) fun H4 e4 => ⟨r, pa, m.n, m.d, m.pe, _, rfl, hm.mono (e3.trans e4), e4 _ _ hi3.pe, O.hi, O.pe, rfl⟩)) (fun H4 e4 => el_cv (ea2 (ev_var rfl) (ev_lenM (ev_var rfl) (hm.mono (e3.trans e4)))) fun H5 e5 => ⟨_, m.n, rfl, O.hi, rfl⟩) (cat_short O.hi)) ?_)
    rw [List.map_cons, toI_V]
    rfl
theorem sc_ask_robust_centers : FnScope ["instance", "given", "rows", "group"] ["instance", "given"] (defScope (top 71)) := ⟨rfl, rfl, rfl, by decide +kernel, rfl, by decide +kernel, by decide +kernel⟩
theorem cal_ask_robust_centers (d : Df K mg "ask_robust_centers" (top 71)) {CI CH C : Addr} (G : Gb mg) (c : Ca K CI CH) (cZ : CalX P w K mg base 6 "want_size" (spWantSize CI C)) (mR : C8.Met P w K mg base 5 CI "rows" (spRows CI) []) (cM : Cal P w K mg base 2 "members" spMembers) (cB : Cal P w K mg base 6 "best_robust_centers" spBestR) (cL : Cal P w K mg base 5 "distance_after_loss" spLoss) : CalX P w K mg base 7 "ask_robust_centers" (spRead CI C 16) := by
  refine calX_of d sc_ask_robust_centers (fun _ _ _ _ _ _ us hl => match us, hl with | [_, _], _ => rfl) (fun vs H Q E h => ?_) fun f cdv A outer s H vs Q E hr h => ?_
  · obtain ⟨ia, ga, pa, m, args, rfl, _⟩ := h
    rfl
  · refine ⟨_, (pss_cons (ps_expr (pe_clX cZ hr (by decide) (takes_of rfl rfl rfl rfl) (pa_cons (pv 0) (pa_cons pe_int (pa_cons (pe_ix (kr_ix (K := K)) (pv 1) pe_int (fun _ _ => rfl)) pa_nil)))))
      (pss_cons (ps_set (i := 2) sc_ask_robust_centers.nd rfl (Or.inl rfl) (C8.pe_mt0 mR hr (by decide) (pv 0)))
      (pss_cons (ps_set (i := 3) sc_ask_robust_centers.nd rfl (Or.inl rfl) (pe_cl cB hr (by decide) (pa_cons (pv 2) (pa_cons (pk_fld (K := K) (pv 0)) (pa_cons (pe_ix (kr_ix (K := K)) (pv 1) pe_int (fun _ _ => rfl)) pa_nil)))))
      (pss_one (ps_ret (pe_op op_cat (pe_lst (pa_cons (pe_cl cL hr (by decide) (pa_cons (pv 2) (pa_cons (pk_fld (K := K) (pv 0)) (pa_cons (pv 3) pa_nil)))) pa_nil)) (pe_cl cM hr (by decide) (pa_cons (pv 3) (pa_cons (pe_callB (kr_len (K := K)) rfl G.len PySem.boot_len (pa_cons (pv 2) pa_nil)) pa_nil))))))))), ?_⟩
    obtain ⟨ia, ga, pa, m, args, rfl, hi, O, hg, hl, dn⟩ := h
    obtain ⟨a, rfl⟩ := l1 hl
    refine q_sizeD hi O dn (ea3 (ev_var rfl) ev_c (ev_g0 (ev_var rfl) hg)) fun hlo hhi hc dn2 H1 e1 => ?_
    have hi1 := hi.mono e1
    refine q_asgM (em_rows (ev_var rfl) hi1 O) fun r H2 hr2 e2 hm => ?_
    have hi2 := hi1.mono e2
    refine q_asg (ev_cv (ea3 (ev_var rfl) (ev_people c (ev_var rfl) hi2) (ev_g0 (ev_var rfl) ((e1.trans e2) _ _ hg))) fun H3 e3 => ⟨r, pa, m.n, m.d, m.pe, a, rfl, hm.mono e3, e3 _ _ hi2.pe, O.hi, hhi, hlo, rfl⟩) fun H3 e3 => ?_
    have hi3 := hi2.mono e3
    have hne : Ns.mem m.n (Ns.rOf m a) ≠ [] := Ns.ne_of_len (Ns.groups_in O.hi hhi (Ns.loss m.n m.d m.pe)) (by omega)
    refine s_retD (dn2.mono ((e1.trans e2).trans e3)) (el_is (el_cat (el_l1 (ev_cv (ea3 (ev_var rfl) (ev_people c (ev_var rfl) hi3) (ev_var rfl)) fun H4 e4 => ⟨r, pa, m.n, m.d, m.pe, _, rfl, hm.mono (e3.trans e4), e4 _ _ hi3.pe, O.hi, hne, rfl⟩)) (fun H4 e4 => el_cv (ea2 (ev_var rfl) (ev_lenM (ev_var rfl) (hm.mono (e3.trans e4)))) fun H5 e5 => ⟨_, m.n, rfl, O.hi, rfl⟩) (cat_short O.hi)) ?_)
    rw [List.map_cons, toI_V]
    rfl
theorem sc_ask_farthest_first : FnScope ["instance", "given", "rows", "group"] ["instance", "given"] (defScope (top 73)) := ⟨rfl, rfl, rfl, by decide +kernel, rfl, by decide +kernel, by decide +kernel⟩
theorem cal_ask_farthest_first (d : Df K mg "ask_farthest_first" (top 73)) {CI CH C : Addr} (G : Gb mg) (c : Ca K CI CH) (cZ : CalX P w K mg base 6 "want_size" (spWantSize CI C)) (mR : C8.Met P w K mg base 5 CI "rows" (spRows CI) []) (cM : Cal P w K mg base 2 "members" spMembers) (cB : Cal P w K mg base 5 "farthest_first" spFf) (cG : Cal P w K mg base 4 "greatest_distance" spGd) : CalX P w K mg base 7 "ask_farthest_first" (spRead CI C 18) := by
  refine calX_of d sc_ask_farthest_first (fun _ _ _ _ _ _ us hl => match us, hl with | [_, _], _ => rfl) (fun vs H Q E h => ?_) fun f cdv A outer s H vs Q E hr h => ?_
  · obtain ⟨ia, ga, pa, m, args, rfl, _⟩ := h
    rfl
  · refine ⟨_, (pss_cons (ps_expr (pe_clX cZ hr (by decide) (takes_of rfl rfl rfl rfl) (pa_cons (pv 0) (pa_cons pe_int (pa_cons (pe_ix (kr_ix (K := K)) (pv 1) pe_int (fun _ _ => rfl)) pa_nil)))))
      (pss_cons (ps_set (i := 2) sc_ask_farthest_first.nd rfl (Or.inl rfl) (C8.pe_mt0 mR hr (by decide) (pv 0)))
      (pss_cons (ps_set (i := 3) sc_ask_farthest_first.nd rfl (Or.inl rfl) (pe_cl cB hr (by decide) (pa_cons (pv 2) (pa_cons (pk_fld (K := K) (pv 0)) (pa_cons (pe_ix (kr_ix (K := K)) (pv 1) pe_int (fun _ _ => rfl)) pa_nil)))))
      (pss_one (ps_ret (pe_op op_cat (pe_lst (pa_cons (pe_cl cG hr (by decide) (pa_cons (pv 2) (pa_cons (pk_fld (K := K) (pv 0)) (pa_cons (pv 3) pa_nil)))) pa_nil)) (pe_cl cM hr (by decide) (pa_cons (pv 3) (pa_cons (pe_callB (kr_len (K := K)) rfl G.len PySem.boot_len (pa_cons (pv 2) pa_nil)) pa_nil))))))))), ?_⟩
    obtain ⟨ia, ga, pa, m, args, rfl, hi, O, hg, hl, dn⟩ := h
    obtain ⟨a, rfl⟩ := l1 hl
    refine q_sizeD hi O dn (ea3 (ev_var rfl) ev_c (ev_g0 (ev_var rfl) hg)) fun hlo hhi hc dn2 H1 e1 => ?_
    have hi1 := hi.mono e1
    refine q_asgM (em_rows (ev_var rfl) hi1 O) fun r H2 hr2 e2 hm => ?_
    have hi2 := hi1.mono e2
    refine q_asg (ev_cv (ea3 (ev_var rfl) (ev_people c (ev_var rfl) hi2) (ev_g0 (ev_var rfl) ((e1.trans e2) _ _ hg))) fun H3 e3 => ⟨r, pa, m.n, m.d, m.pe, a, rfl, hm.mono e3, e3 _ _ hi2.pe, O.hi, rfl⟩) fun H3 e3 => ?_
    have hi3 := hi2.mono e3
    refine s_retD (dn2.mono ((e1.trans e2).trans e3)) (el_is (el_cat (el_l1 (ev_cv (ea3 (ev_var rfl) (ev_people c (ev_var rfl) hi3) (ev_var rfl)) fun H4 e4 => ⟨r, pa, m.n, m.d, m.pe, _, rfl, hm.mono (e3.trans e4), e4 _ _ hi3.pe, O.hi, rfl⟩)) (fun H4 e4 => el_cv (ea2 (ev_var rfl) (ev_lenM (ev_var rfl) (hm.mono (e3.trans e4)))) fun H5 e5 => ⟨_, m.n, rfl, O.hi, rfl⟩) (cat_short O.hi)) ?_)
    rw [List.map_cons, toI_V]
    rfl
theorem sc_ask_cover : FnScope ["instance", "given", "group", "places"] ["instance", "given"] (defScope (top 72)) := ⟨rfl, rfl, rfl, by decide +kernel, rfl, by decide +kernel, by decide +kernel⟩
theorem cal_ask_cover (d : Df K mg "ask_cover" (top 72)) {CI CH C : Addr} (G : Gb mg) (c : Ca K CI CH) (mR : C8.Met P w K mg base 5 CI "rows" (spRows CI) []) (mP : C8.Met P w K mg base 1 CI "place_count" (spPc CI) []) (cM : Cal P w K mg base 2 "members" spMembers) (cB : Cal P w K mg base 6 "smallest_cover" spSmall) : CalX P w K mg base 7 "ask_cover" (spRead CI C 17) := by
  refine calX_of d sc_ask_cover (fun _ _ _ _ _ _ us hl => match us, hl with | [_, _], _ => rfl) (fun vs H Q E h => ?_) fun f cdv A outer s H vs Q E hr h => ?_
  · obtain ⟨ia, ga, pa, m, args, rfl, _⟩ := h
    rfl
  · refine ⟨_, (pss_cons (ps_set (i := 2) sc_ask_cover.nd rfl (Or.inl rfl) (pe_cl cB hr (by decide) (pa_cons (C8.pe_mt0 mR hr (by decide) (pv 0)) (pa_cons (pk_fld (K := K) (pv 0)) (pa_cons (pe_ix (kr_ix (K := K)) (pv 1) pe_int (fun _ _ => rfl)) pa_nil)))))
      (pss_cons (ps_set (i := 3) sc_ask_cover.nd rfl (Or.inl rfl) (pe_cl cM hr (by decide) (pa_cons (pv 2) (pa_cons (C8.pe_mt0 mP hr (by decide) (pv 0)) pa_nil))))
      (pss_one (ps_ret (pe_op op_cat (pe_lst (pa_cons (pe_callB (kr_len (K := K)) rfl G.len PySem.boot_len (pa_cons (pv 3) pa_nil)) pa_nil)) (pv 3)))))), ?_⟩
    obtain ⟨ia, ga, pa, m, args, rfl, hi, O, hg, hl, dn⟩ := h
    obtain ⟨a, rfl⟩ := l1 hl
    refine q_asg (ev_cvP (ap_M (em_rows (ev_var rfl) hi O) fun H1 e1 => ea2 (ev_people c (ev_var rfl) (hi.mono e1)) (ev_g0 (ev_var rfl) (e1 _ _ hg))) fun vs H1 e1 ⟨p, hv, hm⟩ => ⟨p, pa, m.n, m.d, m.pe, a, hv, hm, e1 _ _ hi.pe, O.hi, rfl⟩) fun H1 e1 => ?_
    have hi1 := hi.mono e1
    refine q_asgL (el_cv (ea2 (ev_var rfl) (ev_pc (ev_var rfl) hi1)) fun H2 e2 => ⟨_, m.n, rfl, O.hi, rfl⟩) fun q H2 hq e2 h2 => ?_
    exact s_retD (dn.mono (e1.trans e2)) (el_is (el_catV (el_l1 (ev_lenV (ev_var rfl) (sq_of h2))) (fun H3 e3 => ev_var rfl) h2 (cat_short O.hi)) (listed_V _).symm)
theorem sc_ask_additional : FnScope ["instance", "given", "rows", "group", "place"] ["instance", "given"] (defScope (top 79)) := ⟨rfl, rfl, rfl, by decide +kernel, rfl, by decide +kernel, by decide +kernel⟩
theorem cal_ask_additional (d : Df K mg "ask_additional" (top 79)) {CI CH C : Addr} (G : Gb mg) (c : Ca K CI CH) (cW : CalX P w K mg base 3 "want" (spWant C)) (mR : C8.Met P w K mg base 5 CI "rows" (spRows CI) []) (cM : Cal P w K mg base 2 "members" spMembers) (cI : Cal P w K mg base 1 "with_place" spWith) (cG : Cal P w K mg base 4 "greatest_distance" spGd) (cB : Cal P w K mg base 5 "best_additional_store" spAddl) (cE : Cal P w K mg base 1 "told" spTold) : CalX P w K mg base 7 "ask_additional" (spRead CI C 23) := by
  refine calX_of d sc_ask_additional (fun _ _ _ _ _ _ us hl => match us, hl with | [_, _], _ => rfl) (fun vs H Q E h => ?_) fun f cdv A outer s H vs Q E hr h => ?_
  · obtain ⟨ia, ga, pa, m, args, rfl, _⟩ := h
    rfl
  · refine ⟨_, (pss_cons (ps_par (i := 2) (j := 3) rfl sc_ask_additional.nd rfl rfl (by decide) rfl rfl (pa_cons (C8.pe_mt0 mR hr (by decide) (pv 0)) (pa_cons (pk_fld (K := K) (pv 0)) pa_nil)) (by rfl))
      (pss_cons (ps_expr (pe_clX cW hr (by decide) (takes_of rfl rfl rfl rfl) (pa_cons (pe_cmpR op_lt (pe_callB (kr_len (K := K)) rfl G.len PySem.boot_len (pa_cons (pe_cl cM hr (by decide) (pa_cons (pv 3) (pa_cons (pe_callB (kr_len (K := K)) rfl G.len PySem.boot_len (pa_cons (pv 2) pa_nil)) pa_nil))) pa_nil)) (pe_callB (kr_len (K := K)) rfl G.len PySem.boot_len (pa_cons (pv 2) pa_nil)) (nomark _)) (pa_cons (pe_g G.noPlaceLeft) pa_nil))))
      (pss_cons (ps_set (i := 4) sc_ask_additional.nd rfl (Or.inl rfl) (pe_cl cB hr (by decide) (pa_cons (pv 2) (pa_cons (pk_fld (K := K) (pv 0)) (pa_cons (pv 3) pa_nil)))))
      (pss_one (ps_ret (pe_lst (pa_cons (pv 4) (pa_cons (pe_cl cE hr (by decide) (pa_cons (pe_cl cG hr (by decide) (pa_cons (pv 2) (pa_cons (pk_fld (K := K) (pv 0)) (pa_cons (pe_cl cI hr (by decide) (pa_cons (pv 3) (pa_cons (pv 4) pa_nil))) pa_nil)))) pa_nil)) pa_nil)))))))), ?_⟩
    obtain ⟨ia, ga, pa, m, args, rfl, hi, O, hg, hl, dn⟩ := h
    obtain rfl := l0 hl
    refine q_pairP (em_rows (ev_var rfl) hi O) (fun H1 e1 => ev_stores c (ev_var rfl) (hi.mono e1)) fun r H1 hr1 e1 hm => ?_
    have hi1 := hi.mono e1
    refine q_wD (c := (Ns.mem m.n m.g).length < m.n) (dn.mono e1) (ev_is (ev_op (ev_lenNV (el_cv (ea2 (ev_var rfl) (ev_lenM (ev_var rfl) hm)) fun H2 e2 => ⟨m.g, m.n, rfl, O.hi, rfl⟩)) (ev_lenM (ev_var rfl) hm) rv_I0) (congrArg V.bl (decide_eq_decide.mpr (by omega)))) ev_c fun hc dn2 H2 e2 => ?_
    have hi2 := hi1.mono e2
    have hol := Ns.outs_len m.n m.g
    have hne : Ns.outs (List.range m.n) m.g ≠ [] := fun z => by
      rw [z] at hol
      have : (Ns.mem m.n m.g).length + 0 = m.n := hol
      omega
    have hin : Ns.addl m.n m.d m.pe m.g ∈ Ns.outs (List.range m.n) m.g := Ns.fwl_mem (fun p => (Ns.gd m.n m.d m.pe (m.g ||| 1 <<< p) : Int)) hne
    have hlt := List.mem_range.mp (List.mem_filter.mp hin).1
    have h7 := O.hi
    refine q_asg (ev_cv (ea3 (ev_var rfl) (ev_people c (ev_var rfl) hi2) (ev_var rfl)) fun H3 e3 => ⟨r, pa, m.n, m.d, m.pe, m.g, rfl, hm.mono (e2.trans e3), e3 _ _ hi2.pe, O.hi, hne, rfl⟩) fun H3 e3 => ?_
    have hi3 := hi2.mono e3
    exact s_retD (dn2.mono (e2.trans e3)) (el_lst (ea2 (ev_var rfl) (ev_cv (ea1 (ev_cv (ea3 (ev_var rfl) (ev_people c (ev_var rfl) hi3) (ev_cv (ea2 (ev_var rfl) (ev_var rfl)) fun H4 e4 => ⟨m.g, _, rfl, by omega, rfl⟩)) fun H4 e4 => ⟨r, pa, m.n, m.d, m.pe, _, rfl, hm.mono ((e2.trans e3).trans e4), e4 _ _ hi3.pe, O.hi, rfl⟩)) fun H4 e4 => ⟨_, rfl, rfl⟩)) (by show 2 ≤ 100000; decide))
theorem sc_ask_with_road : FnScope ["instance", "given", "a", "b", "time", "rows"] ["instance", "given"] (defScope (top 80)) := ⟨rfl, rfl, rfl, by decide +kernel, rfl, by decide +kernel, by decide +kernel⟩
theorem cal_ask_with_road (d : Df K mg "ask_with_road" (top 80)) {CI CH C : Addr} (G : Gb mg) (c : Ca K CI CH) (cR : CalX P w K mg base 4 "want_road" (spWantRoad CI C)) (cD : CalX P w K mg base 4 "defined" (spDefined C)) (cJ : Cal P w K mg base 1 "times_with" spTimesWith) (cQ : Cal P w K mg base 4 "distance_rows" spDistRows) (cG : Cal P w K mg base 4 "greatest_distance" spGd) : CalX P w K mg base 7 "ask_with_road" (spRead CI C 24) := by
  refine calX_of d sc_ask_with_road (fun _ _ _ _ _ _ us hl => match us, hl with | [_, _], _ => rfl) (fun vs H Q E h => ?_) fun f cdv A outer s H vs Q E hr h => ?_
  · obtain ⟨ia, ga, pa, m, args, rfl, _⟩ := h
    rfl
  · refine ⟨_, (pss_cons (ps_asg (pv 1) (pg_lst rfl (pgs_cons (pg_name (i := 2) sc_ask_with_road.nd rfl (Or.inl rfl)) (pgs_cons (pg_name (i := 3) sc_ask_with_road.nd rfl (Or.inl rfl)) (pgs_cons (pg_name (i := 4) sc_ask_with_road.nd rfl (Or.inl rfl)) pgs_nil)))))
      (pss_cons (ps_expr (pe_clX cR hr (by decide) (takes_of rfl rfl rfl rfl) (pa_cons (pv 0) (pa_cons (pv 2) (pa_cons (pv 3) (pa_cons (pv 4) pa_nil))))))
      (pss_cons (ps_set (i := 5) sc_ask_with_road.nd rfl (Or.inl rfl) (pe_cl cQ hr (by decide) (pa_cons (pe_cl cJ hr (by decide) (pa_cons (pk_fld (K := K) (pv 0)) (pa_cons (pv 2) (pa_cons (pv 3) (pa_cons (pv 4) pa_nil))))) pa_nil)))
      (pss_one (ps_ret (pe_clX cD hr (by decide) (takes_of rfl rfl rfl rfl) (pa_cons (pe_cl cG hr (by decide) (pa_cons (pv 5) (pa_cons (pk_fld (K := K) (pv 0)) (pa_cons (pk_fld (K := K) (pv 0)) pa_nil)))) pa_nil))))))), ?_⟩
    obtain ⟨ia, ga, pa, m, args, rfl, hi, O, hg, hl, dn⟩ := h
    obtain ⟨a, b, v, rfl⟩ := l3 hl
    refine q_un3 (ev_var rfl) hg fun H1 e1 => ?_
    have hi1 := hi.mono e1
    refine q_roadD hi1 (dn.mono e1) (ea4 (ev_var rfl) (ev_var rfl) (ev_var rfl) (ev_var rfl)) fun ha hb hab hv dn2 H2 e2 => ?_
    have hi2 := hi1.mono e2
    obtain ⟨dx, ta, k1, k2⟩ := hi2.ex
    refine q_asgM (n := m.n) (d := Ns.distK (Ns.setM m.t a b v) m.n) (em_cvP (ap_M (emf_cv (ea4 (ev_fld (ev_var rfl) k1 c.ci c.nt (lk_times _ _ _)) (ev_var rfl) (ev_var rfl) (ev_var rfl)) fun H3 e3 => ⟨ta, m.t, a, b, v, rfl, k2.mono e3, O.hi, ha, hb, hab, rfl⟩).mx fun H3 e3 => ea_nil)
      fun vs H3 e3 ⟨p, hv, hm⟩ => ⟨p, Ns.setM m.t a b v, hv, hm, O.hi, rfl⟩) fun r H3 hr3 e3 hm => ?_
    have hi3 := hi2.mono e3
    exact s_defD (dn2.mono (e2.trans e3)) (ev_cv (ea3 (ev_var rfl) (ev_people c (ev_var rfl) hi3) (ev_stores c (ev_var rfl) hi3)) fun H4 e4 => ⟨r, pa, m.n, _, m.pe, m.g, rfl, hm.mono e4, e4 _ _ hi3.pe, O.hi, rfl⟩)
theorem sc_ask_within : FnScope ["instance", "given", "places"] ["instance", "given"] (defScope (top 81)) := ⟨rfl, rfl, rfl, by decide +kernel, rfl, by decide +kernel, by decide +kernel⟩
theorem cal_ask_within (d : Df K mg "ask_within" (top 81)) {CI CH C : Addr} (G : Gb mg) (c : Ca K CI CH) (mR : C8.Met P w K mg base 5 CI "rows" (spRows CI) []) (cY : Cal P w K mg base 4 "places_within" spWithin) : CalX P w K mg base 7 "ask_within" (spRead CI C 25) := by
  refine calX_of d sc_ask_within (fun _ _ _ _ _ _ us hl => match us, hl with | [_, _], _ => rfl) (fun vs H Q E h => ?_) fun f cdv A outer s H vs Q E hr h => ?_
  · obtain ⟨ia, ga, pa, m, args, rfl, _⟩ := h
    rfl
  · refine ⟨_, (pss_cons (ps_set (i := 2) sc_ask_within.nd rfl (Or.inl rfl) (pe_cl cY hr (by decide) (pa_cons (C8.pe_mt0 mR hr (by decide) (pv 0)) (pa_cons (pk_fld (K := K) (pv 0)) (pa_cons (pe_ix (kr_ix (K := K)) (pv 1) pe_int (fun _ _ => rfl)) pa_nil)))))
      (pss_one (ps_ret (pe_op op_cat (pe_lst (pa_cons (pe_callB (kr_len (K := K)) rfl G.len PySem.boot_len (pa_cons (pv 2) pa_nil)) pa_nil)) (pv 2))))), ?_⟩
    obtain ⟨ia, ga, pa, m, args, rfl, hi, O, hg, hl, dn⟩ := h
    obtain ⟨a, rfl⟩ := l1 hl
    refine q_asgL (el_cvP (ap_M (em_rows (ev_var rfl) hi O) fun H1 e1 => ea2 (ev_stores c (ev_var rfl) (hi.mono e1)) (ev_g0 (ev_var rfl) (e1 _ _ hg))) fun vs H1 e1 ⟨p, hv, hm⟩ => ⟨p, m.n, m.d, m.g, a, hv, hm, O.hi, rfl⟩) fun q H1 hq e1 h1 => ?_
    have hw : (Ns.within m.n m.d m.g a).length ≤ m.n := by
      have := List.length_filter_le (fun p => decide (Ns.sd m.n m.d m.g p ≤ min a 999)) (List.range m.n)
      rw [List.length_range] at this
      exact this
    have h7 := O.hi
    refine s_retD (dn.mono e1) (el_is (el_catV (el_l1 (ev_lenV (ev_var rfl) (sq_of h1))) (fun H3 e3 => ev_var rfl) h1 ?_) (listed_V _).symm)
    rw [List.length_map]
    show 1 + _ ≤ _
    omega
theorem sc_ask_summary : FnScope ["instance", "given"] ["instance", "given"] (defScope (top 82)) := ⟨rfl, rfl, rfl, by decide +kernel, rfl, by decide +kernel, by decide +kernel⟩
theorem cal_ask_summary (d : Df K mg "ask_summary" (top 82)) {CI CH C : Addr} (G : Gb mg) (c : Ca K CI CH) (mP : C8.Met P w K mg base 1 CI "place_count" (spPc CI) []) (cU : Cal P w K mg base 1 "road_count" spRoads) : CalX P w K mg base 7 "ask_summary" (spRead CI C 26) := by
  refine calX_of d sc_ask_summary (fun _ _ _ _ _ _ us hl => match us, hl with | [_, _], _ => rfl) (fun vs H Q E h => ?_) fun f cdv A outer s H vs Q E hr h => ?_
  · obtain ⟨ia, ga, pa, m, args, rfl, _⟩ := h
    rfl
  · refine ⟨_, (pss_one (ps_ret (pe_lst (pa_cons (C8.pe_mt0 mP hr (by decide) (pv 0)) (pa_cons (pe_callB (kr_sum (K := K)) rfl G.sum boot_sum (pa_cons (pk_fld (K := K) (pv 0)) pa_nil)) (pa_cons (pe_cl cU hr (by decide) (pa_cons (pk_fld (K := K) (pv 0)) pa_nil)) (pa_cons (pk_fld (K := K) (pv 0)) pa_nil))))))), ?_⟩
    obtain ⟨ia, ga, pa, m, args, rfl, hi, O, hg, hl, dn⟩ := h
    obtain rfl := l0 hl
    obtain ⟨dx, ta, k1, k2⟩ := hi.ex
    exact s_retD dn (el_lst (ea4 (ev_pc (ev_var rfl) hi) (ev_sum (l := (List.range m.n).map m.pe) (ev_people c (ev_var rfl) hi) (sq_of (by rw [hi.pe, rV_nV]))) (ev_cv (ea1 (ev_fld (ev_var rfl) k1 c.ci c.nt (lk_times _ _ _))) fun H1 e1 => ⟨ta, m.n, m.t, rfl, k2.mono e1, O.hi, rfl⟩) (ev_stores c (ev_var rfl) hi)) (by show 4 ≤ 100000; decide))
end
end Nw

/-! ### 3o. The walk: operations that change the instance -/
namespace Nw
open PySem PySem.Spec PyProof.Rows L2 Evl
open Ns (Vec Mat M Res)
section
variable {P : Program} {w : World} {K : PySem.W.Frag} {mg : Str → Option Value} {base : Heap}
/-- all but the instance -/
def K1 (ia : Addr) (H H' : Hp) : Prop := ∀ b o, H b = some o → b ≠ ia → H' b = some o
theorem K1.of {ia : Addr} {H H' : Hp} (e : Ex H H') : K1 ia H H' := fun b o h _ => e b o h
theorem K1.trans {ia : Addr} {H H1 H2 : Hp} (a : K1 ia H H1) (b : K1 ia H1 H2) : K1 ia H H2 := fun c o h n => b c o (a c o h n) n
theorem K1.kp {ia pa : Addr} {H H' : Hp} (a : K1 ia H H') : Kp ia pa H H' := fun b o h n _ => a b o h n
theorem InsAt.ne {H : Hp} {CI ia pa : Addr} {m : M} (h : InsAt H CI ia m pa) {b : Addr} {xs : List V} (hb : H b = some (.lst xs)) : b ≠ ia := fun z => by
  obtain ⟨dx, ta, as, h1, _⟩ := h.full
  rw [z, h1] at hb
  cases hb
theorem InsAt.put {H H' : Hp} {CI ia pa dx ta : Addr} {m m' : M} {as : Nat → Addr} (k : K1 ia H H') (h1 : H' ia = some (.ins CI dx (insF pa ta m'.g))) (h2 : H ta = some (.lst ((List.range m.n).map fun i => V.ref (as i)))) (h3 : ta ≠ pa) (h4 : ∀ i, i < m.n → H (as i) = some (.lst (rV m.n (m'.t i))) ∧ as i ≠ pa)
    (h5 : H pa = some (.lst (rV m.n m'.pe))) (o : ∃ dx fs, H ia = some (.ins CI dx fs)) (hn : m'.n = m.n) : InsAt H' CI ia m' pa := by
  obtain ⟨dx0, fs0, ho⟩ := o
  have nl : ∀ {b : Addr} {xs : List V}, H b = some (.lst xs) → b ≠ ia := fun {b xs} hb z => by rw [z, ho] at hb; cases hb
  refine ⟨⟨dx, ta, as, h1, ?_, h3, fun i hi => ?_⟩, ?_⟩
  · rw [hn]; exact k _ _ h2 (nl h2)
  · rw [hn] at hi ⊢
    exact ⟨k _ _ (h4 i hi).1 (nl (h4 i hi).1), (h4 i hi).2⟩
  · rw [hn]; exact k _ _ h5 (nl h5)
section
variable {σ : L2.St} {H H' : Hp} {ta tb tc te tv tp : TE} {tr : TA} {D : Ends} {tz tu : TS} {C CI CH : Addr} {E : XK} {vs : List V} {Q : VK} {ia pa ga : Addr} {m : M} {r : Res} {i j : Nat} {args : List Nat}
theorem q_stores {g' : Nat} (c : Ca K CI CH) (hi : InsAt H CI ia m pa) (h : Ev tv σ H (iV g')) (ha : Ev ta σ H (.ref ia)) (k : ∀ H1, K1 ia H H1 → InsAt H1 CI ia { m with g := g' } pa → (∀ b, Own H1 ia b → Own H ia b) → tz D σ H1) : tSeq (sFld K ta tv "stores") tz D σ H := by
  obtain ⟨dx, t, as, h1, h2, h3, h4⟩ := hi.full
  refine q_fld h ha h1 c.ci c.ns (by show 3 < 1000; decide) fun H1 e1 => ?_
  have kk : K1 ia H (upd H1 ia (.ins CI dx (putF ("stores" : Str) (iV g') (insF pa t m.g)))) := fun b o hb hn => by
    rw [upd_ne hn]
    exact e1 _ _ hb
  exact k _ kk (InsAt.put (m := m) (m' := { m with g := g' }) kk upd_same h2 h3 h4 hi.pe ⟨_, _, h1⟩ rfl) fun b o => own_to h1 h2 (own_is (H := upd H1 ia (.ins CI dx (insF pa t g'))) upd_same (kk _ _ h2 (hi.ne h2)) o)
theorem s_stores {g' : Nat} (c : Ca K CI CH) (hi : InsAt H CI ia m pa) (h : Ev tv σ H (iV g')) (ha : Ev ta σ H (.ref ia)) (k : ∀ H1, K1 ia H H1 → InsAt H1 CI ia { m with g := g' } pa → (∀ b, Own H1 ia b → Own H ia b) → D.nx σ H1) : sFld K ta tv "stores" D σ H := by
  obtain ⟨dx, t, as, h1, h2, h3, h4⟩ := hi.full
  refine s_fld h ha h1 c.ci c.ns (by show 3 < 1000; decide) fun H1 e1 => ?_
  have kk : K1 ia H (upd H1 ia (.ins CI dx (putF ("stores" : Str) (iV g') (insF pa t m.g)))) := fun b o hb hn => by
    rw [upd_ne hn]
    exact e1 _ _ hb
  exact k _ kk (InsAt.put (m := m) (m' := { m with g := g' }) kk upd_same h2 h3 h4 hi.pe ⟨_, _, h1⟩ rfl) fun b o => own_to h1 h2 (own_is (H := upd H1 ia (.ins CI dx (insF pa t g'))) upd_same (kk _ _ h2 (hi.ne h2)) o)
/-- answer = ask_..(instance, given) -/
theorem q_asgRd (hi : InsAt H CI ia m pa) (O : Ns.Ok m) (hg : H ga = some (.lst (nV args))) (hl : args.length = Ns.arity.getD i 0) (h : EvA tr σ H [.ref ia, .ref ga]) (kE : ∀ c, Ns.deed i m args = .error c → Rz C E H c)
    (kO : ∀ m' out, Ns.deed i m args = .ok (m', out) → ∀ p H1, H p = none → Ex H H1 → H1 p = some (.lst (out.map V.int)) → tz D (σ.set j (some (.ref p))) H1) : tSeq (tAsg (tCall (spRead CI C i) [] E tr) (gName j)) tz D σ H :=
  h H (Ex.refl H) _ fun H1 e1 => ⟨ia, ga, pa, m, args, rfl, hi.mono e1, O, e1 _ _ hg, hl, fun c e => (kE c e).mono e1, fun m' out e p H2 hp e2 h2 => kO m' out e p H2 (fresh_back e1 hp) (e1.trans e2) h2⟩
theorem q_dropP {sp : Sp} {R : List V → Hp → Prop} (h : EvAP tr σ H R) (k : ∀ vs H1, Ex H H1 → R vs H1 → sp vs H1 (fun _ H2 => tz D σ H2) E) : tSeq (tDrop (tCall sp [] E tr)) tz D σ H :=
  h H (Ex.refl H) _ fun vs H1 e1 hR => by rw [List.append_nil]; exact k vs H1 e1 hR
end
def spSetStores (CI : Addr) : Sp := fun vs H Q _ => ∃ (ia p pa : Addr) (m : M) (l : List Nat), vs = [.ref ia, .ref p] ∧ InsAt H CI ia m pa ∧ H p = some (.lst (nV l)) ∧ l.length ≤ 1000 ∧ (∀ x ∈ l, x ≤ 7) ∧ ∀ H', K1 ia H H' → InsAt H' CI ia { m with g := Ns.orAll l } pa → (∀ b, Own H' ia b → Own H ia b) → Q .non H'
theorem cut_tail (x : V) (l : List V) : cutV (x :: l) (some 1) none = l := by
  unfold cutV
  have e1 : HT.sIx (x :: l).length 0 (some 1) = 1 := by
    have h := HT.sIx_nat (x :: l).length 0 1
    rw [show ((1 : Nat) : Int) = 1 from rfl] at h
    rw [h, List.length_cons]
    omega
  rw [e1, HT.sIx_none, List.drop_one, List.tail_cons, List.length_cons]
  exact List.take_of_length_le (by omega)
theorem orAll_take {l : List Nat} {i x : Nat} (h : l[i]? = some x) : Ns.orAll (l.take (i + 1)) = Ns.orAll (l.take i) ||| 1 <<< x := by
  unfold Ns.orAll
  rw [List.take_add_one, h, List.foldl_append]
  rfl
theorem nV_get {l : List Nat} {i : Nat} {x : V} (h : (nV l)[i]? = some x) : ∃ y, l[i]? = some y ∧ x = iV y := by
  rw [List.getElem?_map] at h
  cases e : l[i]? with
  | none => rw [e] at h; cases h
  | some y => rw [e] at h; exact ⟨y, rfl, (Option.some.inj h).symm⟩
theorem sc_set_people : FnScope ["instance", "given", "place", "people", "old"] ["instance", "given"] (defScope (top 56)) := ⟨rfl, rfl, rfl, by decide +kernel, rfl, by decide +kernel, by decide +kernel⟩
theorem cal_set_people (d : Df K mg "set_people" (top 56)) {CI CH C : Addr} (G : Gb mg) (c : Ca K CI CH) (cW : CalX P w K mg base 3 "want" (spWant C)) (mH : C8.Met P w K mg base 1 CI "has_place" (spHp CI) []) : CalX P w K mg base 7 "set_people" (spDeed CI C 1) := by
  refine calX_of d sc_set_people (fun _ _ _ _ _ _ us hl => match us, hl with | [_, _], _ => rfl) (fun vs H Q E h => ?_) fun f cdv A outer s H vs Q E hr h => ?_
  · obtain ⟨ia, ga, pa, m, args, rfl, _⟩ := h
    rfl
  · refine ⟨_, (pss_cons (ps_asg (pv 1) (pg_lst rfl (pgs_cons (pg_name (i := 2) sc_set_people.nd rfl (Or.inl rfl)) (pgs_cons (pg_name (i := 3) sc_set_people.nd rfl (Or.inl rfl)) pgs_nil))))
      (pss_cons (ps_expr (pe_clX cW hr (by decide) (takes_of rfl rfl rfl rfl) (pa_cons (C8.pe_mt mH hr (by decide) (pv 0) (pa_cons (pv 2) pa_nil)) (pa_cons (pe_g G.noPlace) pa_nil))))
      (pss_cons (ps_expr (pe_clX cW hr (by decide) (takes_of rfl rfl rfl rfl) (pa_cons (pe_cmpR op_le (pv 3) (pe_g G.mostPeople) (nomark _)) (pa_cons (pe_g G.notInRange) pa_nil))))
      (pss_cons (ps_set (i := 4) sc_set_people.nd rfl (Or.inl rfl) (pe_ix (kr_ix (K := K)) (pk_fld (K := K) (pv 0)) (pv 2) (fun _ _ => rfl)))
      (pss_cons (ps_asg (pv 3) (pg_sub (pk_fld (K := K) (pv 0)) (pv 2) set_list))
      (pss_one (ps_ret (pe_lst (pa_cons (pv 4) pa_nil))))))))), ?_⟩
    obtain ⟨ia, ga, pa, m, args, rfl, hi, O, hg, hl, kE, kO⟩ := h
    obtain ⟨a, b, rfl⟩ := l2 hl
    have d1 : Ns.deed 1 m [a, b] = if a < m.n then (if b ≤ 99 then .ok ({ m with pe := Ns.setV m.pe a b }, [(m.pe a : Int)]) else .error (-22)) else .error (-2) := rfl
    refine q_un2 (ev_var rfl) hg fun H1 e1 => ?_
    have hi1 := hi.mono e1
    refine q_w (ev_hp (ev_var rfl) hi1 (ev_var rfl)) ev_c (fun hb H2 e2 => ?_) fun hb => (kE _ (by rw [d1, if_neg (of_decide_eq_false hb)])).mono e1
    rw [if_pos (of_decide_eq_true hb)] at d1
    have ha := of_decide_eq_true hb
    have hi2 := hi1.mono e2
    refine q_w (b := decide (b ≤ 99)) (ev_is (ev_op (ev_var rfl) ev_c rv_I0) (congrArg V.bl (decide_eq_decide.mpr (by omega)))) ev_c (fun hb2 H3 e3 => ?_) fun hb2 => (kE _ (by rw [d1, if_neg (of_decide_eq_false hb2)])).mono (e1.trans e2)
    rw [if_pos (of_decide_eq_true hb2)] at d1
    have hi3 := hi2.mono e3
    refine q_asg (ev_at hi3.pe (ev_people c (ev_var rfl) hi3) (ev_var rfl) ha) fun H4 e4 => ?_
    have hi4 := hi3.mono e4
    refine q_setL (l := pa) hi4.pe (ev_var rfl) (ev_people c (ev_var rfl) hi4) (ev_var rfl) (by rw [List.length_map, List.length_range]; exact ha) fun H5 e5 => ?_
    have hi5 := hi4.mono e5
    have hex := ((e1.trans e2).trans e3).trans (e4.trans e5)
    refine s_retL (el_l1 (ev_var rfl)) fun p H6 hp e6 h6 => kO _ _ d1 p H6 ?_ (fun b0 o0 h0 n1 n2 => e6 _ _ (by rw [upd_ne n2]; exact hex _ _ h0)) ?_ (fun b0 o0 => .inl ?_) h6
    · by_cases z : p = pa
      · rw [z, upd_same] at hp; cases hp
      · rw [upd_ne z] at hp
        exact fresh_back hex hp
    · obtain ⟨dx, ta, as, k1, k2, k3, k4⟩ := hi5.full
      have nia : ia ≠ pa := fun z => by rw [z, hi5.pe] at k1; cases k1
      refine ⟨⟨dx, ta, as, e6 _ _ ?_, e6 _ _ ?_, k3, fun i hi' => ⟨e6 _ _ ?_, (k4 i hi').2⟩⟩, e6 _ _ ?_⟩
      · rw [upd_ne nia]; exact k1
      · rw [upd_ne k3]; exact k2
      · rw [upd_ne (k4 i hi').2]; exact (k4 i hi').1
      · rw [upd_same, rV_set]
        rfl
    · obtain ⟨dx, ta, as, k1, k2, k3, k4⟩ := hi5.full
      have nia : ia ≠ pa := fun z => by rw [z, hi5.pe] at k1; cases k1
      have z1 : H6 ia = some (.ins CI dx (insF pa ta m.g)) := e6 _ _ (by rw [upd_ne nia]; exact k1)
      have z2 : H6 ta = some (.lst ((List.range m.n).map fun i => V.ref (as i))) := e6 _ _ (by rw [upd_ne k3]; exact k2)
      exact own_ex hi hex (own_to k1 k2 (own_is z1 z2 o0))
theorem sc_set_road : FnScope ["instance", "given", "a", "b", "time", "old"] ["instance", "given"] (defScope (top 57)) := ⟨rfl, rfl, rfl, by decide +kernel, rfl, by decide +kernel, by decide +kernel⟩
theorem cal_set_road (d : Df K mg "set_road" (top 57)) {CI CH C : Addr} (G : Gb mg) (c : Ca K CI CH) (cR : CalX P w K mg base 4 "want_road" (spWantRoad CI C)) (cJ : Cal P w K mg base 1 "times_with" spTimesWith) : CalX P w K mg base 7 "set_road" (spDeed CI C 2) := by
  refine calX_of d sc_set_road (fun _ _ _ _ _ _ us hl => match us, hl with | [_, _], _ => rfl) (fun vs H Q E h => ?_) fun f cdv A outer s H vs Q E hr h => ?_
  · obtain ⟨ia, ga, pa, m, args, rfl, _⟩ := h
    rfl
  · refine ⟨_, (pss_cons (ps_asg (pv 1) (pg_lst rfl (pgs_cons (pg_name (i := 2) sc_set_road.nd rfl (Or.inl rfl)) (pgs_cons (pg_name (i := 3) sc_set_road.nd rfl (Or.inl rfl)) (pgs_cons (pg_name (i := 4) sc_set_road.nd rfl (Or.inl rfl)) pgs_nil)))))
      (pss_cons (ps_expr (pe_clX cR hr (by decide) (takes_of rfl rfl rfl rfl) (pa_cons (pv 0) (pa_cons (pv 2) (pa_cons (pv 3) (pa_cons (pv 4) pa_nil))))))
      (pss_cons (ps_set (i := 5) sc_set_road.nd rfl (Or.inl rfl) (pe_ix (kr_ix (K := K)) (pe_ix (kr_ix (K := K)) (pk_fld (K := K) (pv 0)) (pv 2) (fun _ _ => rfl)) (pv 3) (fun _ _ => rfl)))
      (pss_cons (ps_fld (pv 0) (pe_cl cJ hr (by decide) (pa_cons (pk_fld (K := K) (pv 0)) (pa_cons (pv 2) (pa_cons (pv 3) (pa_cons (pv 4) pa_nil))))) rfl)
      (pss_one (ps_ret (pe_lst (pa_cons (pv 5) pa_nil)))))))), ?_⟩
    obtain ⟨ia, ga, pa, m, args, rfl, hi, O, hg, hl, kE, kO⟩ := h
    obtain ⟨a, b, v, rfl⟩ := l3 hl
    refine q_un3 (ev_var rfl) hg fun H1 e1 => ?_
    have hi1 := hi.mono e1
    have dn : ∀ c, Ns.deed 2 m [a, b, v] = .error c → Rz C E H1 c := fun c e => (kE c e).mono e1
    refine q_N (o := if a < m.n ∧ b < m.n then (if a ≠ b ∧ v ≤ 50 then none else some (-22)) else some (-2)) (ea4 (ev_var rfl) (ev_var rfl) (ev_var rfl) (ev_var rfl)) (fun H2 e2 => ⟨ia, m, pa, a, b, v, rfl, hi1.mono e2, rfl⟩) (fun c e => dn c ?_) fun e H2 e2 => ?_
    · show Ns.roadOk m a b v _ = _
      unfold Ns.roadOk
      by_cases c1 : a < m.n ∧ b < m.n
      · rw [if_pos c1] at e ⊢
        by_cases c2 : a ≠ b ∧ v ≤ 50
        · rw [if_pos c2] at e; cases e
        · rw [if_neg c2] at e ⊢; cases e; rfl
      · rw [if_neg c1] at e ⊢; cases e; rfl
    have c1 : a < m.n ∧ b < m.n := by
      by_cases c1 : a < m.n ∧ b < m.n
      · exact c1
      · rw [if_neg c1] at e; cases e
    rw [if_pos c1] at e
    have c2 : a ≠ b ∧ v ≤ 50 := by
      by_cases c2 : a ≠ b ∧ v ≤ 50
      · exact c2
      · rw [if_neg c2] at e; cases e
    have d2 : Ns.deed 2 m [a, b, v] = .ok ({ m with t := Ns.setM m.t a b v }, [(m.t a b : Int)]) := by
      show Ns.roadOk m a b v _ = _
      unfold Ns.roadOk
      rw [if_pos c1, if_pos c2]
    have hi2 := hi1.mono e2
    obtain ⟨dx0, t0, j1, j2⟩ := hi2.ex
    refine q_asg (ev_mx j2 (ev_fld (ev_var rfl) j1 c.ci c.nt (lk_times _ _ _)) (ev_var rfl) (ev_var rfl) c1.1 c1.2) fun H3 e3 => ?_
    have hi3 := hi2.mono e3
    obtain ⟨dx, ta, as, k1, k2, k3, k4⟩ := hi3.full
    refine q_fldMF (emf_cv (ea4 (ev_fld (ev_var rfl) k1 c.ci c.nt (lk_times _ _ _)) (ev_var rfl) (ev_var rfl) (ev_var rfl)) fun H4 e4 => ⟨ta, m.t, a, b, v, rfl, (show Mx H3 ta m.n m.t from ⟨as, k2, fun i hi' => (k4 i hi').1⟩).mono e4, O.hi, c1.1, c1.2, c2.1, rfl⟩) (fun H4 e4 => ev_var rfl) k1 c.ci c.nt (by show 3 < 1000; decide) fun tb bs H4 htb e4 q1 q2 => ?_
    have hi4 := hi3.mono e4
    have hex := ((e1.trans e2).trans e3).trans e4
    have nia : ∀ {b0 : Addr}, H3 b0 = none → b0 ≠ ia := fun {b0} h z => by rw [z, k1] at h; cases h
    have npa : ∀ {b0 : Addr}, H3 b0 = none → b0 ≠ pa := fun {b0} h z => by rw [z, hi3.pe] at h; cases h
    have kpa : pa ≠ ia := hi3.ne hi3.pe
    refine s_retL (el_l1 (ev_var rfl)) fun p H6 hp e6 h6 => kO _ _ d2 p H6 ?_ (fun b0 o0 h0 n1 n2 => e6 _ _ (by rw [upd_ne n1]; exact hex _ _ h0)) ?_ (fun b0 o0 => ?_) h6
    · by_cases z : p = ia
      · rw [z, upd_same] at hp; cases hp
      · rw [upd_ne z] at hp
        exact fresh_back hex hp
    · refine ⟨⟨dx, tb, bs, e6 _ _ upd_same, e6 _ _ ?_, npa htb, fun i hi' => ⟨e6 _ _ ?_, npa (q2 i hi').1⟩⟩, e6 _ _ ?_⟩
      · rw [upd_ne (nia htb)]; exact q1
      · rw [upd_ne (nia (q2 i hi').1)]; exact (q2 i hi').2
      · rw [upd_ne kpa]; exact hi4.pe
    · have hex3 := (e1.trans e2).trans e3
      have z1 : H6 ia = some (.ins CI dx (insF pa tb m.g)) := e6 _ _ upd_same
      have z2 : H6 tb = some (.lst ((List.range m.n).map fun i => V.ref (bs i))) := e6 _ _ (by rw [upd_ne (nia htb)]; exact q1)
      rcases own_is z1 z2 o0 with o | o | o
      · exact .inl (own_ex hi hex3 (own_to k1 k2 (.inl o)))
      · exact .inr (fresh_back hex3 (by rw [o]; exact htb))
      · obtain ⟨i, hi', o⟩ := ref_in o
        exact .inr (fresh_back hex3 (by rw [o]; exact (q2 i hi').1))
theorem sc_set_store : FnScope ["instance", "given", "place", "present", "was_there"] ["instance", "given"] (defScope (top 58)) := ⟨rfl, rfl, rfl, by decide +kernel, rfl, by decide +kernel, by decide +kernel⟩
theorem cal_set_store (d : Df K mg "set_store" (top 58)) {CI CH C : Addr} (G : Gb mg) (c : Ca K CI CH) (cW : CalX P w K mg base 3 "want" (spWant C)) (mH : C8.Met P w K mg base 1 CI "has_place" (spHp CI) []) (cH : Cal P w K mg base 1 "has" spHas) (cI : Cal P w K mg base 1 "with_place" spWith) (cO : Cal P w K mg base 1 "without_place" spWithout) : CalX P w K mg base 7 "set_store" (spDeed CI C 3) := by
  refine calX_of d sc_set_store (fun _ _ _ _ _ _ us hl => match us, hl with | [_, _], _ => rfl) (fun vs H Q E h => ?_) fun f cdv A outer s H vs Q E hr h => ?_
  · obtain ⟨ia, ga, pa, m, args, rfl, _⟩ := h
    rfl
  · refine ⟨_, (pss_cons (ps_asg (pv 1) (pg_lst rfl (pgs_cons (pg_name (i := 2) sc_set_store.nd rfl (Or.inl rfl)) (pgs_cons (pg_name (i := 3) sc_set_store.nd rfl (Or.inl rfl)) pgs_nil))))
      (pss_cons (ps_expr (pe_clX cW hr (by decide) (takes_of rfl rfl rfl rfl) (pa_cons (C8.pe_mt mH hr (by decide) (pv 0) (pa_cons (pv 2) pa_nil)) (pa_cons (pe_g G.noPlace) pa_nil))))
      (pss_cons (ps_expr (pe_clX cW hr (by decide) (takes_of rfl rfl rfl rfl) (pa_cons (pe_cmpR op_le (pv 3) pe_int (nomark _)) (pa_cons (pe_g G.notInRange) pa_nil))))
      (pss_cons (ps_set (i := 4) sc_set_store.nd rfl (Or.inl rfl) (pe_cl cH hr (by decide) (pa_cons (pk_fld (K := K) (pv 0)) (pa_cons (pv 2) pa_nil))))
      (pss_cons (ps_if (pt_cmpR op_eq (pv 3) pe_int (nomark _)) (pss_one (ps_fld (pv 0) (pe_cl cI hr (by decide) (pa_cons (pk_fld (K := K) (pv 0)) (pa_cons (pv 2) pa_nil))) rfl)) (pss_one (ps_if (pt_val (pv 4)) (pss_one (ps_fld (pv 0) (pe_cl cO hr (by decide) (pa_cons (pk_fld (K := K) (pv 0)) (pa_cons (pv 2) pa_nil))) rfl)) pss_nil)))
      (pss_one (ps_ret (pe_lst (pa_cons (pe_ifExp (pt_val (pv 4)) pe_int pe_int) pa_nil))))))))), ?_⟩
    obtain ⟨ia, ga, pa, m, args, rfl, hi, O, hg, hl, kE, kO⟩ := h
    obtain ⟨a, b, rfl⟩ := l2 hl
    have d1 : Ns.deed 3 m [a, b] = if a < m.n then (if b ≤ 1 then .ok ({ m with g := if b = 1 then m.g ||| 1 <<< a else if m.g.testBit a then m.g - 2 ^ a else m.g }, [if m.g.testBit a then 1 else 0]) else .error (-22)) else .error (-2) := rfl
    refine q_un2 (ev_var rfl) hg fun H1 e1 => ?_
    have hi1 := hi.mono e1
    refine q_w (ev_hp (ev_var rfl) hi1 (ev_var rfl)) ev_c (fun hb H2 e2 => ?_) fun hb => (kE _ (by rw [d1, if_neg (of_decide_eq_false hb)])).mono e1
    rw [if_pos (of_decide_eq_true hb)] at d1
    have ha := of_decide_eq_true hb
    have h7 := O.hi
    have hi2 := hi1.mono e2
    refine q_w (b := decide (b ≤ 1)) (ev_is (ev_op (ev_var rfl) ev_c rv_I0) (congrArg V.bl (decide_eq_decide.mpr (by omega)))) ev_c (fun hb2 H3 e3 => ?_) fun hb2 => (kE _ (by rw [d1, if_neg (of_decide_eq_false hb2)])).mono (e1.trans e2)
    rw [if_pos (of_decide_eq_true hb2)] at d1
    have hi3 := hi2.mono e3
    refine q_asg (ev_cv (ea2 (ev_stores c (ev_var rfl) hi3) (ev_var rfl)) fun H4 e4 => ⟨m.g, a, rfl, rfl⟩) fun H4 e4 => ?_
    have hi4 := hi3.mono e4
    have hex := (e1.trans e2).trans (e3.trans e4)
    have fin : ∀ H5, K1 ia H4 H5 → InsAt H5 CI ia { m with g := if b = 1 then m.g ||| 1 <<< a else if m.g.testBit a then m.g - 2 ^ a else m.g } pa → (∀ b0, Own H5 ia b0 → Own H4 ia b0) →
        tRet (tLst (tCons (tIf (tB (tVar 4)) (tC (.int 1)) (tC (.int 0))) tNil)) { nx := fun _ H' => Q .non H', rt := Q } [some (.ref ia), some (.ref ga), some (iV a), some (iV b), some (.bl (m.g.testBit a))] H5 := fun H5 k5 i5 o5 => by
      refine s_retL (el_l1 (v := V.int (if m.g.testBit a then 1 else 0)) (ev_if (et_B (ev_var rfl)) (fun hb => ev_is ev_c ?_) fun hb => ev_is ev_c ?_)) fun p H6 hp e6 h6 => kO _ _ d1 p H6 ?_ (((Kp.of hex).trans k5.kp).trans (Kp.of e6)) (i5.mono e6) (fun b0 o0 => .inl (own_ex hi hex (o5 b0 (own_ex i5 e6 o0)))) h6
      · rw [if_pos hb]
      · rw [if_neg (by rw [hb]; decide)]
      · by_cases z : p = ia
        · obtain ⟨dx, t, as, j1, _⟩ := i5.full
          rw [z, j1] at hp
          cases hp
        · cases q : H p with
          | none => rfl
          | some o =>
            have := k5 _ _ (hex _ _ q) z
            rw [hp] at this
            cases this
    refine q_if (et_is (et_test (ev_op (ev_var rfl) ev_c (rv_eq rfl))) (int_dec (a := b) (b := 1))) (fun hb3 H5 e5 => ?_) fun hb3 H5 e5 => ?_
    · have hi5 := hi4.mono e5
      have hb1 := of_decide_eq_true hb3
      refine s_stores c hi5 (ev_cv (ea2 (ev_stores c (ev_var rfl) hi5) (ev_var rfl)) fun H6 e6 => ⟨m.g, a, rfl, by omega, rfl⟩) (ev_var rfl) fun H6 k6 i6 o6 => ?_
      refine fin H6 ((K1.of e5).trans k6) ?_ fun b0 o0 => own_ex hi4 e5 (o6 b0 o0)
      rw [if_pos hb1]
      exact i6
    · have hi5 := hi4.mono e5
      have hb1 := of_decide_eq_false hb3
      refine s_when (et_B (ev_var rfl)) (fun hb4 H6 e6 => ?_) fun hb4 H6 e6 => ?_
      · have hi6 := hi5.mono e6
        refine s_stores c hi6 (ev_cv (ea2 (ev_stores c (ev_var rfl) hi6) (ev_var rfl)) fun H7 e7 => ⟨m.g, a, rfl, by omega, hb4, rfl⟩) (ev_var rfl) fun H7 k7 i7 o7 => ?_
        refine fin H7 ((K1.of (e5.trans e6)).trans k7) ?_ fun b0 o0 => own_ex hi4 (e5.trans e6) (o7 b0 o0)
        rw [if_neg hb1, if_pos hb4]
        exact i7
      · refine fin H6 (K1.of (e5.trans e6)) ?_ fun b0 o0 => own_ex hi4 (e5.trans e6) o0
        rw [if_neg hb1, if_neg (by rw [hb4]; decide)]
        exact hi5.mono e6
theorem sc_set_stores : FnScope ["instance", "places", "group", "place"] ["instance", "places"] (defScope (top 74)) := ⟨rfl, rfl, rfl, by decide +kernel, rfl, by decide +kernel, by decide +kernel⟩
theorem cal_set_stores (d : Df K mg "set_stores" (top 74)) {CI CH : Addr} (G : Gb mg) (c : Ca K CI CH) (cI : Cal P w K mg base 1 "with_place" spWith) : Cal P w K mg base 2 "set_stores" (spSetStores CI) := by
  refine cal_of d sc_set_stores (fun _ _ _ _ _ _ us hl => match us, hl with | [_, _], _ => rfl) (fun vs H Q E h => ?_) fun f cdv A outer s H vs Q E hr h => ?_
  · obtain ⟨ia, p, pa, m, l, rfl, _⟩ := h
    rfl
  · refine ⟨_, (pss_cons (ps_set (i := 2) sc_set_stores.nd rfl (Or.inl rfl) pe_int)
      (pss_cons (ps_for PassesOwn.never rfl (pk_list (K := K) (pv 1)) (pg_name (i := 3) sc_set_stores.nd rfl (Or.inl rfl)) (pss_one (ps_set (i := 2) sc_set_stores.nd rfl (Or.inl rfl) (pe_cl cI hr (by decide) (pa_cons (pv 2) (pa_cons (pv 3) pa_nil))))))
      (pss_one (ps_fld (pv 0) (pv 2) rfl)))), ?_⟩
    obtain ⟨ia, p, pa, m, l, rfl, hi, hp, hl, h7, k⟩ := h
    refine q_asg ev_c fun H1 e1 => ?_
    refine q_forLn (a := p) (xs := nV l) (ev_var rfl) (sq_of (e1 _ _ hp)) (fun i σ' H' => ∃ v : Option V, σ' = [some (.ref ia), some (.ref p), some (iV (Ns.orAll (l.take i))), v] ∧ Ex H H') (fun H2 e2 => ⟨none, rfl, e1.trans e2⟩) (fun i σ' H' _ ⟨v, _, e⟩ => sq_of (e _ _ hp)) ?_ ?_
    · rintro i x σ' H' hx ⟨v, rfl, e⟩
      obtain ⟨y, hy, rfl⟩ := nV_get hx
      refine s_asg (v := iV (Ns.orAll (l.take (i + 1)))) (ev_cv (ea2 (ev_var rfl) (ev_var rfl)) fun H2 e2 => ⟨_, y, rfl, h7 y (List.mem_of_getElem? hy), by rw [orAll_take hy]⟩) fun H2 e2 => ⟨some (iV y), rfl, e.trans e2⟩
    · rintro σ' H' ⟨v, rfl, e⟩
      rw [List.length_map, List.take_length]
      exact s_stores c (hi.mono e) (ev_var rfl) (ev_var rfl) fun H2 k2 i2 o2 => k H2 ((K1.of e).trans k2) i2 fun b o => own_ex hi e (o2 b o)
theorem sc_use_centers : FnScope ["instance", "given", "answer"] ["instance", "given"] (defScope (top 75)) := ⟨rfl, rfl, rfl, by decide +kernel, rfl, by decide +kernel, by decide +kernel⟩
theorem cal_use_centers (d : Df K mg "use_centers" (top 75)) {CI CH C : Addr} (G : Gb mg) (c : Ca K CI CH) (cK : CalX P w K mg base 7 "ask_centers" (spRead CI C 14)) (cV : Cal P w K mg base 2 "set_stores" (spSetStores CI)) : CalX P w K mg base 8 "use_centers" (spDeed CI C 19) := by
  refine calX_of d sc_use_centers (fun _ _ _ _ _ _ us hl => match us, hl with | [_, _], _ => rfl) (fun vs H Q E h => ?_) fun f cdv A outer s H vs Q E hr h => ?_
  · obtain ⟨ia, ga, pa, m, args, rfl, _⟩ := h
    rfl
  · refine ⟨_, (pss_cons (ps_set (i := 2) sc_use_centers.nd rfl (Or.inl rfl) (pe_clX cK hr (by decide) (takes_of rfl rfl rfl rfl) (pa_cons (pv 0) (pa_cons (pv 1) pa_nil))))
      (pss_cons (ps_expr (pe_cl cV hr (by decide) (pa_cons (pv 0) (pa_cons (pe_slice sl_list (pv 2) (po_some pe_int) po_none) pa_nil))))
      (pss_one (ps_ret (pe_lst (pa_cons (pe_ix (kr_ix (K := K)) (pv 2) pe_int (fun _ _ => rfl)) pa_nil)))))), ?_⟩
    obtain ⟨ia, ga, pa, m, args, rfl, hi, O, hg, hl, kE, kO⟩ := h
    obtain ⟨a, rfl⟩ := l1 hl
    have dk : Ns.deed 19 m [a] = Ns.sized m 1 a (.ok ({ m with g := Ns.orAll (Ns.mem m.n (Ns.cOf m a)) }, [(Ns.gd m.n m.d m.pe (Ns.cOf m a) : Int)])) := rfl
    have da : Ns.deed 14 m [a] = Ns.sized m 1 a (.ok (m, (Ns.gd m.n m.d m.pe (Ns.cOf m a) : Int) :: Ns.toI (Ns.mem m.n (Ns.cOf m a)))) := rfl
    refine q_asgRd hi O hg rfl (ea2 (ev_var rfl) (ev_var rfl)) (fun c0 e0 => kE c0 ?_) fun m' out e0 p H1 hp e1 h1 => ?_
    · rw [da] at e0
      rw [dk]
      unfold Ns.sized at e0 ⊢
      by_cases c1 : 1 ≤ a ∧ a ≤ m.n
      · rw [if_pos c1] at e0 ⊢
        by_cases c2 : Ns.conn m.n m.d = true
        · rw [if_pos c2] at e0; cases e0
        · rw [if_neg c2] at e0 ⊢; cases e0; rfl
      · rw [if_neg c1] at e0 ⊢; cases e0; rfl
    rw [da] at e0
    unfold Ns.sized at e0 dk
    by_cases c1 : 1 ≤ a ∧ a ≤ m.n
    · rw [if_pos c1] at e0 dk
      by_cases c2 : Ns.conn m.n m.d = true
      · rw [if_pos c2] at e0 dk
        cases e0
        rw [List.map_cons, toI_V] at h1
        have hi1 := hi.mono e1
        have hml := mem_len m.n (Ns.cOf m a)
        have h7 := O.hi
        refine q_dropP (ap_2L (ev_var rfl) (el_is (el_sl (ev_var rfl) (eo_some ev_c) eo_none (sq_of h1)) (cut_tail _ _))) fun vs H2 e2 ⟨q, hv, hq⟩ => ?_
        have hi2 := hi1.mono e2
        refine ⟨ia, q, pa, m, Ns.mem m.n (Ns.cOf m a), hv, hi2, hq, by omega, fun x hx => by have := Ns.mem_lt hx; omega, fun H3 k3 i3 o3 => ?_⟩
        have h3 : H3 p = some (.lst (V.int (Ns.gd m.n m.d m.pe (Ns.cOf m a) : Int) :: nV (Ns.mem m.n (Ns.cOf m a)))) := k3 _ _ (e2 _ _ h1) (hi1.ne h1)
        refine s_retL (el_l1 (v := V.int (Ns.gd m.n m.d m.pe (Ns.cOf m a) : Int)) (ev_op (ev_var rfl) ev_c (rv_ixL (sq_of h3) (atI_nat (j := 0) rfl)))) fun p2 H4 hp2 e4 h4 => kO _ _ dk p2 H4 ?_ (((Kp.of (e1.trans e2)).trans k3.kp).trans (Kp.of e4)) (i3.mono e4) (fun b0 o0 => .inl (own_ex hi (e1.trans e2) (o3 b0 (own_ex i3 e4 o0)))) h4
        by_cases z : p2 = ia
        · obtain ⟨dx, t, as, j1, _⟩ := i3.full
          rw [z, j1] at hp2
          cases hp2
        · cases q0 : H p2 with
          | none => rfl
          | some o =>
            have := k3 _ _ ((e1.trans e2) _ _ q0) z
            rw [hp2] at this
            cases this
      · rw [if_neg c2] at e0; cases e0
    · rw [if_neg c1] at e0; cases e0
theorem sc_use_medians : FnScope ["instance", "given", "answer"] ["instance", "given"] (defScope (top 76)) := ⟨rfl, rfl, rfl, by decide +kernel, rfl, by decide +kernel, by decide +kernel⟩
theorem cal_use_medians (d : Df K mg "use_medians" (top 76)) {CI CH C : Addr} (G : Gb mg) (c : Ca K CI CH) (cK : CalX P w K mg base 7 "ask_medians" (spRead CI C 15)) (cV : Cal P w K mg base 2 "set_stores" (spSetStores CI)) : CalX P w K mg base 8 "use_medians" (spDeed CI C 20) := by
  refine calX_of d sc_use_medians (fun _ _ _ _ _ _ us hl => match us, hl with | [_, _], _ => rfl) (fun vs H Q E h => ?_) fun f cdv A outer s H vs Q E hr h => ?_
  · obtain ⟨ia, ga, pa, m, args, rfl, _⟩ := h
    rfl
  · refine ⟨_, (pss_cons (ps_set (i := 2) sc_use_medians.nd rfl (Or.inl rfl) (pe_clX cK hr (by decide) (takes_of rfl rfl rfl rfl) (pa_cons (pv 0) (pa_cons (pv 1) pa_nil))))
      (pss_cons (ps_expr (pe_cl cV hr (by decide) (pa_cons (pv 0) (pa_cons (pe_slice sl_list (pv 2) (po_some pe_int) po_none) pa_nil))))
      (pss_one (ps_ret (pe_lst (pa_cons (pe_ix (kr_ix (K := K)) (pv 2) pe_int (fun _ _ => rfl)) pa_nil)))))), ?_⟩
    obtain ⟨ia, ga, pa, m, args, rfl, hi, O, hg, hl, kE, kO⟩ := h
    obtain ⟨a, rfl⟩ := l1 hl
    have dk : Ns.deed 20 m [a] = Ns.sized m 1 a (.ok ({ m with g := Ns.orAll (Ns.mem m.n (Ns.mOf m a)) }, [(Ns.td m.n m.d m.pe (Ns.mOf m a) : Int)])) := rfl
    have da : Ns.deed 15 m [a] = Ns.sized m 1 a (.ok (m, (Ns.td m.n m.d m.pe (Ns.mOf m a) : Int) :: Ns.toI (Ns.mem m.n (Ns.mOf m a)))) := rfl
    refine q_asgRd hi O hg rfl (ea2 (ev_var rfl) (ev_var rfl)) (fun c0 e0 => kE c0 ?_) fun m' out e0 p H1 hp e1 h1 => ?_
    · rw [da] at e0
      rw [dk]
      unfold Ns.sized at e0 ⊢
      by_cases c1 : 1 ≤ a ∧ a ≤ m.n
      · rw [if_pos c1] at e0 ⊢
        by_cases c2 : Ns.conn m.n m.d = true
        · rw [if_pos c2] at e0; cases e0
        · rw [if_neg c2] at e0 ⊢; cases e0; rfl
      · rw [if_neg c1] at e0 ⊢; cases e0; rfl
    rw [da] at e0
    unfold Ns.sized at e0 dk
    by_cases c1 : 1 ≤ a ∧ a ≤ m.n
    · rw [if_pos c1] at e0 dk
      by_cases c2 : Ns.conn m.n m.d = true
      · rw [if_pos c2] at e0 dk
        cases e0
        rw [List.map_cons, toI_V] at h1
        have hi1 := hi.mono e1
        have hml := mem_len m.n (Ns.mOf m a)
        have h7 := O.hi
        refine q_dropP (ap_2L (ev_var rfl) (el_is (el_sl (ev_var rfl) (eo_some ev_c) eo_none (sq_of h1)) (cut_tail _ _))) fun vs H2 e2 ⟨q, hv, hq⟩ => ?_
        have hi2 := hi1.mono e2
        refine ⟨ia, q, pa, m, Ns.mem m.n (Ns.mOf m a), hv, hi2, hq, by omega, fun x hx => by have := Ns.mem_lt hx; omega, fun H3 k3 i3 o3 => ?_⟩
        have h3 : H3 p = some (.lst (V.int (Ns.td m.n m.d m.pe (Ns.mOf m a) : Int) :: nV (Ns.mem m.n (Ns.mOf m a)))) := k3 _ _ (e2 _ _ h1) (hi1.ne h1)
        refine s_retL (el_l1 (v := V.int (Ns.td m.n m.d m.pe (Ns.mOf m a) : Int)) (ev_op (ev_var rfl) ev_c (rv_ixL (sq_of h3) (atI_nat (j := 0) rfl)))) fun p2 H4 hp2 e4 h4 => kO _ _ dk p2 H4 ?_ (((Kp.of (e1.trans e2)).trans k3.kp).trans (Kp.of e4)) (i3.mono e4) (fun b0 o0 => .inl (own_ex hi (e1.trans e2) (o3 b0 (own_ex i3 e4 o0)))) h4
        by_cases z : p2 = ia
        · obtain ⟨dx, t, as, j1, _⟩ := i3.full
          rw [z, j1] at hp2
          cases hp2
        · cases q0 : H p2 with
          | none => rfl
          | some o =>
            have := k3 _ _ ((e1.trans e2) _ _ q0) z
            rw [hp2] at this
            cases this
      · rw [if_neg c2] at e0; cases e0
    · rw [if_neg c1] at e0; cases e0
theorem sc_use_robust_centers : FnScope ["instance", "given", "answer"] ["instance", "given"] (defScope (top 77)) := ⟨rfl, rfl, rfl, by decide +kernel, rfl, by decide +kernel, by decide +kernel⟩
theorem cal_use_robust_centers (d : Df K mg "use_robust_centers" (top 77)) {CI CH C : Addr} (G : Gb mg) (c : Ca K CI CH) (cK : CalX P w K mg base 7 "ask_robust_centers" (spRead CI C 16)) (cV : Cal P w K mg base 2 "set_stores" (spSetStores CI)) : CalX P w K mg base 8 "use_robust_centers" (spDeed CI C 21) := by
  refine calX_of d sc_use_robust_centers (fun _ _ _ _ _ _ us hl => match us, hl with | [_, _], _ => rfl) (fun vs H Q E h => ?_) fun f cdv A outer s H vs Q E hr h => ?_
  · obtain ⟨ia, ga, pa, m, args, rfl, _⟩ := h
    rfl
  · refine ⟨_, (pss_cons (ps_set (i := 2) sc_use_robust_centers.nd rfl (Or.inl rfl) (pe_clX cK hr (by decide) (takes_of rfl rfl rfl rfl) (pa_cons (pv 0) (pa_cons (pv 1) pa_nil))))
      (pss_cons (ps_expr (pe_cl cV hr (by decide) (pa_cons (pv 0) (pa_cons (pe_slice sl_list (pv 2) (po_some pe_int) po_none) pa_nil))))
      (pss_one (ps_ret (pe_lst (pa_cons (pe_ix (kr_ix (K := K)) (pv 2) pe_int (fun _ _ => rfl)) pa_nil)))))), ?_⟩
    obtain ⟨ia, ga, pa, m, args, rfl, hi, O, hg, hl, kE, kO⟩ := h
    obtain ⟨a, rfl⟩ := l1 hl
    have dk : Ns.deed 21 m [a] = Ns.sized m 2 a (.ok ({ m with g := Ns.orAll (Ns.mem m.n (Ns.rOf m a)) }, [(Ns.loss m.n m.d m.pe (Ns.rOf m a) : Int)])) := rfl
    have da : Ns.deed 16 m [a] = Ns.sized m 2 a (.ok (m, (Ns.loss m.n m.d m.pe (Ns.rOf m a) : Int) :: Ns.toI (Ns.mem m.n (Ns.rOf m a)))) := rfl
    refine q_asgRd hi O hg rfl (ea2 (ev_var rfl) (ev_var rfl)) (fun c0 e0 => kE c0 ?_) fun m' out e0 p H1 hp e1 h1 => ?_
    · rw [da] at e0
      rw [dk]
      unfold Ns.sized at e0 ⊢
      by_cases c1 : 2 ≤ a ∧ a ≤ m.n
      · rw [if_pos c1] at e0 ⊢
        by_cases c2 : Ns.conn m.n m.d = true
        · rw [if_pos c2] at e0; cases e0
        · rw [if_neg c2] at e0 ⊢; cases e0; rfl
      · rw [if_neg c1] at e0 ⊢; cases e0; rfl
    rw [da] at e0
    unfold Ns.sized at e0 dk
    by_cases c1 : 2 ≤ a ∧ a ≤ m.n
    · rw [if_pos c1] at e0 dk
      by_cases c2 : Ns.conn m.n m.d = true
      · rw [if_pos c2] at e0 dk
        cases e0
        rw [List.map_cons, toI_V] at h1
        have hi1 := hi.mono e1
        have hml := mem_len m.n (Ns.rOf m a)
        have h7 := O.hi
        refine q_dropP (ap_2L (ev_var rfl) (el_is (el_sl (ev_var rfl) (eo_some ev_c) eo_none (sq_of h1)) (cut_tail _ _))) fun vs H2 e2 ⟨q, hv, hq⟩ => ?_
        have hi2 := hi1.mono e2
        refine ⟨ia, q, pa, m, Ns.mem m.n (Ns.rOf m a), hv, hi2, hq, by omega, fun x hx => by have := Ns.mem_lt hx; omega, fun H3 k3 i3 o3 => ?_⟩
        have h3 : H3 p = some (.lst (V.int (Ns.loss m.n m.d m.pe (Ns.rOf m a) : Int) :: nV (Ns.mem m.n (Ns.rOf m a)))) := k3 _ _ (e2 _ _ h1) (hi1.ne h1)
        refine s_retL (el_l1 (v := V.int (Ns.loss m.n m.d m.pe (Ns.rOf m a) : Int)) (ev_op (ev_var rfl) ev_c (rv_ixL (sq_of h3) (atI_nat (j := 0) rfl)))) fun p2 H4 hp2 e4 h4 => kO _ _ dk p2 H4 ?_ (((Kp.of (e1.trans e2)).trans k3.kp).trans (Kp.of e4)) (i3.mono e4) (fun b0 o0 => .inl (own_ex hi (e1.trans e2) (o3 b0 (own_ex i3 e4 o0)))) h4
        by_cases z : p2 = ia
        · obtain ⟨dx, t, as, j1, _⟩ := i3.full
          rw [z, j1] at hp2
          cases hp2
        · cases q0 : H p2 with
          | none => rfl
          | some o =>
            have := k3 _ _ ((e1.trans e2) _ _ q0) z
            rw [hp2] at this
            cases this
      · rw [if_neg c2] at e0; cases e0
    · rw [if_neg c1] at e0; cases e0
end
end Nw

/-! ### 3p. The walk: one call -/
namespace Nw
open PySem PySem.Spec PyProof.Rows L2 Evl
open Ns (Vec Mat M Res)
section
variable {P : Program} {w : World} {K : PySem.W.Frag} {mg : Str → Option Value} {base : Heap}
/-- the holder at ha: no instance, or one -/
structure HoldAt (H : Hp) (CH CI ha : Addr) (s : Option M) : Prop where
  ex : ∃ dx, (s = none ∧ H ha = some (.ins CH dx [(("held" : Str), .non)])) ∨ ∃ (m : M) (ia pa : Addr), s = some m ∧ H ha = some (.ins CH dx [(("held" : Str), .ref ia)]) ∧ InsAt H CI ia m pa
/-- the lists that are held -/
def OwnH (H : Hp) (ha b : Addr) : Prop := ∃ CH dx ia, H ha = some (.ins CH dx [(("held" : Str), .ref ia)]) ∧ Own H ia b
/-- lists that are not held, and what is locked, stand -/
structure Fr (H H' : Hp) (ha : Addr) : Prop where
  lst : ∀ b xs, H b = some (.lst xs) → ¬ OwnH H ha b → H' b = some (.lst xs)
  frz : ∀ b o u, H b = some (.frz o u) → H' b = some (.frz o u)
def held (ia : Addr) : List (Str × V) := [(("held" : Str), .ref ia)]
theorem held_inj {CH CH' dx dx' ia ia' : Addr} (h : some (HO.ins CH dx [(("held" : Str), V.ref ia)]) = some (HO.ins CH' dx' [(("held" : Str), V.ref ia')])) : ia = ia' := V.ref.inj (Prod.mk.inj (List.cons.inj (HO.ins.inj (Option.some.inj h)).2.2).1).2
theorem held_non {CH CH' dx dx' ia : Addr} (h : some (HO.ins CH dx [(("held" : Str), V.ref ia)]) = some (HO.ins CH' dx' [(("held" : Str), V.non)])) : False := by
  have := (Prod.mk.inj (List.cons.inj (HO.ins.inj (Option.some.inj h)).2.2).1).2
  cases this
section
variable {H H' : Hp} {CH CI ha ia pa : Addr} {s : Option M} {m : M}
theorem HoldAt.mono (e : Ex H H') (h : HoldAt H CH CI ha s) : HoldAt H' CH CI ha s := by
  obtain ⟨dx, h | ⟨m, ia, pa, h1, h2, h3⟩⟩ := h.ex
  · exact ⟨dx, .inl ⟨h.1, e _ _ h.2⟩⟩
  · exact ⟨dx, .inr ⟨m, ia, pa, h1, e _ _ h2, h3.mono e⟩⟩
theorem ownH_ex (h : HoldAt H CH CI ha s) (e : Ex H H') {b : Addr} (o : OwnH H' ha b) : OwnH H ha b := by
  obtain ⟨CH0, dx0, ia0, k1, k2⟩ := o
  obtain ⟨dx, h | ⟨m, ia, pa, h1, h2, h3⟩⟩ := h.ex
  · rw [e _ _ h.2] at k1
    exact (held_non k1.symm).elim
  · rw [e _ _ h2] at k1
    obtain rfl := held_inj k1
    exact ⟨CH, dx, ia, h2, own_ex h3 e k2⟩
theorem ownH_in {dx : Addr} (h2 : H ha = some (.ins CH dx [(("held" : Str), .ref ia)])) {b : Addr} (o : OwnH H ha b) : Own H ia b := by
  obtain ⟨CH0, dx0, ia0, k1, k2⟩ := o
  rw [h2] at k1
  obtain rfl := held_inj k1
  exact k2
theorem own_pa (h : InsAt H CI ia m pa) : Own H ia pa := by
  obtain ⟨dx, ta, as, h1, h2, _⟩ := h.full
  exact own_to h1 h2 (.inl rfl)
/-- an instance stands where another thing than its own is changed -/
theorem InsAt.other {x : Addr} (h : InsAt H CI ia m pa) (k : ∀ b o, H b = some o → b ≠ x → H' b = some o) (h1 : ia ≠ x) (h2 : ¬ Own H ia x) : InsAt H' CI ia m pa := by
  obtain ⟨dx, ta, as, k1, k2, k3, k4⟩ := h.full
  have no : ∀ b, (b = pa ∨ b = ta ∨ V.ref b ∈ (List.range m.n).map fun i => V.ref (as i)) → b ≠ x := fun b o z => h2 (by rw [← z]; exact own_to k1 k2 o)
  refine ⟨⟨dx, ta, as, k _ _ k1 h1, k _ _ k2 (no ta (.inr (.inl rfl))), k3, fun i hi => ⟨k _ _ (k4 i hi).1 (no _ (.inr (.inr (List.mem_map.mpr ⟨i, List.mem_range.mpr hi, rfl⟩)))), (k4 i hi).2⟩⟩, k _ _ h.pe (no pa (.inl rfl))⟩
theorem HoldAt.other {x : Addr} (h : HoldAt H CH CI ha s) (k : ∀ b o, H b = some o → b ≠ x → H' b = some o) {xs : List V} (hx : H x = some (.lst xs)) (h2 : ¬ OwnH H ha x) : HoldAt H' CH CI ha s := by
  obtain ⟨dx, h | ⟨m, ia, pa, h1, h3, h4⟩⟩ := h.ex
  · exact ⟨dx, .inl ⟨h.1, k _ _ h.2 fun z => by rw [z, hx] at h; cases h.2⟩⟩
  · have n1 : ha ≠ x := fun z => by rw [z, hx] at h3; cases h3
    have n2 : ia ≠ x := fun z => (h4.ne hx) z.symm
    exact ⟨dx, .inr ⟨m, ia, pa, h1, k _ _ h3 n1, h4.other k n2 fun z => h2 ⟨CH, dx, ia, h3, z⟩⟩⟩
theorem ownH_other {x : Addr} (h : HoldAt H CH CI ha s) (k : ∀ b o, H b = some o → b ≠ x → H' b = some o) {xs : List V} (hx : H x = some (.lst xs)) (h2 : ¬ OwnH H ha x) {b : Addr} (o : OwnH H' ha b) : OwnH H ha b := by
  obtain ⟨dx, h | ⟨m, ia, pa, h1, h3, h4⟩⟩ := h.ex
  · have n1 : ha ≠ x := fun z => by rw [z, hx] at h; cases h.2
    obtain ⟨CH0, dx0, ia0, k1, k2⟩ := o
    rw [k _ _ h.2 n1] at k1
    exact (held_non k1.symm).elim
  · have n1 : ha ≠ x := fun z => by rw [z, hx] at h3; cases h3
    have n2 : ia ≠ x := fun z => (h4.ne hx) z.symm
    have o1 := ownH_in (k _ _ h3 n1) o
    obtain ⟨dx1, ta, as, j1, j2, j3, j4⟩ := h4.full
    have n3 : ta ≠ x := fun z => h2 ⟨CH, dx, ia, h3, by rw [← z]; exact own_to j1 j2 (.inr (.inl rfl))⟩
    exact ⟨CH, dx, ia, h3, own_to j1 j2 (own_is (k _ _ j1 n2) (k _ _ j2 n3) o1)⟩
theorem perf_err {m : M} {op : Nat} {args : List Nat} {c : Int} (h0 : op ≠ 0) (h : Ns.deed op m args = .error c) : Ns.perform (some m) op args = .error c := by
  unfold Ns.perform
  rw [if_neg h0]
  show (match Ns.deed op m args with
      | .error c => Except.error c
      | .ok r => .ok (some r.1, r.2) : Except Int (Option M × List Int)) = .error c
  rw [h]
theorem perf_ok {m m' : M} {op : Nat} {args : List Nat} {out : List Int} (h0 : op ≠ 0) (h : Ns.deed op m args = .ok (m', out)) : Ns.perform (some m) op args = .ok (some m', out) := by
  unfold Ns.perform
  rw [if_neg h0]
  show (match Ns.deed op m args with
      | .error c => Except.error c
      | .ok r => .ok (some r.1, r.2) : Except Int (Option M × List Int)) = .ok (some m', out)
  rw [h]
theorem Fr.of (e : Ex H H') : Fr H H' ha := ⟨fun b xs h _ => e _ _ h, fun b o u h => e _ _ h⟩
end
def spCreate (CH CI C : Addr) : Sp := fun vs H Q E => ∃ (ha : Addr) (s : Option M) (n : Nat), vs = [.ref ha, iV n] ∧ HoldAt H CH CI ha s ∧ (¬ (1 ≤ n ∧ n ≤ 7) → Rz C E H (-22)) ∧
  (1 ≤ n ∧ n ≤ 7 → ∀ p H', H p = none → Fr H H' ha → HoldAt H' CH CI ha (some (M.fresh n)) → (∀ b, OwnH H' ha b → H b = none) → H' p = some (.lst [V.int 0]) → Q (.ref p) H')
def spPerf (CH CI C : Addr) : Sp := fun vs H Q E => ∃ (ha ga : Addr) (s : Option M) (op : Nat) (args : List Nat), vs = [.ref ha, iV op, .ref ga] ∧ HoldAt H CH CI ha s ∧ Ns.OkS s ∧ op < 27 ∧ H ga = some (.lst (nV args)) ∧ args.length = Ns.arity.getD op 0 ∧
  (∀ c, Ns.perform s op args = .error c → Rz C E H c) ∧ ∀ s' out, Ns.perform s op args = .ok (s', out) → ∀ p H', H p = none → Fr H H' ha → HoldAt H' CH CI ha s' → (∀ b, OwnH H' ha b → OwnH H ha b ∨ H b = none) → H' p = some (.lst (out.map V.int)) → Q (.ref p) H'
def spAnsOf (CH CI : Addr) : Sp := fun vs H Q _ => ∃ (ha ga : Addr) (s : Option M) (op : Nat) (args : List Nat), vs = [.ref ha, iV op, .ref ga] ∧ HoldAt H CH CI ha s ∧ Ns.OkS s ∧ op < 27 ∧ H ga = some (.lst (nV args)) ∧ args.length = Ns.arity.getD op 0 ∧
  ∀ p H', H p = none → Fr H H' ha → HoldAt H' CH CI ha (Ns.turn s op args).1 → (∀ b, OwnH H' ha b → OwnH H ha b ∨ H b = none) → H' p = some (.lst ((Ns.turn s op args).2.map V.int)) → Q (.ref p) H'
/-- the deed of an operation, by its number in the table at Dd -/
structure DeedOk (P : Program) (w : World) (K : PySem.W.Frag) (mg : Str → Option Value) (base : Heap) (CI C Dd : Addr) (i : Nat) : Prop where
  ex : ∃ (f : Addr) (fd : FuncData) (ps : List Str), FnOk P w K mg base (L2.CX P w) 8 f fd ps (spDeed CI C i) ∧ PySem.W.keepIn K (.ref f) = true ∧ Binds K fd ps [] ∧ KInt K Dd (i : Int) (.ref f)
section
variable {σ : L2.St} {H H' : Hp} {ta tb tc te tv tp : TE} {tr : TA} {D : Ends} {tz tu : TS} {C CI CH ha : Addr} {E : XK} {vs : List V} {Q : VK}
theorem s_rc {sp : Sp} (h : EvA tr σ H vs) (k : ∀ H1, Ex H H1 → sp vs H1 D.rt E) : tRet (tCall sp [] E tr) D σ H := h H (Ex.refl H) _ fun H1 e1 => by
  rw [List.append_nil]
  exact k H1 e1
theorem s_rcL {i : Nat} {f : Addr} {sp : Sp} (hs : σ[i]? = some (some (.ref f))) (h : EvA tr σ H vs) (k : ∀ H1, Ex H H1 → sp vs H1 D.rt E) : tRet (tCallL i f sp [] E tr) D σ H := ⟨hs, h H (Ex.refl H) _ fun H1 e1 => by
  rw [List.append_nil]
  exact k H1 e1⟩
/-- holder.held = Instance(n) -/
theorem q_fldMk {n : Nat} {s : Option M} (c : Ca K CI CH) (hh : HoldAt H CH CI ha s) (h : EvA tr σ H [iV n]) (ha' : ∀ H1, Ex H H1 → Ev ta σ H1 (.ref ha)) (h7 : n ≤ 7) (k : ∀ H1, (∀ b o, H b = some o → b ≠ ha → H1 b = some o) → HoldAt H1 CH CI ha (some (M.fresh n)) → (∀ b, OwnH H1 ha b → H b = none) → tz D σ H1) :
    tSeq (sFld K ta (tMake CI (spInit CI) [] E tr) "held") tz D σ H := by
  obtain ⟨dx, hx⟩ : ∃ dx, ∃ v, H ha = some (.ins CH dx [(("held" : Str), v)]) := by
    obtain ⟨dx, h | ⟨m, ia, pa, h1, h2, h3⟩⟩ := hh.ex
    · exact ⟨dx, _, h.2⟩
    · exact ⟨dx, _, h2⟩
  obtain ⟨v0, hx⟩ := hx
  refine h H (Ex.refl H) _ fun H1 e1 => fun x dx1 hn hnd hne => ⟨x, dx1, n, rfl, upd_same, h7, fun H2 pa kk hpa hi ow => ⟨rfl, ?_⟩⟩
  have e2 : Ex H H2 := fun b o hb => kk b o (by
    rw [upd_ne (ne_of_none (e1 _ _ hb) hn), upd_ne (ne_of_none (e1 _ _ hb) hnd)]
    exact e1 _ _ hb) (ne_of_none (e1 _ _ hb) hn)
  refine (ha' H2 e2) H2 (Ex.refl H2) _ fun H3 e3 => ⟨ha, CH, dx, _, rfl, (e2.trans e3) _ _ hx, c.ch, c.nh, by show 1 < 1000; decide, ?_⟩
  have nxa : x ≠ ha := fun z => by
    have := e1 _ _ hx
    rw [← z, hn] at this
    cases this
  have kf : ∀ b o, H3 b = some o → b ≠ ha → upd H3 ha (.ins CH dx (putF ("held" : Str) (.ref x) [(("held" : Str), v0)])) b = some o := fun b o hb hne => by
    rw [upd_ne hne]
    exact hb
  have hi3 := hi.mono e3
  have nown : ¬ Own H3 x ha := fun z => by
    have := own_ex hi e3 z
    have := ow _ this
    by_cases q : ha = x
    · exact nxa q.symm
    · by_cases q2 : ha = dx1
      · have z2 := e1 _ _ hx
        rw [q2, hnd] at z2
        cases z2
      · rw [upd_ne q, upd_ne q2, e1 _ _ hx] at this
        cases this
  have hi4 := hi3.other kf nxa nown
  refine k _ (fun b o hb hne => kf b o ((e2.trans e3) _ _ hb) hne) ⟨dx, .inr ⟨_, x, pa, rfl, upd_same, hi4⟩⟩ fun b ob => ?_
  have o1 := ownH_in (H := upd H3 ha (.ins CH dx (putF ("held" : Str) (.ref x) [(("held" : Str), v0)]))) (CH := CH) (dx := dx) (ia := x) upd_same ob
  obtain ⟨dx2, ta2, as2, j1, j2, j3, j4⟩ := hi3.full
  have nta : ta2 ≠ ha := fun z => nown (by rw [← z]; exact own_to j1 j2 (.inr (.inl rfl)))
  have o2 : Own H3 x b := own_to j1 j2 (own_is (kf _ _ j1 nxa) (kf _ _ j2 nta) o1)
  have o3 := ow _ (own_ex hi e3 o2)
  by_cases q : b = x
  · rw [q]; exact fresh_back e1 hn
  · by_cases q2 : b = dx1
    · rw [q2]; exact fresh_back e1 hnd
    · rw [upd_ne q, upd_ne q2] at o3
      exact fresh_back e1 o3
end
theorem sc_create : FnScope ["holder", "place_count"] ["holder", "place_count"] (defScope (top 88)) := ⟨rfl, rfl, rfl, by decide +kernel, rfl, by decide +kernel, by decide +kernel⟩
theorem cal_create (d : Df K mg "create" (top 88)) {CI CH C : Addr} (G : Gb mg) (c : Ca K CI CH) (cW : CalX P w K mg base 3 "want" (spWant C)) (mI : C8.Mak P w K mg base 2 "Instance" CI (spInit CI) []) : CalX P w K mg base 5 "create" (spCreate CH CI C) := by
  refine calX_of d sc_create (fun _ _ _ _ _ _ us hl => match us, hl with | [_, _], _ => rfl) (fun vs H Q E h => ?_) fun f cdv A outer s H vs Q E hr h => ?_
  · obtain ⟨ha, s0, n, rfl, _⟩ := h
    rfl
  · refine ⟨_, (pss_cons (ps_expr (pe_clX cW hr (by decide) (takes_of rfl rfl rfl rfl) (pa_cons (pe_chain op_le op_le pe_int (pv 1) (pe_g G.mostPlaces)) (pa_cons (pe_g G.notInRange) pa_nil))))
      (pss_cons (ps_fld (pv 0) (C8.pe_mk mI hr (by decide) rfl (pa_cons (pv 1) pa_nil)) rfl)
      (pss_one (ps_ret (pe_lst (pa_cons pe_int pa_nil)))))), ?_⟩
    obtain ⟨ha, s0, n, rfl, hh, kE, kO⟩ := h
    refine q_w (ev_chain (i := 1) (l := 7) ev_c (ev_var rfl) ev_c) ev_c (fun hb H1 e1 => ?_) fun hb => kE (of_decide_eq_false hb)
    have hn := of_decide_eq_true hb
    have hh1 := hh.mono e1
    refine q_fldMk c hh1 (ea1 (ev_var rfl)) (fun H2 e2 => ev_var rfl) hn.2 fun H2 k2 hh2 ow2 => ?_
    have hins : ∃ CH dx fs, H1 ha = some (.ins CH dx fs) := by
      obtain ⟨dx, h | ⟨m, ia, pa, j1, j2, j3⟩⟩ := hh1.ex
      · exact ⟨_, _, _, h.2⟩
      · exact ⟨_, _, _, j2⟩
    obtain ⟨CH0, dx0, fs0, hins⟩ := hins
    refine s_retL (el_l1 ev_c) fun p H3 hp e3 h3 => kO hn p H3 ?_ ⟨fun b xs hb _ => e3 _ _ (k2 _ _ (e1 _ _ hb) ?_), fun b o u hb => e3 _ _ (k2 _ _ (e1 _ _ hb) ?_)⟩ (hh2.mono e3) (fun b ob => fresh_back e1 (ow2 _ (ownH_ex hh2 e3 ob))) h3
    · by_cases z : p = ha
      · obtain ⟨dx, h | ⟨m, ia, pa, j1, j2, j3⟩⟩ := hh2.ex
        · rw [z, h.2] at hp; cases hp
        · rw [z, j2] at hp; cases hp
      · cases q : H p with
        | none => rfl
        | some o =>
          have := k2 _ _ (e1 _ _ q) z
          rw [hp] at this
          cases this
    · intro z
      have := e1 _ _ hb
      rw [z, hins] at this
      cases this
    · intro z
      have := e1 _ _ hb
      rw [z, hins] at this
      cases this
theorem sc_performed : FnScope ["holder", "number", "given", "deed"] ["holder", "number", "given"] (defScope (top 89)) := ⟨rfl, rfl, rfl, by decide +kernel, rfl, by decide +kernel, by decide +kernel⟩
theorem cal_performed (d : Df K mg "performed" (top 89)) {Dd : Addr} {CI CH C : Addr} (G : Gb mg) (c : Ca K CI CH) (cW : CalX P w K mg base 3 "want" (spWant C)) (cC : CalX P w K mg base 5 "create" (spCreate CH CI C)) (gD : Gc mg "DEEDS" (.ref Dd)) (dd : ∀ i, 1 ≤ i → i < 27 → DeedOk P w K mg base CI C Dd i) : CalX P w K mg base 10 "performed" (spPerf CH CI C) := by
  refine calX_of d sc_performed (fun _ _ _ _ _ _ us hl => match us, hl with | [_, _, _], _ => rfl) (fun vs H Q E h => ?_) fun f cdv A outer s H vs Q E hr h => ?_
  · obtain ⟨ha, ga, s0, op, args, rfl, _⟩ := h
    rfl
  · obtain ⟨ha, ga, s0, op, args, rfl, hh, OS, hop, hg, hl, kE, kO⟩ := h
    have main : ∀ op', 1 ≤ op' → op' < 27 → (op ≠ 0 → op' = op) → ∃ t, PSs (cxOf (L2.CX P w) P w K mg base ["holder", "number", "given", "deed"] "performed" (defScope (top 89)) f cdv A outer s H E) (defBody (top 89)) t ∧ t { nx := fun _ H' => Q .non H', rt := Q } (start ["holder", "number", "given", "deed"] [.ref ha, iV op, .ref ga]) H := fun op' ho1 ho2 ho3 => by
      obtain ⟨fd0, fdd, ps, F, kp, bd, ki⟩ := (dd op' ho1 ho2).ex
      refine ⟨_, (pss_cons (ps_if (pt_cmpR op_eq (pv 1) (pe_g G.create) (nomark _)) (pss_one (ps_ret (pe_clX cC hr (by decide) (takes_of rfl rfl rfl rfl) (pa_cons (pv 0) (pa_cons (pe_ix (kr_ix (K := K)) (pv 2) pe_int (fun _ _ => rfl)) pa_nil))))) pss_nil)
      (pss_cons (ps_expr (pe_clX cW hr (by decide) (takes_of rfl rfl rfl rfl) (pa_cons (pe_cmpR op_notN (pk_fld (K := K) (pv 0)) pe_non (nomark _)) (pa_cons (pe_g G.noInstance) pa_nil))))
      (pss_cons (ps_set (i := 3) sc_performed.nd rfl (Or.inl rfl) (pe_ix ix_kint (pe_g gD) (pv 1) (fun _ _ => rfl)))
      (pss_one (ps_ret (pe_callL (i := 3) F (hr.mono (by decide)) rfl (Or.inl rfl) kp bd .nil (passes_call (takes_of rfl rfl rfl rfl) fun _ _ _ _ h => h) (pa_cons (pk_fld (K := K) (pv 0)) (pa_cons (pv 2) pa_nil)))))))), ?_⟩
      by_cases h0 : op = 0
      · subst h0
        obtain ⟨n, rfl⟩ := l1 hl
        refine q_when (et_is (et_test (ev_op (ev_var rfl) ev_c (rv_eq rfl))) (int_dec (a := 0) (b := 0))) (fun hb H1 e1 => ?_) fun hb => absurd (of_decide_eq_false hb) (by simp)
        have pf : Ns.perform s0 0 [n] = if 1 ≤ n ∧ n ≤ 7 then .ok (some (M.fresh n), [0]) else .error (-22) := rfl
        refine s_rc (ea2 (ev_var rfl) (ev_g0 (ev_var rfl) (e1 _ _ hg))) fun H2 e2 => ⟨ha, s0, n, rfl, hh.mono (e1.trans e2), fun hn => (kE _ (by rw [pf, if_neg hn])).mono (e1.trans e2), fun hn p H3 hp fr hh3 ow h3 => ?_⟩
        rw [if_pos hn] at pf
        have e12 := e1.trans e2
        exact kO _ _ pf p H3 (fresh_back e12 hp) ⟨fun b xs hb no => fr.lst b xs (e12 _ _ hb) fun z => no (ownH_ex hh e12 z), fun b o u hb => fr.frz b o u (e12 _ _ hb)⟩ hh3 (fun b ob => .inr (fresh_back e12 (ow b ob))) h3
      · obtain rfl := ho3 h0
        refine q_when (et_is (et_test (ev_op (ev_var rfl) ev_c (rv_eq rfl))) (int_dec (a := op') (b := 0))) (fun hb => absurd (of_decide_eq_true hb) h0) fun hb H1 e1 => ?_
        have hh1 := hh.mono e1
        obtain ⟨dx, ⟨rfl, h1⟩ | ⟨m, ia, pa, rfl, h1, h2⟩⟩ := hh1.ex
        · refine q_wF (ev_op (ev_fld (v := .non) (ev_var rfl) h1 c.ch c.nh rfl) ev_c fun H2 e2 Q2 q2 => ⟨rfl, q2 H2 (Ex.refl H2)⟩) ev_c ((kE (-11) ?_).mono e1)
          unfold Ns.perform
          rw [if_neg h0]
        · refine q_wT (ev_op (ev_fld (v := .ref ia) (ev_var rfl) h1 c.ch c.nh rfl) ev_c fun H2 e2 Q2 q2 => ⟨rfl, q2 H2 (Ex.refl H2)⟩) ev_c fun H2 e2 => ?_
          have hi2 := h2.mono e2
          have e12 := e1.trans e2
          refine q_asg (v := .ref fd0) (ev_op ev_c (ev_var rfl) fun H3 e3 Q3 q3 => ⟨Dd, (op' : Int), .ref fd0, rfl, rfl, ki, q3 H3 (Ex.refl H3)⟩) fun H3 e3 => ?_
          have e13 := e12.trans e3
          have hi3 := hi2.mono e3
          refine s_rcL rfl (ea2 (ev_fld (v := .ref ia) (ev_var rfl) (e3 _ _ (e2 _ _ h1)) c.ch c.nh rfl) (ev_var rfl)) fun H4 e4 => ⟨ia, ga, pa, m, args, rfl, hi3.mono e4, OS, e4 _ _ (e13 _ _ hg), hl, fun c0 he => (kE c0 (perf_err h0 he)).mono (e13.trans e4), fun m' out he p H5 hp kp5 hi5 ow5 h5 => ?_⟩
          have e14 := e13.trans e4
          have hi4 := hi3.mono e4
          have hh4 : H4 ha = some (.ins CH dx [(("held" : Str), .ref ia)]) := e4 _ _ (e3 _ _ (e2 _ _ h1))
          have nia : ha ≠ ia := fun z => by
            obtain ⟨dx2, ta2, as2, j1, _⟩ := hi4.full
            rw [← z, hh4] at j1
            exact absurd (congrArg List.length (HO.ins.inj (Option.some.inj j1)).2.2) (by show ¬ (1 = 3); decide)
          have npa : ha ≠ pa := fun z => by
            have := hi4.pe
            rw [← z, hh4] at this
            cases this
          have hh5 := kp5 _ _ hh4 nia npa
          refine kO _ _ (perf_ok h0 he) p H5 (fresh_back e14 hp) ⟨fun b xs hb no => kp5 _ _ (e14 _ _ hb) (hi4.ne (e14 _ _ hb)) fun z => ?_, fun b o u hb => kp5 _ _ (e14 _ _ hb) (fun z => ?_) fun z => ?_⟩ ⟨dx, .inr ⟨m', ia, pa, rfl, hh5, hi5⟩⟩ (fun b ob => ?_) h5
          · exact no (ownH_ex hh e14 ⟨CH, dx, ia, hh4, by rw [z]; exact own_pa hi4⟩)
          · obtain ⟨dx2, ta2, as2, j1, _⟩ := hi4.full
            have := e14 _ _ hb
            rw [z, j1] at this
            cases this
          · have := e14 _ _ hb
            rw [z, hi4.pe] at this
            cases this
          · rcases ow5 b (ownH_in hh5 ob) with q | q
            · exact .inl (ownH_ex hh e14 ⟨CH, dx, ia, hh4, q⟩)
            · exact .inr (fresh_back e14 q)
    by_cases h0 : op = 0
    · exact main 1 (by omega) (by omega) fun z => absurd h0 z
    · exact main op (by omega) hop fun _ => rfl
end
end Nw

/-! ### 3q. The walk: all calls -/
namespace Nw
open PySem PySem.Spec PyProof.Rows L2 Evl
open Ns (Vec Mat M Res)
section
variable {P : Program} {w : World} {K : PySem.W.Frag} {mg : Str → Option Value} {base : Heap}
theorem sc_answer_of : FnScope ["holder", "number", "given", "e"] ["holder", "number", "given"] (defScope (top 90)) := ⟨rfl, rfl, rfl, by decide +kernel, rfl, by decide +kernel, by decide +kernel⟩
theorem cal_answer_of (d : Df K mg "answer_of" (top 90)) {CI CH C : Addr} (G : Gb mg) (T : Rf K mg C) (cF : CalX P w K mg base 10 "performed" (spPerf CH CI C)) : Cal P w K mg base 11 "answer_of" (spAnsOf CH CI) := by
  refine cal_of d sc_answer_of (fun _ _ _ _ _ _ us hl => match us, hl with | [_, _, _], _ => rfl) (fun vs H Q E h => ?_) fun f cdv A outer s H vs Q E hr h => ?_
  · obtain ⟨ha, ga, s0, op, args, rfl, _⟩ := h
    rfl
  · obtain ⟨fp, fdp, psp, F, hm, kp, bd⟩ := cF.ex
    refine ⟨_, pss_one (ps_try_as (i := 3) (tb := fun W => tRet (tCallS (spPerf CH CI C) (WE W) (tCons (tVar 0) (tCons (tVar 1) (tCons (tVar 2) tNil))))) (ts := fun a cls d => tRet (tLst (tCons (tXf a cls d C "code" (tVar 3)) tNil))) (Wout := fun _ _ _ _ => False)
      rfl rfl sc_answer_of.nd rfl rfl ⟨rfl, by decide, Or.inl T.gC⟩ takes0 (fun W pn xe tk _ => pss_one (ps_ret (by exact (pe_callS F hr rfl hm kp bd (fun σ => passAt tk σ) (by exact (pa_cons (pv 0) (pa_cons (pv 1) (pa_cons (pv 2) pa_nil))))))))
      (fun a oe cls d pn hz hf => pss_one (ps_ret (by exact (pe_lst (pa_cons (pe_xf T.xf T.noc hz hf (pv 3)) pa_nil)))))), ?_⟩
    obtain ⟨ha, ga, s0, op, args, rfl, hh, OS, hop, hg, hl, k⟩ := h
    refine ⟨_, rfl, _, rfl, _, rfl, ha, ga, s0, op, args, rfl, hh, OS, hop, hg, hl, fun c he d0 H1 hd e1 h1 => ⟨true, T.te, fun _ a0 ha0 => ?_, fun q => nomatch q⟩, fun s' out he p H1 hp fr hh1 ow h1 => ?_⟩
    · refine ⟨_, rfl, rfl, rfl, d0, codeF c, .int c, rfl, h1, rfl, by show 1 ≤ sizeLine; decide, fun p hp => ?_⟩
      have ht : Ns.turn s0 op args = (s0, [c]) := by
        unfold Ns.turn
        rw [he]
      have e2 : Ex H (upd H1 p (.lst [V.int c])) := e1.trans (Ex.new hp)
      refine k p _ (fresh_back e1 hp) (Fr.of e2) (by rw [ht]; exact hh.mono e2) (fun b ob => .inl (ownH_ex hh e2 ob)) (by rw [ht]; exact upd_same)
    · have ht : Ns.turn s0 op args = (s', out) := by
        unfold Ns.turn
        rw [he]
      exact k p H1 hp fr (by rw [ht]; exact hh1) ow (by rw [ht]; exact h1)
/-- a list that stands still: locked, or of the written part -/
def SqF (K : PySem.W.Frag) (H : Hp) (a : Addr) (xs : List V) : Prop := (∃ o, H a = some (.frz o (.lst xs))) ∨
  ∃ (o : Obj) (its : Array Value) (n : Nat), K.lookup a = some o ∧ o.cls = .type "list" ∧ o.dict = none ∧ o.data = .seq its n ∧ its.size ≤ sizeLine ∧ Vals xs its.toList
theorem SqF.sq {K : PySem.W.Frag} {H : Hp} {a : Addr} {xs : List V} (h : SqF K H a xs) : SqL K H a xs := by
  rcases h with ⟨o, h⟩ | h
  · exact Or.inl (Or.inr ⟨o, h⟩)
  · exact Or.inr h
theorem SqF.mv {K : PySem.W.Frag} {H H' : Hp} {a : Addr} {xs : List V} (k : ∀ b o u, H b = some (.frz o u) → H' b = some (.frz o u)) (h : SqF K H a xs) : SqF K H' a xs := by
  rcases h with ⟨o, h⟩ | h
  · exact Or.inl ⟨o, k _ _ _ h⟩
  · exact Or.inr h
def spMain (K : PySem.W.Frag) : Sp := fun vs H Q _ => ∃ (a : Addr) (ns : List Int), vs = [.ref a] ∧ SqF K H a (ns.map V.int) ∧ ns.length ≤ 160 ∧ (∀ x ∈ ns, 0 ≤ x) ∧ (∃ cs, PyFlat.calls PyKm548.shape ns.length ns = some cs) ∧
  ∀ p H', H' p = some (.lst ((PyKm548.answers ns).map V.int)) → Q (.ref p) H'
theorem cut_mid (l : List Int) {i k : Nat} (h : i + k ≤ l.length) : cutV (l.map V.int) (some (i : Int)) (some ((i + k : Nat) : Int)) = ((l.drop i).take k).map V.int := by
  unfold cutV
  rw [HT.sIx_nat, HT.sIx_nat, List.length_map, Nat.min_eq_left h, Nat.min_eq_left (show i ≤ l.length by omega), List.map_take, List.map_drop]
  congr 1
  omega
theorem ints_nat {l : List Int} (h : ∀ x ∈ l, 0 ≤ x) : l.map V.int = nV (l.map Int.toNat) := by
  unfold nV
  rw [List.map_map]
  refine List.map_congr_left fun x hx => ?_
  have := h x hx
  show V.int x = V.int ((x.toNat : Nat) : Int)
  rw [Int.toNat_of_nonneg this]
theorem ap_3L {σ : L2.St} {H : Hp} {t1 t2 te : TE} {x y : V} {xs : List V} (h1 : Ev t1 σ H x) (h2 : Ev t2 σ H y) (h : EvL te σ H xs) : EvAP (tCons t1 (tCons t2 (tCons te tNil))) σ H fun us H' => ∃ p, us = [x, y, .ref p] ∧ H' p = some (.lst xs) := fun H1 e Q q =>
  h1 H1 e _ fun H2 e2 => h2 H2 (e.trans e2) _ fun H3 e3 => h H3 ((e.trans e2).trans e3) _ fun p H4 _ e4 h4 => q _ H4 ((e2.trans e3).trans e4) ⟨p, rfl, h4⟩
theorem q_asgP {σ : L2.St} {H : Hp} {tr : TA} {D : Ends} {tz : TS} {E : XK} {i : Nat} {sp : Sp} {R : List V → Hp → Prop} (h : EvAP tr σ H R) (k : ∀ vs H1, Ex H H1 → R vs H1 → sp vs H1 (fun v H2 => tz D (σ.set i (some v)) H2) E) : tSeq (tAsg (tCall sp [] E tr) (gName i)) tz D σ H :=
  h H (Ex.refl H) _ fun vs H1 e1 hR => by rw [List.append_nil]; exact k vs H1 e1 hR
theorem sc_answers : FnScope ["calls", "holder", "found", "at", "end", "numbers"] ["calls"] (defScope (top 91)) := ⟨rfl, rfl, rfl, by decide +kernel, rfl, by decide +kernel, by decide +kernel⟩
theorem ok_answers {fa : Addr} {fd : FuncData} (Fm : Fun K "answers" "answers" (top 91) fa fd) {CI CH TA : Addr} (G : Gb mg) (c : Ca K CI CH) (mK : C8.Mak P w K mg base 1 "Holder" CH (spHinit CH) []) (cA : Cal P w K mg base 11 "answer_of" (spAnsOf CH CI))
    (gA : Gc mg "ARGUMENTS" (.ref TA)) (hA : ∀ H : Hp, SqT K H TA (nV Ns.arity)) : FnOk P w K mg base CX0 13 fa fd ["calls"] (spMain K) := by
  refine Fm.ok sc_answers (fun vs H Q E h => ?_) (fun cdv A outer s H vs Q E hr h => ?_)
  · obtain ⟨a, ns, rfl, _⟩ := h
    rfl
  · obtain ⟨fH, fdH, psH, dsH, Mk1, FH, hmH, bdH, vdH⟩ := mK.ex
    refine ⟨_, (pss_cons (ps_par (i := 1) (j := 2) rfl sc_answers.nd rfl rfl (by decide) rfl rfl (pa_cons (pe_make0 Mk1 FH (hr.mono (by decide)) rfl hmH bdH vdH pass0) (pa_cons (pe_lst pa_nil) pa_nil)) (by rfl))
      (pss_cons (ps_set (i := 3) sc_answers.nd rfl (Or.inl rfl) pe_int)
      (pss_cons (ps_while PassesOwn.never (pt_cmpR op_lt (pv 3) (pe_callB (kr_len (K := K)) rfl G.len PySem.boot_len (pa_cons (pv 0) pa_nil)) (nomark _)) (pss_cons (ps_set (i := 4) sc_answers.nd rfl (Or.inl rfl) (pe_op op_add (pe_op op_add (pv 3) pe_int) (pe_ix ix_tup (pe_g gA) (pe_ix (kr_ix (K := K)) (pv 0) (pv 3) (fun _ _ => rfl)) (fun _ _ => rfl))))
      (pss_cons (ps_set (i := 5) sc_answers.nd rfl (Or.inl rfl) (pe_cl cA hr (by decide) (pa_cons (pv 1) (pa_cons (pe_ix (kr_ix (K := K)) (pv 0) (pv 3) (fun _ _ => rfl)) (pa_cons (pe_slice sl_list (pv 0) (po_some (pe_op op_add (pv 3) pe_int)) (po_some (pv 4))) pa_nil)))))
      (pss_cons (ps_expr (pe_bm PySem.F.plainAttrs_list PySem.F.slot_list_append PySem.F.type_list_append mt_append (pv 2) (pa_cons (pe_callB (kr_len (K := K)) rfl G.len PySem.boot_len (pa_cons (pv 5) pa_nil)) pa_nil)))
      (pss_cons (ps_expr (pe_bm PySem.F.plainAttrs_list PySem.F.slot_list_extend PySem.F.type_list_extend mt_extend (pv 2) (pa_cons (pv 5) pa_nil)))
      (pss_one (ps_set (i := 3) sc_answers.nd rfl (Or.inl rfl) (pv 4))))))))
      (pss_one (ps_ret (pv 2)))))), ?_⟩
    obtain ⟨a, ns, rfl, hS, h160, hnn, ⟨cs, hcs⟩, kQ⟩ := h
    have han := Ns.answers_is hcs
    refine fun x dx hx hdx hne => ⟨x, dx, rfl, upd_same, fun H1 k1 h1 => ⟨rfl, by show 0 ≤ sizeLine; decide, fun fo hfo => ⟨_, _, rfl, ?_⟩⟩⟩
    have fx : ∀ b o u, H b = some (.frz o u) → upd H1 fo (.lst []) b = some (.frz o u) := fun b o u hb => by
      have n1 := ne_of_none hb hx
      have n2 := ne_of_none hb hdx
      have q : H1 b = some (.frz o u) := k1 _ _ (by rw [upd_ne n1, upd_ne n2]; exact hb) n1
      rw [upd_ne (ne_of_none q hfo)]
      exact q
    have nxf : x ≠ fo := ne_of_none h1 hfo
    have hh0 : HoldAt (upd H1 fo (.lst [])) CH CI x none := ⟨dx, .inl ⟨rfl, by rw [upd_ne nxf]; exact h1⟩⟩
    have no0 : ¬ OwnH (upd H1 fo (.lst [])) x fo := fun z => by
      obtain ⟨CH0, dx0, ia0, z1, _⟩ := z
      rw [upd_ne nxf, h1] at z1
      exact held_non z1.symm
    refine q_asg (v := iV 0) ev_c fun H2 e2 => ?_
    refine q_while (fun m σ' H' => ∃ (i : Nat) (found : List Int) (s0 : Option M) (f : Nat) (cs' : List (List (List Int))) (v4 v5 : Option V), m = ns.length - i ∧ i ≤ ns.length ∧ σ' = [some (.ref a), some (.ref x), some (.ref fo), some (iV i), v4, v5] ∧
        HoldAt H' CH CI x s0 ∧ Ns.OkS s0 ∧ H' fo = some (.lst (found.map V.int)) ∧ ¬ OwnH H' x fo ∧ SqF K H' a (ns.map V.int) ∧ PyFlat.calls PyKm548.shape f (ns.drop i) = some cs' ∧ found ++ PyFlat.told (Ns.playM s0 cs') = PyKm548.answers ns ∧ found.length ≤ 60 * i) ns.length
      ⟨0, [], none, ns.length, cs, none, none, rfl, Nat.zero_le _, rfl, hh0.mono e2, True.intro, e2 _ _ upd_same, fun z => no0 (ownH_ex hh0 e2 z), hS.mv fun b o u hb => e2 _ _ (fx b o u hb), hcs, by rw [List.nil_append]; exact han.symm, by show 0 ≤ _; omega⟩ ?_
    rintro m σ' H' ⟨i, found, s0, f, cs', v4, v5, rfl, hi, rfl, hh, OS, hf, no, hS', hcs', hfd, hlen⟩
    refine ⟨decide (i < ns.length), et_is (et_test (ev_op (ev_var rfl) (ev_len (ev_var rfl) hS'.sq) rv_I0)) (decide_eq_decide.mpr (by rw [List.length_map]; omega)), fun hb H3 e3 => ?_, fun hb H3 e3 => ?_⟩
    · have hlt := of_decide_eq_true hb
      have hdrop : ns.drop i = ns[i] :: ns.drop (i + 1) := List.drop_eq_getElem_cons hlt
      rw [hdrop] at hcs'
      obtain ⟨f', k, cs2, hsh, hk, rfl, hcs2⟩ := Ns.calls_cons hcs'
      obtain ⟨_, op, hop, h27, har⟩ := Ns.shape_is hsh
      have hkl : i + 1 + k ≤ ns.length := by
        rw [List.length_drop] at hk
        omega
      have hat : (ns.map V.int)[i]? = some (iV op) := by
        rw [List.getElem?_map, List.getElem?_eq_getElem hlt, hop]
        rfl
      have harg : Ns.arity[op]? = some k := by
        have h27' : op < Ns.arity.length := h27
        rw [List.getElem?_eq_getElem h27', ← har, List.getD_eq_getElem?_getD, List.getElem?_eq_getElem h27']
        rfl
      have hxs : ∀ y ∈ (ns.drop (i + 1)).take k, 0 ≤ y := fun y hy => hnn y (List.mem_of_mem_drop (List.mem_of_mem_take hy))
      refine ⟨fun σ2 H9 => ∃ m', m' < ns.length - i ∧ (∃ (i : Nat) (found : List Int) (s0 : Option M) (f : Nat) (cs' : List (List (List Int))) (v4 v5 : Option V), m' = ns.length - i ∧ i ≤ ns.length ∧ σ2 = [some (.ref a), some (.ref x), some (.ref fo), some (iV i), v4, v5] ∧
        HoldAt H9 CH CI x s0 ∧ Ns.OkS s0 ∧ H9 fo = some (.lst (found.map V.int)) ∧ ¬ OwnH H9 x fo ∧ SqF K H9 a (ns.map V.int) ∧ PyFlat.calls PyKm548.shape f (ns.drop i) = some cs' ∧ found ++ PyFlat.told (Ns.playM s0 cs') = PyKm548.answers ns ∧ found.length ≤ 60 * i), fun σ2 H9 h9 => h9, ?_⟩
      have S3 : SqL K H3 a (ns.map V.int) := ex_l e3 hS'.sq
      refine q_asg (v := iV (i + 1 + k)) (ev_is (ev_op (ev_op (ev_var rfl) ev_c rv_I0) (ev_op ev_c (ev_op (ev_var rfl) (ev_var rfl) (rv_ixL S3 (atI_nat hat))) (rv_ixT (hA H3) (nV_at harg))) rv_I0) (congrArg V.int (by omega))) fun H4 e4 => ?_
      have S4 := ex_l e4 S3
      refine q_asgP (ap_3L (ev_var rfl) (ev_op (ev_var rfl) (ev_var rfl) (rv_ixL S4 (atI_nat hat))) (el_is (el_sl (lo := some ((i + 1 : Nat) : Int)) (hi := some ((i + 1 + k : Nat) : Int)) (ev_var rfl) (eo_some (ev_op (ev_var rfl) ev_c rv_I0)) (eo_some (ev_var rfl)) S4) (cut_mid ns hkl))) fun vs H5 e5 ⟨ga, hv, hga⟩ => ?_
      have e35 := (e3.trans e4).trans e5
      have hh5 := hh.mono e35
      refine ⟨x, ga, s0, op, ((ns.drop (i + 1)).take k).map Int.toNat, hv, hh5, OS, h27, by rw [hga, ints_nat hxs], by rw [List.length_map, List.length_take, Nat.min_eq_left hk, har], fun p H6 hp fr hh6 ow h6 => ?_⟩
      have hf5 : H5 fo = some (.lst (found.map V.int)) := e35 _ _ hf
      have no5 : ¬ OwnH H5 x fo := fun z => no (ownH_ex hh e35 z)
      have hf6 := fr.lst _ _ hf5 no5
      have no6 : ¬ OwnH H6 x fo := fun z => by
        rcases ow _ z with q | q
        · exact no5 q
        · rw [hf5] at q; cases q
      have npf : p ≠ fo := fun z => by rw [z, hf5] at hp; cases hp
      have ol := Ns.turn_len OS op (((ns.drop (i + 1)).take k).map Int.toNat)
      have ok := Ns.turn_ok OS op (((ns.drop (i + 1)).take k).map Int.toNat)
      have ht : Ns.turnI s0 ns[i] ((ns.drop (i + 1)).take k) = Ns.turn s0 op (((ns.drop (i + 1)).take k).map Int.toNat) := by
        unfold Ns.turnI
        rw [hop, Int.toNat_natCast]
      refine q_app (l := fo) (v := iV ((Ns.turn s0 op (((ns.drop (i + 1)).take k).map Int.toNat)).2.length)) hf6 (ev_var rfl) (ev_is (ev_len (ev_var rfl) (sq_of h6)) (by rw [List.length_map])) (by rw [List.length_map]; omega) fun H7 e7 => ?_
      have h7 : upd H7 fo (.lst (found.map V.int ++ [iV ((Ns.turn s0 op (((ns.drop (i + 1)).take k).map Int.toNat)).2.length)])) p = some (.lst ((Ns.turn s0 op (((ns.drop (i + 1)).take k).map Int.toNat)).2.map V.int)) := by
        rw [upd_ne npf]
        exact e7 _ _ h6
      refine q_extV (l := fo) (b := p) upd_same h7 (ev_var rfl) (ev_var rfl) (by rw [List.length_append, List.length_map, List.length_map]; show found.length + 1 + _ ≤ _; omega) fun H8 e8 => ?_
      refine s_asg (v := iV (i + 1 + k)) (ev_var rfl) fun H9 e9 => ?_
      have kx : ∀ b o, H6 b = some o → b ≠ fo → H9 b = some o := fun b o hb hn => e9 _ _ (by
        rw [upd_ne hn]
        exact e8 _ _ (by
          rw [upd_ne hn]
          exact e7 _ _ hb))
      have naf : ∀ b o u, H6 b = some (.frz o u) → b ≠ fo := fun b o u hb z => by rw [z, hf6] at hb; cases hb
      refine ⟨ns.length - (i + 1 + k), by omega, i + 1 + k, found ++ ((((Ns.turn s0 op (((ns.drop (i + 1)).take k).map Int.toNat)).2.length : Nat) : Int) :: (Ns.turn s0 op (((ns.drop (i + 1)).take k).map Int.toNat)).2), _, f', cs2, some (iV (i + 1 + k)), some (.ref p), rfl, hkl, rfl,
        hh6.other kx hf6 no6, ok, e9 _ _ ?_, fun z => no6 (ownH_other hh6 kx hf6 no6 z), hS'.mv fun b o u hb => ?_, ?_, ?_, ?_⟩
      · rw [upd_same, List.map_append, List.map_cons, List.append_assoc]
        rfl
      · have q6 := fr.frz _ _ _ (e35 _ _ hb)
        exact kx _ _ q6 (naf _ _ _ q6)
      · rw [List.drop_drop] at hcs2
        exact hcs2
      · rw [← hfd, List.append_assoc]
        show found ++ _ = found ++ PyFlat.told ((Ns.turnI s0 ns[i] ((ns.drop (i + 1)).take k)).2 :: Ns.playM (Ns.turnI s0 ns[i] ((ns.drop (i + 1)).take k)).1 cs2)
        rw [ht]
        unfold PyFlat.told
        rw [List.flatMap_cons]
      · rw [List.length_append, List.length_cons]
        omega
    · have hge := of_decide_eq_false hb
      have hil : i = ns.length := by omega
      subst hil
      rw [List.drop_length] at hcs'
      obtain rfl := Ns.calls_nil hcs'
      have hfa : found = PyKm548.answers ns := by
        rw [← hfd]
        show found = found ++ []
        rw [List.append_nil]
      exact s_ret (ev_var rfl) fun H4 e4 => kQ fo H4 (by rw [← hfa]; exact e4 _ _ (e3 _ _ hf))
end
end Nw

/-! ### 3r. All defs together -/
namespace Nw
open PySem PySem.Spec PyProof.Rows L2 Evl
open Ns (Vec Mat M Res)
structure Tp (K : PySem.W.Frag) (mg : Str → Option Value) : Prop where
  no_roads : Df K mg "no_roads" (top 2)
  times_with : Df K mg "times_with" (top 3)
  road_count : Df K mg "road_count" (top 4)
  direct_distance : Df K mg "direct_distance" (top 5)
  direct_row : Df K mg "direct_row" (top 6)
  direct_rows : Df K mg "direct_rows" (top 7)
  row_through : Df K mg "row_through" (top 8)
  distance_rows : Df K mg "distance_rows" (top 9)
  is_connected : Df K mg "is_connected" (top 10)
  has : Df K mg "has" (top 15)
  with_place : Df K mg "with_place" (top 16)
  without_place : Df K mg "without_place" (top 17)
  members : Df K mg "members" (top 18)
  groups_of : Df K mg "groups_of" (top 19)
  first_with_least : Df K mg "first_with_least" (top 20)
  store_distance : Df K mg "store_distance" (top 23)
  nearest_store : Df K mg "nearest_store" (top 24)
  greatest_distance : Df K mg "greatest_distance" (top 25)
  total_distance : Df K mg "total_distance" (top 26)
  distance_after_loss : Df K mg "distance_after_loss" (top 27)
  people_of_store : Df K mg "people_of_store" (top 28)
  places_within : Df K mg "places_within" (top 29)
  best_centers : Df K mg "best_centers" (top 31)
  best_medians : Df K mg "best_medians" (top 32)
  best_robust_centers : Df K mg "best_robust_centers" (top 33)
  is_cover : Df K mg "is_cover" (top 34)
  smallest_cover : Df K mg "smallest_cover" (top 35)
  farthest : Df K mg "farthest" (top 36)
  farthest_first : Df K mg "farthest_first" (top 37)
  best_additional_store : Df K mg "best_additional_store" (top 38)
  want : Df K mg "want" (top 48)
  defined : Df K mg "defined" (top 52)
  told : Df K mg "told" (top 53)
  want_road : Df K mg "want_road" (top 54)
  want_size : Df K mg "want_size" (top 55)
  set_people : Df K mg "set_people" (top 56)
  set_road : Df K mg "set_road" (top 57)
  set_store : Df K mg "set_store" (top 58)
  ask_distance : Df K mg "ask_distance" (top 59)
  ask_matrix : Df K mg "ask_matrix" (top 60)
  ask_connected : Df K mg "ask_connected" (top 61)
  ask_store_distance : Df K mg "ask_store_distance" (top 62)
  ask_nearest : Df K mg "ask_nearest" (top 63)
  ask_greatest : Df K mg "ask_greatest" (top 64)
  ask_total : Df K mg "ask_total" (top 65)
  ask_people_per_store : Df K mg "ask_people_per_store" (top 66)
  ask_without : Df K mg "ask_without" (top 67)
  ask_after_loss : Df K mg "ask_after_loss" (top 68)
  ask_centers : Df K mg "ask_centers" (top 69)
  ask_medians : Df K mg "ask_medians" (top 70)
  ask_robust_centers : Df K mg "ask_robust_centers" (top 71)
  ask_cover : Df K mg "ask_cover" (top 72)
  ask_farthest_first : Df K mg "ask_farthest_first" (top 73)
  set_stores : Df K mg "set_stores" (top 74)
  use_centers : Df K mg "use_centers" (top 75)
  use_medians : Df K mg "use_medians" (top 76)
  use_robust_centers : Df K mg "use_robust_centers" (top 77)
  ask_with : Df K mg "ask_with" (top 78)
  ask_additional : Df K mg "ask_additional" (top 79)
  ask_with_road : Df K mg "ask_with_road" (top 80)
  ask_within : Df K mg "ask_within" (top 81)
  ask_summary : Df K mg "ask_summary" (top 82)
  create : Df K mg "create" (top 88)
  performed : Df K mg "performed" (top 89)
  answer_of : Df K mg "answer_of" (top 90)
/-- the classes -/
structure Tc (K : PySem.W.Frag) (mg : Str → Option Value) (CI CH : Addr) : Prop where
  ca : Ca K CI CH
  inst : Di K mg "Instance" CI "Instance.__init__" (inClass (top 12) 0)
  hold : Di K mg "Holder" CH "Holder.__init__" (inClass (top 13) 0)
  place_count : Dm K CI "place_count" "Instance.place_count" (inClass (top 12) 1)
  has_place : Dm K CI "has_place" "Instance.has_place" (inClass (top 12) 2)
  rows : Dm K CI "rows" "Instance.rows" (inClass (top 12) 3)
/-- the table of deeds -/
def deedName : List Str := ["", "set_people", "set_road", "set_store", "ask_distance", "ask_matrix", "ask_connected", "ask_store_distance", "ask_nearest", "ask_greatest", "ask_total", "ask_people_per_store", "ask_without", "ask_after_loss", "ask_centers", "ask_medians", "ask_robust_centers", "ask_cover", "ask_farthest_first", "use_centers", "use_medians", "use_robust_centers", "ask_with", "ask_additional", "ask_with_road", "ask_within", "ask_summary"]
structure Td (K : PySem.W.Frag) (mg : Str → Option Value) (Dd : Addr) : Prop where
  g : Gc mg "DEEDS" (.ref Dd)
  d1 : ∃ f, mg "set_people" = some (.ref f) ∧ KInt K Dd ((1 : Nat) : Int) (.ref f)
  d2 : ∃ f, mg "set_road" = some (.ref f) ∧ KInt K Dd ((2 : Nat) : Int) (.ref f)
  d3 : ∃ f, mg "set_store" = some (.ref f) ∧ KInt K Dd ((3 : Nat) : Int) (.ref f)
  d4 : ∃ f, mg "ask_distance" = some (.ref f) ∧ KInt K Dd ((4 : Nat) : Int) (.ref f)
  d5 : ∃ f, mg "ask_matrix" = some (.ref f) ∧ KInt K Dd ((5 : Nat) : Int) (.ref f)
  d6 : ∃ f, mg "ask_connected" = some (.ref f) ∧ KInt K Dd ((6 : Nat) : Int) (.ref f)
  d7 : ∃ f, mg "ask_store_distance" = some (.ref f) ∧ KInt K Dd ((7 : Nat) : Int) (.ref f)
  d8 : ∃ f, mg "ask_nearest" = some (.ref f) ∧ KInt K Dd ((8 : Nat) : Int) (.ref f)
  d9 : ∃ f, mg "ask_greatest" = some (.ref f) ∧ KInt K Dd ((9 : Nat) : Int) (.ref f)
  d10 : ∃ f, mg "ask_total" = some (.ref f) ∧ KInt K Dd ((10 : Nat) : Int) (.ref f)
  d11 : ∃ f, mg "ask_people_per_store" = some (.ref f) ∧ KInt K Dd ((11 : Nat) : Int) (.ref f)
  d12 : ∃ f, mg "ask_without" = some (.ref f) ∧ KInt K Dd ((12 : Nat) : Int) (.ref f)
  d13 : ∃ f, mg "ask_after_loss" = some (.ref f) ∧ KInt K Dd ((13 : Nat) : Int) (.ref f)
  d14 : ∃ f, mg "ask_centers" = some (.ref f) ∧ KInt K Dd ((14 : Nat) : Int) (.ref f)
  d15 : ∃ f, mg "ask_medians" = some (.ref f) ∧ KInt K Dd ((15 : Nat) : Int) (.ref f)
  d16 : ∃ f, mg "ask_robust_centers" = some (.ref f) ∧ KInt K Dd ((16 : Nat) : Int) (.ref f)
  d17 : ∃ f, mg "ask_cover" = some (.ref f) ∧ KInt K Dd ((17 : Nat) : Int) (.ref f)
  d18 : ∃ f, mg "ask_farthest_first" = some (.ref f) ∧ KInt K Dd ((18 : Nat) : Int) (.ref f)
  d19 : ∃ f, mg "use_centers" = some (.ref f) ∧ KInt K Dd ((19 : Nat) : Int) (.ref f)
  d20 : ∃ f, mg "use_medians" = some (.ref f) ∧ KInt K Dd ((20 : Nat) : Int) (.ref f)
  d21 : ∃ f, mg "use_robust_centers" = some (.ref f) ∧ KInt K Dd ((21 : Nat) : Int) (.ref f)
  d22 : ∃ f, mg "ask_with" = some (.ref f) ∧ KInt K Dd ((22 : Nat) : Int) (.ref f)
  d23 : ∃ f, mg "ask_additional" = some (.ref f) ∧ KInt K Dd ((23 : Nat) : Int) (.ref f)
  d24 : ∃ f, mg "ask_with_road" = some (.ref f) ∧ KInt K Dd ((24 : Nat) : Int) (.ref f)
  d25 : ∃ f, mg "ask_within" = some (.ref f) ∧ KInt K Dd ((25 : Nat) : Int) (.ref f)
  d26 : ∃ f, mg "ask_summary" = some (.ref f) ∧ KInt K Dd ((26 : Nat) : Int) (.ref f)
structure Ta (K : PySem.W.Frag) (mg : Str → Option Value) (TA : Addr) : Prop where
  g : Gc mg "ARGUMENTS" (.ref TA)
  t : ∀ H : Hp, SqT K H TA (nV Ns.arity)
section
variable {P : Program} {w : World} {K : PySem.W.Frag} {mg : Str → Option Value} {base : Heap}
theorem deed_mk {CI C Dd : Addr} {x : Str} {i k : Nat} (cX : CalX P w K mg base k x (spDeed CI C i)) (hk : k ≤ 8) (h : ∃ f, mg x = some (.ref f) ∧ KInt K Dd (i : Int) (.ref f)) : DeedOk P w K mg base CI C Dd i := by
  obtain ⟨f, fd, ps, F, hm, kp, b⟩ := cX.ex
  obtain ⟨f', hm', ki⟩ := h
  rw [hm] at hm'
  obtain rfl := Value.ref.inj (Option.some.inj hm')
  exact ⟨f, fd, ps, F.mono hk, kp, b, ki⟩
theorem read_deed {CI C : Addr} {x : Str} {i k : Nat} (cX : CalX P w K mg base k x (spRead CI C i)) (ro : ∀ (m m' : M) (args : List Nat) (out : List Int), Ns.deed i m args = .ok (m', out) → m' = m) : CalX P w K mg base k x (spDeed CI C i) := by
  obtain ⟨f, fd, ps, F, hm, kp, b⟩ := cX.ex
  exact ⟨f, fd, ps, F.imp (deed_of_read ro), hm, kp, b⟩
/-! what only reads leaves the state -/
def ROk (m : M) (r : Res) : Prop := ∀ x, r = .ok x → x.1 = m
theorem ro_err {m : M} {c : Int} : ROk m (.error c) := fun _ h => by cases h
theorem ro_ok {m : M} {out : List Int} : ROk m (.ok (m, out)) := fun x h => by
  cases h
  rfl
theorem ro_if {m : M} {c : Prop} [Decidable c] {a b : Res} (h1 : ROk m a) (h2 : ROk m b) : ROk m (if c then a else b) := by
  by_cases h : c
  · rw [if_pos h]; exact h1
  · rw [if_neg h]; exact h2
theorem ro_defd {m : M} {x : Nat} : ROk m (Ns.defd m x) := ro_if ro_ok ro_err
theorem ro_place {m : M} {p : Nat} {r : Res} (h : ROk m r) : ROk m (Ns.placeOk m p r) := ro_if h ro_err
theorem ro_road {m : M} {a b v : Nat} {r : Res} (h : ROk m r) : ROk m (Ns.roadOk m a b v r) := ro_if (ro_if h ro_err) ro_err
theorem ro_sized {m : M} {lo k : Nat} {r : Res} (h : ROk m r) : ROk m (Ns.sized m lo k r) := ro_if (ro_if h ro_err) ro_err
theorem ro_4 (m m' : M) (args : List Nat) (out : List Int) (h : Ns.deed 4 m args = .ok (m', out)) : m' = m := by
  have key : ROk m (Ns.dDist m args) := by
    unfold Ns.dDist
    split
    · exact ro_if ro_defd ro_err
    · exact ro_err
  exact key _ h
theorem ro_5 (m m' : M) (args : List Nat) (out : List Int) (h : Ns.deed 5 m args = .ok (m', out)) : m' = m := by
  have key : ROk m (Ns.dMatrix m args) := by
    unfold Ns.dMatrix
    split
    · exact ro_ok
    · exact ro_err
  exact key _ h
theorem ro_6 (m m' : M) (args : List Nat) (out : List Int) (h : Ns.deed 6 m args = .ok (m', out)) : m' = m := by
  have key : ROk m (Ns.dConn m args) := by
    unfold Ns.dConn
    split
    · exact ro_ok
    · exact ro_err
  exact key _ h
theorem ro_7 (m m' : M) (args : List Nat) (out : List Int) (h : Ns.deed 7 m args = .ok (m', out)) : m' = m := by
  have key : ROk m (Ns.dSd m args) := by
    unfold Ns.dSd
    split
    · exact ro_place ro_defd
    · exact ro_err
  exact key _ h
theorem ro_8 (m m' : M) (args : List Nat) (out : List Int) (h : Ns.deed 8 m args = .ok (m', out)) : m' = m := by
  have key : ROk m (Ns.dNear m args) := by
    unfold Ns.dNear
    split
    · exact ro_place (ro_if ro_err ro_ok)
    · exact ro_err
  exact key _ h
theorem ro_9 (m m' : M) (args : List Nat) (out : List Int) (h : Ns.deed 9 m args = .ok (m', out)) : m' = m := by
  have key : ROk m (Ns.dGreatest m args) := by
    unfold Ns.dGreatest
    split
    · exact ro_defd
    · exact ro_err
  exact key _ h
theorem ro_10 (m m' : M) (args : List Nat) (out : List Int) (h : Ns.deed 10 m args = .ok (m', out)) : m' = m := by
  have key : ROk m (Ns.dTotal m args) := by
    unfold Ns.dTotal
    split
    · exact ro_if ro_ok ro_err
    · exact ro_err
  exact key _ h
theorem ro_11 (m m' : M) (args : List Nat) (out : List Int) (h : Ns.deed 11 m args = .ok (m', out)) : m' = m := by
  have key : ROk m (Ns.dPps m args) := by
    unfold Ns.dPps
    split
    · exact ro_ok
    · exact ro_err
  exact key _ h
theorem ro_12 (m m' : M) (args : List Nat) (out : List Int) (h : Ns.deed 12 m args = .ok (m', out)) : m' = m := by
  have key : ROk m (Ns.dWithout m args) := by
    unfold Ns.dWithout
    split
    · exact ro_place (ro_if ro_defd ro_err)
    · exact ro_err
  exact key _ h
theorem ro_13 (m m' : M) (args : List Nat) (out : List Int) (h : Ns.deed 13 m args = .ok (m', out)) : m' = m := by
  have key : ROk m (Ns.dLoss m args) := by
    unfold Ns.dLoss
    split
    · exact ro_if ro_err ro_defd
    · exact ro_err
  exact key _ h
theorem ro_14 (m m' : M) (args : List Nat) (out : List Int) (h : Ns.deed 14 m args = .ok (m', out)) : m' = m := by
  have key : ROk m (Ns.dCenters m args) := by
    unfold Ns.dCenters
    split
    · exact ro_sized ro_ok
    · exact ro_err
  exact key _ h
theorem ro_15 (m m' : M) (args : List Nat) (out : List Int) (h : Ns.deed 15 m args = .ok (m', out)) : m' = m := by
  have key : ROk m (Ns.dMedians m args) := by
    unfold Ns.dMedians
    split
    · exact ro_sized ro_ok
    · exact ro_err
  exact key _ h
theorem ro_16 (m m' : M) (args : List Nat) (out : List Int) (h : Ns.deed 16 m args = .ok (m', out)) : m' = m := by
  have key : ROk m (Ns.dRobust m args) := by
    unfold Ns.dRobust
    split
    · exact ro_sized ro_ok
    · exact ro_err
  exact key _ h
theorem ro_17 (m m' : M) (args : List Nat) (out : List Int) (h : Ns.deed 17 m args = .ok (m', out)) : m' = m := by
  have key : ROk m (Ns.dCover m args) := by
    unfold Ns.dCover
    split
    · exact ro_ok
    · exact ro_err
  exact key _ h
theorem ro_18 (m m' : M) (args : List Nat) (out : List Int) (h : Ns.deed 18 m args = .ok (m', out)) : m' = m := by
  have key : ROk m (Ns.dFf m args) := by
    unfold Ns.dFf
    split
    · exact ro_sized ro_ok
    · exact ro_err
  exact key _ h
theorem ro_22 (m m' : M) (args : List Nat) (out : List Int) (h : Ns.deed 22 m args = .ok (m', out)) : m' = m := by
  have key : ROk m (Ns.dWith m args) := by
    unfold Ns.dWith
    split
    · exact ro_place (ro_if ro_err ro_defd)
    · exact ro_err
  exact key _ h
theorem ro_23 (m m' : M) (args : List Nat) (out : List Int) (h : Ns.deed 23 m args = .ok (m', out)) : m' = m := by
  have key : ROk m (Ns.dAdd m args) := by
    unfold Ns.dAdd
    split
    · exact ro_if ro_ok ro_err
    · exact ro_err
  exact key _ h
theorem ro_24 (m m' : M) (args : List Nat) (out : List Int) (h : Ns.deed 24 m args = .ok (m', out)) : m' = m := by
  have key : ROk m (Ns.dWithRoad m args) := by
    unfold Ns.dWithRoad
    split
    · exact ro_road ro_defd
    · exact ro_err
  exact key _ h
theorem ro_25 (m m' : M) (args : List Nat) (out : List Int) (h : Ns.deed 25 m args = .ok (m', out)) : m' = m := by
  have key : ROk m (Ns.dWithin m args) := by
    unfold Ns.dWithin
    split
    · exact ro_ok
    · exact ro_err
  exact key _ h
theorem ro_26 (m m' : M) (args : List Nat) (out : List Int) (h : Ns.deed 26 m args = .ok (m', out)) : m' = m := by
  have key : ROk m (Ns.dSummary m args) := by
    unfold Ns.dSummary
    split
    · exact ro_ok
    · exact ro_err
  exact key _ h
theorem all_ok {fa : Addr} {fd : FuncData} {CI CH CR Dd TA : Addr} (Fm : Fun K "answers" "answers" (top 91) fa fd) (G : Gb mg) (D : Tp K mg) (c : Tc K mg CI CH) (T : Rf K mg CR) (t : Td K mg Dd) (u : Ta K mg TA) : FnOk P w K mg base CX0 13 fa fd ["calls"] (spMain K) := by
  have c_no_roads : Cal P w K mg base 1 "no_roads" spNoRoads := cal_no_roads D.no_roads G
  have mI : C8.Mak P w K mg base 2 "Instance" CI (spInit CI) [] := mak_inst c.ca c.inst G c_no_roads
  have mK : C8.Mak P w K mg base 1 "Holder" CH (spHinit CH) [] := mak_hold c.ca c.hold
  have c_times_with : Cal P w K mg base 1 "times_with" spTimesWith := cal_times_with D.times_with G
  have c_road_count : Cal P w K mg base 1 "road_count" spRoads := cal_road_count D.road_count G
  have c_direct_distance : Cal P w K mg base 1 "direct_distance" spDirectD := cal_direct_distance D.direct_distance G
  have c_direct_row : Cal P w K mg base 2 "direct_row" spDirectRow := cal_direct_row D.direct_row G c_direct_distance
  have c_direct_rows : Cal P w K mg base 3 "direct_rows" spDirectRows := cal_direct_rows D.direct_rows G c_direct_row
  have c_row_through : Cal P w K mg base 1 "row_through" spRowThrough := cal_row_through D.row_through G
  have c_distance_rows : Cal P w K mg base 4 "distance_rows" spDistRows := cal_distance_rows D.distance_rows G c_direct_rows c_row_through
  have mP : C8.Met P w K mg base 1 CI "place_count" (spPc CI) [] := met_pc c.ca c.place_count G
  have mH : C8.Met P w K mg base 1 CI "has_place" (spHp CI) [] := met_hp c.ca c.has_place G
  have mR : C8.Met P w K mg base 5 CI "rows" (spRows CI) [] := met_rows c.ca c.rows G c_distance_rows
  have c_is_connected : Cal P w K mg base 1 "is_connected" spConn := cal_is_connected D.is_connected G
  have c_has : Cal P w K mg base 1 "has" spHas := cal_has D.has 
  have c_with_place : Cal P w K mg base 1 "with_place" spWith := cal_with_place D.with_place 
  have c_without_place : Cal P w K mg base 1 "without_place" spWithout := cal_without_place D.without_place 
  have c_members : Cal P w K mg base 2 "members" spMembers := cal_members D.members G c_has
  have c_groups_of : Cal P w K mg base 3 "groups_of" spGroups := cal_groups_of D.groups_of G c_members
  have c_first_with_least : Cal P w K mg base 1 "first_with_least" (spFwl K) := cal_first_with_least D.first_with_least G
  have c_store_distance : Cal P w K mg base 3 "store_distance" spSd := cal_store_distance D.store_distance G c_members
  have c_nearest_store : Cal P w K mg base 4 "nearest_store" spNear := cal_nearest_store D.nearest_store G c_members c_store_distance
  have c_greatest_distance : Cal P w K mg base 4 "greatest_distance" spGd := cal_greatest_distance D.greatest_distance G c_store_distance
  have c_total_distance : Cal P w K mg base 4 "total_distance" spTd := cal_total_distance D.total_distance G c_store_distance
  have c_distance_after_loss : Cal P w K mg base 5 "distance_after_loss" spLoss := cal_distance_after_loss D.distance_after_loss G c_members c_without_place c_greatest_distance
  have c_people_of_store : Cal P w K mg base 5 "people_of_store" spPos := cal_people_of_store D.people_of_store G c_nearest_store
  have c_places_within : Cal P w K mg base 4 "places_within" spWithin := cal_places_within D.places_within G c_store_distance
  have c_best_centers : Cal P w K mg base 5 "best_centers" spBestC := cal_best_centers D.best_centers G c_first_with_least c_groups_of c_greatest_distance
  have c_best_medians : Cal P w K mg base 5 "best_medians" spBestM := cal_best_medians D.best_medians G c_first_with_least c_groups_of c_total_distance
  have c_best_robust_centers : Cal P w K mg base 6 "best_robust_centers" spBestR := cal_best_robust_centers D.best_robust_centers G c_first_with_least c_groups_of c_distance_after_loss
  have c_is_cover : Cal P w K mg base 5 "is_cover" spCover := cal_is_cover D.is_cover G c_greatest_distance
  have c_smallest_cover : Cal P w K mg base 6 "smallest_cover" spSmall := cal_smallest_cover D.smallest_cover G c_groups_of c_is_cover
  have c_farthest : Cal P w K mg base 4 "farthest" (spFar K) := cal_farthest D.farthest G c_has c_first_with_least c_store_distance
  have c_farthest_first : Cal P w K mg base 5 "farthest_first" spFf := cal_farthest_first D.farthest_first G c_with_place c_farthest
  have c_best_additional_store : Cal P w K mg base 5 "best_additional_store" spAddl := cal_best_additional_store D.best_additional_store G c_has c_with_place c_first_with_least c_greatest_distance
  have c_want : CalX P w K mg base 3 "want" (spWant CR) := cal_want D.want T G
  have c_defined : CalX P w K mg base 4 "defined" (spDefined CR) := cal_defined D.defined G c_want
  have c_told : Cal P w K mg base 1 "told" spTold := cal_told D.told G
  have c_want_road : CalX P w K mg base 4 "want_road" (spWantRoad CI CR) := cal_want_road D.want_road G c.ca c_want mH
  have c_want_size : CalX P w K mg base 6 "want_size" (spWantSize CI CR) := cal_want_size D.want_size G c.ca c_want mP mR c_is_connected
  have c_set_people : CalX P w K mg base 7 "set_people" (spDeed CI CR 1) := cal_set_people D.set_people G c.ca c_want mH
  have c_set_road : CalX P w K mg base 7 "set_road" (spDeed CI CR 2) := cal_set_road D.set_road G c.ca c_want_road c_times_with
  have c_set_store : CalX P w K mg base 7 "set_store" (spDeed CI CR 3) := cal_set_store D.set_store G c.ca c_want mH c_has c_with_place c_without_place
  have c_ask_distance : CalX P w K mg base 7 "ask_distance" (spRead CI CR 4) := cal_ask_distance D.ask_distance G c.ca c_want c_defined mH mR
  have c_ask_matrix : CalX P w K mg base 7 "ask_matrix" (spRead CI CR 5) := cal_ask_matrix D.ask_matrix G c.ca mP mR c_told
  have c_ask_connected : CalX P w K mg base 7 "ask_connected" (spRead CI CR 6) := cal_ask_connected D.ask_connected G c.ca mR c_is_connected
  have c_ask_store_distance : CalX P w K mg base 7 "ask_store_distance" (spRead CI CR 7) := cal_ask_store_distance D.ask_store_distance G c.ca c_want c_defined mH mR c_store_distance
  have c_ask_nearest : CalX P w K mg base 7 "ask_nearest" (spRead CI CR 8) := cal_ask_nearest D.ask_nearest G c.ca c_want mH mR c_nearest_store
  have c_ask_greatest : CalX P w K mg base 7 "ask_greatest" (spRead CI CR 9) := cal_ask_greatest D.ask_greatest G c.ca c_defined mR c_greatest_distance
  have c_ask_total : CalX P w K mg base 7 "ask_total" (spRead CI CR 10) := cal_ask_total D.ask_total G c.ca c_want mR c_greatest_distance c_total_distance
  have c_ask_people_per_store : CalX P w K mg base 7 "ask_people_per_store" (spRead CI CR 11) := cal_ask_people_per_store D.ask_people_per_store G c.ca mR mP c_members c_people_of_store
  have c_ask_without : CalX P w K mg base 7 "ask_without" (spRead CI CR 12) := cal_ask_without D.ask_without G c.ca c_want c_defined mH mR c_has c_without_place c_greatest_distance
  have c_ask_after_loss : CalX P w K mg base 7 "ask_after_loss" (spRead CI CR 13) := cal_ask_after_loss D.ask_after_loss G c.ca c_want c_defined mR c_distance_after_loss
  have c_ask_centers : CalX P w K mg base 7 "ask_centers" (spRead CI CR 14) := cal_ask_centers D.ask_centers G c.ca c_want_size mR c_members c_best_centers c_greatest_distance
  have c_ask_medians : CalX P w K mg base 7 "ask_medians" (spRead CI CR 15) := cal_ask_medians D.ask_medians G c.ca c_want_size mR c_members c_best_medians c_total_distance
  have c_ask_robust_centers : CalX P w K mg base 7 "ask_robust_centers" (spRead CI CR 16) := cal_ask_robust_centers D.ask_robust_centers G c.ca c_want_size mR c_members c_best_robust_centers c_distance_after_loss
  have c_ask_cover : CalX P w K mg base 7 "ask_cover" (spRead CI CR 17) := cal_ask_cover D.ask_cover G c.ca mR mP c_members c_smallest_cover
  have c_ask_farthest_first : CalX P w K mg base 7 "ask_farthest_first" (spRead CI CR 18) := cal_ask_farthest_first D.ask_farthest_first G c.ca c_want_size mR c_members c_farthest_first c_greatest_distance
  have c_set_stores : Cal P w K mg base 2 "set_stores" (spSetStores CI) := cal_set_stores D.set_stores G c.ca c_with_place
  have c_use_centers : CalX P w K mg base 8 "use_centers" (spDeed CI CR 19) := cal_use_centers D.use_centers G c.ca c_ask_centers c_set_stores
  have c_use_medians : CalX P w K mg base 8 "use_medians" (spDeed CI CR 20) := cal_use_medians D.use_medians G c.ca c_ask_medians c_set_stores
  have c_use_robust_centers : CalX P w K mg base 8 "use_robust_centers" (spDeed CI CR 21) := cal_use_robust_centers D.use_robust_centers G c.ca c_ask_robust_centers c_set_stores
  have c_ask_with : CalX P w K mg base 7 "ask_with" (spRead CI CR 22) := cal_ask_with D.ask_with G c.ca c_want c_defined mH mR c_has c_with_place c_greatest_distance
  have c_ask_additional : CalX P w K mg base 7 "ask_additional" (spRead CI CR 23) := cal_ask_additional D.ask_additional G c.ca c_want mR c_members c_with_place c_greatest_distance c_best_additional_store c_told
  have c_ask_with_road : CalX P w K mg base 7 "ask_with_road" (spRead CI CR 24) := cal_ask_with_road D.ask_with_road G c.ca c_want_road c_defined c_times_with c_distance_rows c_greatest_distance
  have c_ask_within : CalX P w K mg base 7 "ask_within" (spRead CI CR 25) := cal_ask_within D.ask_within G c.ca mR c_places_within
  have c_ask_summary : CalX P w K mg base 7 "ask_summary" (spRead CI CR 26) := cal_ask_summary D.ask_summary G c.ca mP c_road_count
  have c_create : CalX P w K mg base 5 "create" (spCreate CH CI CR) := cal_create D.create G c.ca c_want mI
  have dd : ∀ i, 1 ≤ i → i < 27 → DeedOk P w K mg base CI CR Dd i := fun i h1 h2 => by
    have c0 : i = 1 ∨ i = 2 ∨ i = 3 ∨ i = 4 ∨ i = 5 ∨ i = 6 ∨ i = 7 ∨ i = 8 ∨ i = 9 ∨ i = 10 ∨ i = 11 ∨ i = 12 ∨ i = 13 ∨ i = 14 ∨ i = 15 ∨ i = 16 ∨ i = 17 ∨ i = 18 ∨ i = 19 ∨ i = 20 ∨ i = 21 ∨ i = 22 ∨ i = 23 ∨ i = 24 ∨ i = 25 ∨ i = 26 := by omega
    rcases c0 with rfl | rfl | rfl | rfl | rfl | rfl | rfl | rfl | rfl | rfl | rfl | rfl | rfl | rfl | rfl | rfl | rfl | rfl | rfl | rfl | rfl | rfl | rfl | rfl | rfl | rfl
    · exact deed_mk c_set_people (by decide) t.d1
    · exact deed_mk c_set_road (by decide) t.d2
    · exact deed_mk c_set_store (by decide) t.d3
    · exact deed_mk (read_deed c_ask_distance ro_4) (by decide) t.d4
    · exact deed_mk (read_deed c_ask_matrix ro_5) (by decide) t.d5
    · exact deed_mk (read_deed c_ask_connected ro_6) (by decide) t.d6
    · exact deed_mk (read_deed c_ask_store_distance ro_7) (by decide) t.d7
    · exact deed_mk (read_deed c_ask_nearest ro_8) (by decide) t.d8
    · exact deed_mk (read_deed c_ask_greatest ro_9) (by decide) t.d9
    · exact deed_mk (read_deed c_ask_total ro_10) (by decide) t.d10
    · exact deed_mk (read_deed c_ask_people_per_store ro_11) (by decide) t.d11
    · exact deed_mk (read_deed c_ask_without ro_12) (by decide) t.d12
    · exact deed_mk (read_deed c_ask_after_loss ro_13) (by decide) t.d13
    · exact deed_mk (read_deed c_ask_centers ro_14) (by decide) t.d14
    · exact deed_mk (read_deed c_ask_medians ro_15) (by decide) t.d15
    · exact deed_mk (read_deed c_ask_robust_centers ro_16) (by decide) t.d16
    · exact deed_mk (read_deed c_ask_cover ro_17) (by decide) t.d17
    · exact deed_mk (read_deed c_ask_farthest_first ro_18) (by decide) t.d18
    · exact deed_mk c_use_centers (by decide) t.d19
    · exact deed_mk c_use_medians (by decide) t.d20
    · exact deed_mk c_use_robust_centers (by decide) t.d21
    · exact deed_mk (read_deed c_ask_with ro_22) (by decide) t.d22
    · exact deed_mk (read_deed c_ask_additional ro_23) (by decide) t.d23
    · exact deed_mk (read_deed c_ask_with_road ro_24) (by decide) t.d24
    · exact deed_mk (read_deed c_ask_within ro_25) (by decide) t.d25
    · exact deed_mk (read_deed c_ask_summary ro_26) (by decide) t.d26
  have c_performed : CalX P w K mg base 10 "performed" (spPerf CH CI CR) := cal_performed D.performed G c.ca c_want c_create t.g dd
  have c_answer_of : Cal P w K mg base 11 "answer_of" (spAnsOf CH CI) := cal_answer_of D.answer_of G T c_performed
  exact ok_answers Fm G c.ca mK c_answer_of u.g u.t
theorem fin {h : Heap} {fa : Addr} (X : K.In h) (G : h.Ns mainGlobals mg) (hmg : mg "answers" = some (.ref fa)) (gb : Gb mg) (tp : Tp K mg) (tc : ∃ CI CH, Tc K mg CI CH) (rf : ∃ CR, Rf K mg CR) (td : ∃ Dd, Td K mg Dd) (ta : ∃ TA, Ta K mg TA) (da : Df K mg "answers" (top 91)) :
    ∃ fd : FuncData, (∀ (s : Shared) (us : List Value), us.length = (["calls"] : List Str).length → BindsTo s fd ⟨us, []⟩ ((["calls"] : List Str).zip us)) ∧ ∀ base : Heap, K.In base → base.Ns mainGlobals mg → FnOk P w K mg base CX0 13 fa fd ["calls"] (spMain K) := by
  obtain ⟨CI, CH, tc⟩ := tc
  obtain ⟨CR, rf⟩ := rf
  obtain ⟨Dd, td⟩ := td
  obtain ⟨TA, ta⟩ := ta
  obtain ⟨f, fd, F, hm⟩ := da.ex
  rw [hm] at hmg
  obtain rfl := Value.ref.inj (Option.some.inj hmg)
  refine ⟨fd, fun s us hu => ?_, fun base _ _ => all_ok F gb tp tc rf td ta⟩
  obtain ⟨oc, od, kV, doc, pm, an, cdv, ct, osl, rfl, _⟩ := F.ex
  exact match us, hu with | [_], _ => .of_eq rfl
/-! #### facts of the written part, as the end finds them -/
theorem df_mk {h : Heap} {x : Str} {st : Stmt} {f : Addr} {oc : Value} {od an : Option Addr} {osl : Array (Option Value)} {kV doc pm cdv ct : Value} (X : K.In h) (G : h.Ns mainGlobals mg) (a : PySem.W.nsIn K mainGlobals x = some (some (.ref f)))
    (l : K.lookup f = some ⟨oc, od, .func (PySem.W.fnOf x x (defArgs st) (defBody st) (defScope st) .none kV doc pm an cdv ct), osl⟩) (c : PySem.W.codeIn K cdv x = true) (k : PySem.W.keepIn K (.ref f) = true) : Df K mg x st := ⟨f, _, fun_mk l c k, PySem.W.mg_of X G a⟩
theorem dm_mk {m qual : Str} {st : Stmt} {C f : Addr} {oc : Value} {od an : Option Addr} {osl : Array (Option Value)} {kV doc pm cdv ct : Value} (a : PySem.W.findIn K (.ref C) m = some (some (.ref f)))
    (l : K.lookup f = some ⟨oc, od, .func (PySem.W.fnOf m qual (defArgs st) (defBody st) (defScope st) .none kV doc pm an cdv ct), osl⟩) (c : PySem.W.codeIn K cdv qual = true) (k : PySem.W.keepIn K (.ref f) = true) (i : PySem.W.isFn K (.ref f) = true) : Dm K C m qual st := ⟨f, _, fun_mk l c k, ⟨a, i, k⟩⟩
theorem di_mk {h : Heap} {x qual : Str} {st : Stmt} {C f : Addr} {oc : Value} {od an : Option Addr} {osl : Array (Option Value)} {kV doc pm cdv ct : Value} (X : K.In h) (G : h.Ns mainGlobals mg) (aC : PySem.W.nsIn K mainGlobals x = some (some (.ref C))) (mk : PySem.W.makesIn K C = true) (kC : PySem.W.keepIn K (.ref C) = true)
    (a : PySem.W.findIn K (.ref C) "__init__" = some (some (.ref f))) (l : K.lookup f = some ⟨oc, od, .func (PySem.W.fnOf "__init__" qual (defArgs st) (defBody st) (defScope st) .none kV doc pm an cdv ct), osl⟩) (c : PySem.W.codeIn K cdv qual = true) (k : PySem.W.keepIn K (.ref f) = true) (i : PySem.W.isFn K (.ref f) = true) : Di K mg x C qual st :=
  ⟨f, _, fun_mk l c k, ⟨mk, a, i, kC⟩, PySem.W.mg_of X G aC⟩
theorem gc_mk {h : Heap} {x : Str} {i : Int} {t : Tok} (X : K.In h) (G : h.Ns mainGlobals mg) (a : PySem.W.nsIn K mainGlobals x = some (some (.int i t))) : Gc mg x (.int i) := ⟨_, PySem.W.mg_of X G a, ⟨t, rfl⟩⟩
theorem gr_mk {h : Heap} {x : Str} {f : Addr} (X : K.In h) (G : h.Ns mainGlobals mg) (a : PySem.W.nsIn K mainGlobals x = some (some (.ref f))) : Gc mg x (.ref f) := ⟨_, PySem.W.mg_of X G a, rfl⟩
theorem dk_mk {h : Heap} {x : Str} {f Dd : Addr} {i : Nat} {es : Array DictEntry} {n : Nat} (X : K.In h) (G : h.Ns mainGlobals mg) (lk : K.lookup Dd = some ⟨.type "dict", none, .dict es n, #[]⟩) (hk : keyInt es.toList = true) (a : PySem.W.nsIn K mainGlobals x = some (some (.ref f))) (e : findBy Value.isInt es (i : Int) = some (.ref f)) :
    ∃ f, mg x = some (.ref f) ∧ KInt K Dd (i : Int) (.ref f) := ⟨f, PySem.W.mg_of X G a, es, n, .ref f, lk, hk, e, rfl⟩
def intsOk : List Nat → List Value → Bool
  | [], [] => true
  | n :: r, .int i _ :: s => decide (i = (n : Int)) && intsOk r s
  | _, _ => false
theorem ints_vals : ∀ (l : List Nat) (us : List Value), intsOk l us = true → Vals (nV l) us
  | [], [], _ => .nil
  | n :: r, u :: s, h => by
    cases u with
    | int i t =>
      have h' := Bool.and_eq_true_iff.mp h
      have e := of_decide_eq_true h'.1
      subst e
      exact .cons ⟨t, rfl⟩ (ints_vals r s h'.2)
    | _ => cases h
  | [], _ :: _, h => by cases h
  | _ :: _, [], h => by cases h
theorem ta_mk {h : Heap} {TA : Addr} {dd : Option Addr} {its : Array Value} {n : Nat} {sl : Array (Option Value)} (X : K.In h) (G : h.Ns mainGlobals mg) (a : PySem.W.nsIn K mainGlobals "ARGUMENTS" = some (some (.ref TA))) (l : K.lookup TA = some ⟨.type "tuple", dd, .seq its n, sl⟩) (z : its.size ≤ sizeLine) (v : intsOk Ns.arity its.toList = true) : Ta K mg TA :=
  ⟨gr_mk X G a, fun H => Or.inr ⟨_, its, n, l, rfl, rfl, z, ints_vals _ _ v⟩⟩
theorem exm_self {C : Addr} (h1 : PySem.W.subIn K (.ref C) (.type "BaseException") = some true) (h2 : PySem.W.isClsIn K C = true) (h3 : PySem.W.typeIn K (.ref C) = some (.type "type")) (h4 : PySem.W.subIn K (.ref C) (.ref C) = some true) : PySem.W.exmOne K (.ref C) (.ref C) = some true := by
  have e1 : (PySem.W.subIn K (.ref C) (.type "BaseException") == some true) = true := by rw [h1] <;> rfl
  have e2 : ((PySem.W.clsIn K C).isSome && PySem.W.typeIn K (.ref C) == some (.type "type")) = true := by
    have h2' : (PySem.W.clsIn K C).isSome = true := h2
    rw [h2', h3] <;> rfl
  show (if (PySem.W.subIn K (.ref C) (.type "BaseException") == some true) = true then (if ((PySem.W.clsIn K C).isSome && PySem.W.typeIn K (.ref C) == some (.type "type")) = true then PySem.W.subIn K (.ref C) (.ref C) else none) else none) = some true
  rw [if_pos e1, if_pos e2]
  exact h4
theorem rf_mk {h : Heap} {C f : Addr} {oc : Value} {od an : Option Addr} {osl : Array (Option Value)} {kV doc pm cdv ct : Value} {nm q : Str} {N : Addr} {bs : List Value} {sn : List Str} {sub : List Value} {ab : Bool} {col : Option Bool} {dd : Option Addr} {m0 m1 m2 m3 m5 : Option Value}
    (X : K.In h) (G : h.Ns mainGlobals mg) (aC : PySem.W.nsIn K mainGlobals "Refusal" = some (some (.ref C)))
    (xL : K.lookup C = some (excClassObj nm q C N bs [.type "ValueError", .type "Exception", .type "BaseException", .type "object"] true sn sub ab col dd m0 m1 m2 m3 m5 "ValueError.__new__"))
    (sa : PySem.W.findIn K (.ref C) "__setattr__" = some (some (.builtin "object.__setattr__"))) (ga : PySem.W.findIn K (.ref C) "__getattribute__" = some (some (.builtin "BaseException.__getattribute__"))) (gg : PySem.W.findIn K (.ref C) "__getattr__" = some none) (nb : PySem.W.findIn K (.ref C) "code" = some none)
    (a1 : PySem.W.findIn K (.ref C) "__init__" = some (some (.ref f))) (t1 : PySem.W.typeIn K (.ref f) = some (.type "function")) (l : K.lookup f = some ⟨oc, od, .func (PySem.W.fnOf "__init__" "Refusal.__init__" (defArgs (inClass (top 47) 0)) (defBody (inClass (top 47) 0)) (defScope (inClass (top 47) 0)) .none kV doc pm an cdv ct), osl⟩)
    (c : PySem.W.codeIn K cdv "Refusal.__init__" = true) (kf : PySem.W.keepIn K (.ref f) = true) (kC : PySem.W.keepIn K (.ref C) = true) (eC : PySem.W.subIn K (.ref C) (.type "BaseException") = some true) (tC : PySem.W.typeIn K (.ref C) = some (.type "type")) (hC : PySem.W.hasDictIn K C = true) (iC : PySem.W.isClsIn K C = true) (sC : PySem.W.subIn K (.ref C) (.ref C) = some true)
    (vV : PySem.W.findCls K (.type "ValueError") (.type "type") "__init__" = some (.val (.builtin "ValueError.__init__"))) : Rf K mg C :=
  { oex := ⟨⟨nm, q, N, bs, _, sn, sub, ab, col, dd, m0, m1, m2, m3, m5, xL, by decide +kernel⟩, sa, eC, tC, kC⟩, noc := nb, xf := ⟨ga, gg, eC, hC⟩, gC := PySem.W.mg_of X G aC, ini := ⟨f, _, fun_mk l c kf, a1, t1⟩, vV := vV, te := exm_self eC iC tC sC }
end
end Nw

/-! ### 3s. What the codec tells -/
namespace Nw
open PySem PySem.Spec PyProof.Rows L2
theorem within_list {l : List Int} (h : PySem.W.Codec.inList 0 160 (PySem.W.Codec.inInt 0 4294967295) l = true) : l.length ≤ 160 ∧ ∀ x ∈ l, 0 ≤ x := by
  have h1 := Bool.and_eq_true_iff.mp h
  have h2 : (decide (0 ≤ l.length) && decide (l.length ≤ 160)) = true := h1.1
  refine ⟨of_decide_eq_true (Bool.and_eq_true_iff.mp h2).2, fun x hx => ?_⟩
  have h3 := List.all_eq_true.mp h1.2 x hx
  exact of_decide_eq_true (Bool.and_eq_true_iff.mp h3).1
theorem within_is {a : PySem.W.Codec.denoteAll PySem.Challenge.fa_nearstores_s01_answers} (h : PySem.W.Codec.withinAll PySem.Challenge.fa_nearstores_s01_answers a = true) : @LE.le Nat _ (@List.length Int a.1) 160 ∧ ∀ x : Int, x ∈ (a.1 : List Int) → 0 ≤ x :=
  within_list (Bool.and_eq_true_iff.mp (show (PySem.W.Codec.inList 0 160 (PySem.W.Codec.inInt 0 4294967295) a.1 && true) = true from h)).1
end Nw
open PySem PySem.W PyProof.Rows
set_option maxRecDepth 100000 in
set_option maxHeartbeats 8000000 in
theorem PySem.Challenge.cw_nearstores_s01_answers_holds : PySem.Challenge.rw_nearstores_s01_answers.Holds := by
  w_on; k_headS; (case hw => exact ⟨[.list [.int 5]], by decide +kernel, by decide +kernel⟩)
  k_fillS
  refine L2.walk_specK (r := PySem.Challenge.rw_nearstores_s01_answers) (k := 13) (CX := L2.CX0) (ps := ["calls"]) (sp := Nw.spMain) (by decide +kernel) rfl rfl ⟨rfl, by decide, by decide⟩ (fun w h Y => PySem.W.kIn_of Y) ?F ?S (fun _ _ _ _ z => z)
  case F =>
    intro w mg fa h Y KX G hmg
    refine' Nw.fin KX G hmg ?gb ?tp ?tc ?rf ?td ?ta ?da
    case gb =>
      refine' { range := PySem.W.mg_none_of KX G ?range, len := PySem.W.mg_none_of KX G ?len, min := PySem.W.mg_none_of KX G ?min, max := PySem.W.mg_none_of KX G ?max, sum := PySem.W.mg_none_of KX G ?sum, all := PySem.W.mg_none_of KX G ?all, list := PySem.W.mg_none_of KX G ?list, ve := PySem.W.mg_none_of KX G ?ve, far := Nw.gc_mk KX G ?far, nowhere := Nw.gc_mk KX G ?nowhere, noInstance := Nw.gc_mk KX G ?noInstance, noPlace := Nw.gc_mk KX G ?noPlace, notInRange := Nw.gc_mk KX G ?notInRange, noStore := Nw.gc_mk KX G ?noStore, storeThere := Nw.gc_mk KX G ?storeThere, noPlaceLeft := Nw.gc_mk KX G ?noPlaceLeft, undefined := Nw.gc_mk KX G ?undefined, mostPeople := Nw.gc_mk KX G ?mostPeople, mostTime := Nw.gc_mk KX G ?mostTime, create := Nw.gc_mk KX G ?create, mostPlaces := Nw.gc_mk KX G ?mostPlaces }
      (case range => k_is); (case len => k_is); (case min => k_is); (case max => k_is); (case sum => k_is); (case all => k_is); (case list => k_is); (case ve => k_is); (case far => k_is); (case nowhere => k_is); (case noInstance => k_is); (case noPlace => k_is); (case notInRange => k_is); (case noStore => k_is); (case storeThere => k_is); (case noPlaceLeft => k_is); (case undefined => k_is); (case mostPeople => k_is); (case mostTime => k_is); (case create => k_is); (case mostPlaces => k_is)
    case da =>
      refine' Nw.df_mk KX G ?a ?l ?c ?k
      (case a => k_is); (case l => k_is); (case c => k_is); (case k => k_is)
    case tp =>
      refine' ⟨?d2, ?d3, ?d4, ?d5, ?d6, ?d7, ?d8, ?d9, ?d10, ?d15, ?d16, ?d17, ?d18, ?d19, ?d20, ?d23, ?d24, ?d25, ?d26, ?d27, ?d28, ?d29, ?d31, ?d32, ?d33, ?d34, ?d35, ?d36, ?d37, ?d38, ?d48, ?d52, ?d53, ?d54, ?d55, ?d56, ?d57, ?d58, ?d59, ?d60, ?d61, ?d62, ?d63, ?d64, ?d65, ?d66, ?d67, ?d68, ?d69, ?d70, ?d71, ?d72, ?d73, ?d74, ?d75, ?d76, ?d77, ?d78, ?d79, ?d80, ?d81, ?d82, ?d88, ?d89, ?d90⟩
      case d2 =>
        refine' Nw.df_mk KX G ?a ?l ?c ?k
        (case a => k_is); (case l => k_is); (case c => k_is); (case k => k_is)
      case d3 =>
        refine' Nw.df_mk KX G ?a ?l ?c ?k
        (case a => k_is); (case l => k_is); (case c => k_is); (case k => k_is)
      case d4 =>
        refine' Nw.df_mk KX G ?a ?l ?c ?k
        (case a => k_is); (case l => k_is); (case c => k_is); (case k => k_is)
      case d5 =>
        refine' Nw.df_mk KX G ?a ?l ?c ?k
        (case a => k_is); (case l => k_is); (case c => k_is); (case k => k_is)
      case d6 =>
        refine' Nw.df_mk KX G ?a ?l ?c ?k
        (case a => k_is); (case l => k_is); (case c => k_is); (case k => k_is)
      case d7 =>
        refine' Nw.df_mk KX G ?a ?l ?c ?k
        (case a => k_is); (case l => k_is); (case c => k_is); (case k => k_is)
      case d8 =>
        refine' Nw.df_mk KX G ?a ?l ?c ?k
        (case a => k_is); (case l => k_is); (case c => k_is); (case k => k_is)
      case d9 =>
        refine' Nw.df_mk KX G ?a ?l ?c ?k
        (case a => k_is); (case l => k_is); (case c => k_is); (case k => k_is)
      case d10 =>
        refine' Nw.df_mk KX G ?a ?l ?c ?k
        (case a => k_is); (case l => k_is); (case c => k_is); (case k => k_is)
      case d15 =>
        refine' Nw.df_mk KX G ?a ?l ?c ?k
        (case a => k_is); (case l => k_is); (case c => k_is); (case k => k_is)
      case d16 =>
        refine' Nw.df_mk KX G ?a ?l ?c ?k
        (case a => k_is); (case l => k_is); (case c => k_is); (case k => k_is)
      case d17 =>
        refine' Nw.df_mk KX G ?a ?l ?c ?k
        (case a => k_is); (case l => k_is); (case c => k_is); (case k => k_is)
      case d18 =>
        refine' Nw.df_mk KX G ?a ?l ?c ?k
        (case a => k_is); (case l => k_is); (case c => k_is); (case k => k_is)
      case d19 =>
        refine' Nw.df_mk KX G ?a ?l ?c ?k
        (case a => k_is); (case l => k_is); (case c => k_is); (case k => k_is)
      case d20 =>
        refine' Nw.df_mk KX G ?a ?l ?c ?k
        (case a => k_is); (case l => k_is); (case c => k_is); (case k => k_is)
      case d23 =>
        refine' Nw.df_mk KX G ?a ?l ?c ?k
        (case a => k_is); (case l => k_is); (case c => k_is); (case k => k_is)
      case d24 =>
        refine' Nw.df_mk KX G ?a ?l ?c ?k
        (case a => k_is); (case l => k_is); (case c => k_is); (case k => k_is)
      case d25 =>
        refine' Nw.df_mk KX G ?a ?l ?c ?k
        (case a => k_is); (case l => k_is); (case c => k_is); (case k => k_is)
      case d26 =>
        refine' Nw.df_mk KX G ?a ?l ?c ?k
        (case a => k_is); (case l => k_is); (case c => k_is); (case k => k_is)
      case d27 =>
        refine' Nw.df_mk KX G ?a ?l ?c ?k
        (case a => k_is); (case l => k_is); (case c => k_is); (case k => k_is)
      case d28 =>
        refine' Nw.df_mk KX G ?a ?l ?c ?k
        (case a => k_is); (case l => k_is); (case c => k_is); (case k => k_is)
      case d29 =>
        refine' Nw.df_mk KX G ?a ?l ?c ?k
        (case a => k_is); (case l => k_is); (case c => k_is); (case k => k_is)
      case d31 =>
        refine' Nw.df_mk KX G ?a ?l ?c ?k
        (case a => k_is); (case l => k_is); (case c => k_is); (case k => k_is)
      case d32 =>
        refine' Nw.df_mk KX G ?a ?l ?c ?k
        (case a => k_is); (case l => k_is); (case c => k_is); (case k => k_is)
      case d33 =>
        refine' Nw.df_mk KX G ?a ?l ?c ?k
        (case a => k_is); (case l => k_is); (case c => k_is); (case k => k_is)
      case d34 =>
        refine' Nw.df_mk KX G ?a ?l ?c ?k
        (case a => k_is); (case l => k_is); (case c => k_is); (case k => k_is)
      case d35 =>
        refine' Nw.df_mk KX G ?a ?l ?c ?k
        (case a => k_is); (case l => k_is); (case c => k_is); (case k => k_is)
      case d36 =>
        refine' Nw.df_mk KX G ?a ?l ?c ?k
        (case a => k_is); (case l => k_is); (case c => k_is); (case k => k_is)
      case d37 =>
        refine' Nw.df_mk KX G ?a ?l ?c ?k
        (case a => k_is); (case l => k_is); (case c => k_is); (case k => k_is)
      case d38 =>
        refine' Nw.df_mk KX G ?a ?l ?c ?k
        (case a => k_is); (case l => k_is); (case c => k_is); (case k => k_is)
      case d48 =>
        refine' Nw.df_mk KX G ?a ?l ?c ?k
        (case a => k_is); (case l => k_is); (case c => k_is); (case k => k_is)
      case d52 =>
        refine' Nw.df_mk KX G ?a ?l ?c ?k
        (case a => k_is); (case l => k_is); (case c => k_is); (case k => k_is)
      case d53 =>
        refine' Nw.df_mk KX G ?a ?l ?c ?k
        (case a => k_is); (case l => k_is); (case c => k_is); (case k => k_is)
      case d54 =>
        refine' Nw.df_mk KX G ?a ?l ?c ?k
        (case a => k_is); (case l => k_is); (case c => k_is); (case k => k_is)
      case d55 =>
        refine' Nw.df_mk KX G ?a ?l ?c ?k
        (case a => k_is); (case l => k_is); (case c => k_is); (case k => k_is)
      case d56 =>
        refine' Nw.df_mk KX G ?a ?l ?c ?k
        (case a => k_is); (case l => k_is); (case c => k_is); (case k => k_is)
      case d57 =>
        refine' Nw.df_mk KX G ?a ?l ?c ?k
        (case a => k_is); (case l => k_is); (case c => k_is); (case k => k_is)
      case d58 =>
        refine' Nw.df_mk KX G ?a ?l ?c ?k
        (case a => k_is); (case l => k_is); (case c => k_is); (case k => k_is)
      case d59 =>
        refine' Nw.df_mk KX G ?a ?l ?c ?k
        (case a => k_is); (case l => k_is); (case c => k_is); (case k => k_is)
      case d60 =>
        refine' Nw.df_mk KX G ?a ?l ?c ?k
        (case a => k_is); (case l => k_is); (case c => k_is); (case k => k_is)
      case d61 =>
        refine' Nw.df_mk KX G ?a ?l ?c ?k
        (case a => k_is); (case l => k_is); (case c => k_is); (case k => k_is)
      case d62 =>
        refine' Nw.df_mk KX G ?a ?l ?c ?k
        (case a => k_is); (case l => k_is); (case c => k_is); (case k => k_is)
      case d63 =>
        refine' Nw.df_mk KX G ?a ?l ?c ?k
        (case a => k_is); (case l => k_is); (case c => k_is); (case k => k_is)
      case d64 =>
        refine' Nw.df_mk KX G ?a ?l ?c ?k
        (case a => k_is); (case l => k_is); (case c => k_is); (case k => k_is)
      case d65 =>
        refine' Nw.df_mk KX G ?a ?l ?c ?k
        (case a => k_is); (case l => k_is); (case c => k_is); (case k => k_is)
      case d66 =>
        refine' Nw.df_mk KX G ?a ?l ?c ?k
        (case a => k_is); (case l => k_is); (case c => k_is); (case k => k_is)
      case d67 =>
        refine' Nw.df_mk KX G ?a ?l ?c ?k
        (case a => k_is); (case l => k_is); (case c => k_is); (case k => k_is)
      case d68 =>
        refine' Nw.df_mk KX G ?a ?l ?c ?k
        (case a => k_is); (case l => k_is); (case c => k_is); (case k => k_is)
      case d69 =>
        refine' Nw.df_mk KX G ?a ?l ?c ?k
        (case a => k_is); (case l => k_is); (case c => k_is); (case k => k_is)
      case d70 =>
        refine' Nw.df_mk KX G ?a ?l ?c ?k
        (case a => k_is); (case l => k_is); (case c => k_is); (case k => k_is)
      case d71 =>
        refine' Nw.df_mk KX G ?a ?l ?c ?k
        (case a => k_is); (case l => k_is); (case c => k_is); (case k => k_is)
      case d72 =>
        refine' Nw.df_mk KX G ?a ?l ?c ?k
        (case a => k_is); (case l => k_is); (case c => k_is); (case k => k_is)
      case d73 =>
        refine' Nw.df_mk KX G ?a ?l ?c ?k
        (case a => k_is); (case l => k_is); (case c => k_is); (case k => k_is)
      case d74 =>
        refine' Nw.df_mk KX G ?a ?l ?c ?k
        (case a => k_is); (case l => k_is); (case c => k_is); (case k => k_is)
      case d75 =>
        refine' Nw.df_mk KX G ?a ?l ?c ?k
        (case a => k_is); (case l => k_is); (case c => k_is); (case k => k_is)
      case d76 =>
        refine' Nw.df_mk KX G ?a ?l ?c ?k
        (case a => k_is); (case l => k_is); (case c => k_is); (case k => k_is)
      case d77 =>
        refine' Nw.df_mk KX G ?a ?l ?c ?k
        (case a => k_is); (case l => k_is); (case c => k_is); (case k => k_is)
      case d78 =>
        refine' Nw.df_mk KX G ?a ?l ?c ?k
        (case a => k_is); (case l => k_is); (case c => k_is); (case k => k_is)
      case d79 =>
        refine' Nw.df_mk KX G ?a ?l ?c ?k
        (case a => k_is); (case l => k_is); (case c => k_is); (case k => k_is)
      case d80 =>
        refine' Nw.df_mk KX G ?a ?l ?c ?k
        (case a => k_is); (case l => k_is); (case c => k_is); (case k => k_is)
      case d81 =>
        refine' Nw.df_mk KX G ?a ?l ?c ?k
        (case a => k_is); (case l => k_is); (case c => k_is); (case k => k_is)
      case d82 =>
        refine' Nw.df_mk KX G ?a ?l ?c ?k
        (case a => k_is); (case l => k_is); (case c => k_is); (case k => k_is)
      case d88 =>
        refine' Nw.df_mk KX G ?a ?l ?c ?k
        (case a => k_is); (case l => k_is); (case c => k_is); (case k => k_is)
      case d89 =>
        refine' Nw.df_mk KX G ?a ?l ?c ?k
        (case a => k_is); (case l => k_is); (case c => k_is); (case k => k_is)
      case d90 =>
        refine' Nw.df_mk KX G ?a ?l ?c ?k
        (case a => k_is); (case l => k_is); (case c => k_is); (case k => k_is)
    case tc =>
      refine' ⟨_, _, ⟨⟨⟨?pg, ?zhd, ?po, ?sa⟩, ?np, ?nt, ?ns, ⟨?pg2, ?zhd2, ?po2, ?sa2⟩, ?nh⟩, Nw.di_mk KX G ?aC ?mk ?kC ?ia ?il ?ic ?ik ?ii, Nw.di_mk KX G ?aH ?mkH ?kH ?zha ?zhl ?zhc ?zhk ?zhi, Nw.dm_mk ?a1 ?l1 ?c1 ?k1 ?i1, Nw.dm_mk ?a2 ?l2 ?c2 ?k2 ?i2, Nw.dm_mk ?a3 ?l3 ?c3 ?k3 ?i3⟩⟩
      (case aC => k_is); (case aH => k_is)
      (case pg => k_is); (case zhd => k_is); (case po => k_is); (case sa => k_is); (case np => unfold L2.NoAttr; k_is); (case nt => unfold L2.NoAttr; k_is); (case ns => unfold L2.NoAttr; k_is); (case pg2 => k_is); (case zhd2 => k_is); (case po2 => k_is); (case sa2 => k_is); (case nh => unfold L2.NoAttr; k_is)
      (case mk => k_is); (case kC => k_is); (case ia => k_is); (case il => k_is); (case ic => k_is); (case ik => k_is); (case ii => k_is)
      (case mkH => k_is); (case kH => k_is); (case zha => k_is); (case zhl => k_is); (case zhc => k_is); (case zhk => k_is); (case zhi => k_is)
      (case a1 => k_is); (case l1 => k_is); (case c1 => k_is); (case k1 => k_is); (case i1 => k_is)
      (case a2 => k_is); (case l2 => k_is); (case c2 => k_is); (case k2 => k_is); (case i2 => k_is)
      (case a3 => k_is); (case l3 => k_is); (case c3 => k_is); (case k3 => k_is); (case i3 => k_is)
    case rf =>
      refine' ⟨_, Nw.rf_mk KX G ?aC ?xL ?sa ?ga ?gg ?nb ?a1 ?t1 ?l ?c ?kf ?kC ?eC ?tC ?hC ?iC ?sC ?vV⟩
      (case aC => k_is); (case xL => k_is); (case sa => k_is); (case ga => k_is); (case gg => k_is); (case nb => k_is); (case a1 => k_is); (case t1 => k_is); (case l => k_is); (case c => k_is); (case kf => k_is); (case kC => k_is)
      (case eC => k_is); (case tC => k_is); (case hC => k_is); (case iC => k_is); (case sC => first | rfl | k_is); (case vV => k_is)
    case ta =>
      refine' ⟨_, Nw.ta_mk KX G ?a ?l ?z ?v⟩
      (case a => k_is); (case l => k_is); (case z => decide +kernel); (case v => decide +kernel)
    case td =>
      refine' ⟨_, ⟨Nw.gr_mk KX G ?g, Nw.dk_mk KX G ?l1 ?h1 ?a1 ?e1, Nw.dk_mk KX G ?l2 ?h2 ?a2 ?e2, Nw.dk_mk KX G ?l3 ?h3 ?a3 ?e3, Nw.dk_mk KX G ?l4 ?h4 ?a4 ?e4, Nw.dk_mk KX G ?l5 ?h5 ?a5 ?e5, Nw.dk_mk KX G ?l6 ?h6 ?a6 ?e6, Nw.dk_mk KX G ?l7 ?h7 ?a7 ?e7, Nw.dk_mk KX G ?l8 ?h8 ?a8 ?e8, Nw.dk_mk KX G ?l9 ?h9 ?a9 ?e9, Nw.dk_mk KX G ?l10 ?h10 ?a10 ?e10, Nw.dk_mk KX G ?l11 ?h11 ?a11 ?e11, Nw.dk_mk KX G ?l12 ?h12 ?a12 ?e12, Nw.dk_mk KX G ?l13 ?h13 ?a13 ?e13, Nw.dk_mk KX G ?l14 ?h14 ?a14 ?e14, Nw.dk_mk KX G ?l15 ?h15 ?a15 ?e15, Nw.dk_mk KX G ?l16 ?h16 ?a16 ?e16, Nw.dk_mk KX G ?l17 ?h17 ?a17 ?e17, Nw.dk_mk KX G ?l18 ?h18 ?a18 ?e18, Nw.dk_mk KX G ?l19 ?h19 ?a19 ?e19, Nw.dk_mk KX G ?l20 ?h20 ?a20 ?e20, Nw.dk_mk KX G ?l21 ?h21 ?a21 ?e21, Nw.dk_mk KX G ?l22 ?h22 ?a22 ?e22, Nw.dk_mk KX G ?l23 ?h23 ?a23 ?e23, Nw.dk_mk KX G ?l24 ?h24 ?a24 ?e24, Nw.dk_mk KX G ?l25 ?h25 ?a25 ?e25, Nw.dk_mk KX G ?l26 ?h26 ?a26 ?e26⟩⟩
      (case g => k_is)
      (case l1 => k_is); (case h1 => kernel_rfl); (case a1 => k_is); (case e1 => kernel_rfl)
      (case l2 => k_is); (case h2 => kernel_rfl); (case a2 => k_is); (case e2 => kernel_rfl)
      (case l3 => k_is); (case h3 => kernel_rfl); (case a3 => k_is); (case e3 => kernel_rfl)
      (case l4 => k_is); (case h4 => kernel_rfl); (case a4 => k_is); (case e4 => kernel_rfl)
      (case l5 => k_is); (case h5 => kernel_rfl); (case a5 => k_is); (case e5 => kernel_rfl)
      (case l6 => k_is); (case h6 => kernel_rfl); (case a6 => k_is); (case e6 => kernel_rfl)
      (case l7 => k_is); (case h7 => kernel_rfl); (case a7 => k_is); (case e7 => kernel_rfl)
      (case l8 => k_is); (case h8 => kernel_rfl); (case a8 => k_is); (case e8 => kernel_rfl)
      (case l9 => k_is); (case h9 => kernel_rfl); (case a9 => k_is); (case e9 => kernel_rfl)
      (case l10 => k_is); (case h10 => kernel_rfl); (case a10 => k_is); (case e10 => kernel_rfl)
      (case l11 => k_is); (case h11 => kernel_rfl); (case a11 => k_is); (case e11 => kernel_rfl)
      (case l12 => k_is); (case h12 => kernel_rfl); (case a12 => k_is); (case e12 => kernel_rfl)
      (case l13 => k_is); (case h13 => kernel_rfl); (case a13 => k_is); (case e13 => kernel_rfl)
      (case l14 => k_is); (case h14 => kernel_rfl); (case a14 => k_is); (case e14 => kernel_rfl)
      (case l15 => k_is); (case h15 => kernel_rfl); (case a15 => k_is); (case e15 => kernel_rfl)
      (case l16 => k_is); (case h16 => kernel_rfl); (case a16 => k_is); (case e16 => kernel_rfl)
      (case l17 => k_is); (case h17 => kernel_rfl); (case a17 => k_is); (case e17 => kernel_rfl)
      (case l18 => k_is); (case h18 => kernel_rfl); (case a18 => k_is); (case e18 => kernel_rfl)
      (case l19 => k_is); (case h19 => kernel_rfl); (case a19 => k_is); (case e19 => kernel_rfl)
      (case l20 => k_is); (case h20 => kernel_rfl); (case a20 => k_is); (case e20 => kernel_rfl)
      (case l21 => k_is); (case h21 => kernel_rfl); (case a21 => k_is); (case e21 => kernel_rfl)
      (case l22 => k_is); (case h22 => kernel_rfl); (case a22 => k_is); (case e22 => kernel_rfl)
      (case l23 => k_is); (case h23 => kernel_rfl); (case a23 => k_is); (case e23 => kernel_rfl)
      (case l24 => k_is); (case h24 => kernel_rfl); (case a24 => k_is); (case e24 => kernel_rfl)
      (case l25 => k_is); (case h25 => kernel_rfl); (case a25 => k_is); (case e25 => kernel_rfl)
      (case l26 => k_is); (case h26 => kernel_rfl); (case a26 => k_is); (case e26 => kernel_rfl)
  case S =>
    intro K H xs a hO hwi hask hx
    cases hx with
    | cons h1 h2 =>
      cases h2
      cases h1 with
      | lst hs ha =>
        have e := L2.ints_dw a.1 _ ha
        subst e
        refine ⟨_, a.1, rfl, ?_, (Nw.within_is hwi).1, (Nw.within_is hwi).2, Ns.asked_calls hask, fun p H' hp => .lst (L2.SqL.of hp) (L2.dw_ints _)⟩
        rcases hs with (hs | ⟨o, hs⟩) | hs
        · rcases hO _ with q | ⟨o, u, q⟩
          · rw [hs] at q; cases q
          · rw [hs] at q; cases q
        · exact Or.inl ⟨o, hs⟩
        · exact Or.inr hs
#print axioms PySem.Challenge.cw_nearstores_s01_answers_holds
